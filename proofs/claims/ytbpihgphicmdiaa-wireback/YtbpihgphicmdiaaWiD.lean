/- A part of the proof: contracts of functions of the program. No condition. -/
import Derived.Test.YtbpihgphicmdiaaWiC
namespace Go.Proofs.Ytbpihgphicmdiaa
open Go.Eng Wi
theorem byteV_inj {x y : UInt8} (h : ((x.toNat : Nat) : Int) = ((y.toNat : Nat) : Int)) : x = y := UInt8.toNat_inj.1 (by omega)
theorem EqB_ok {m : Mp} {v w : Value} {xs ys : List UInt8} (hx : SlB m v xs) (hy : SlB m w ys) : CS Try.prog 41 [v, w] m [] (Gives (.bool (decide (xs = ys)))) := by
  obtain ⟨a, c, rfl, ra, la⟩ := hx
  obtain ⟨b, e, rfl, rb, lb⟩ := hy
  refine CS_of [.tmp 4] Try.func41 rfl rfl rfl ?_
  have hmx : xs.length ≤ 9223372036854775807 := la
  by_cases hl : xs.length = ys.length
  · refine TS_seq ?_
    refine TS_region ?_
    refine VS_pure (P_assign rfl) rfl rfl rfl ?_
    refine VS_nil ?_
    refine QS_then ?_
    refine TS_seq ?_
    refine TS_seq ?_
    refine TS_region ?_
    refine VS_pure (P_move rfl) rfl rfl rfl ?_
    refine VS_pure (P_len il22 rfl) rfl rfl rfl ?_
    refine VS_pure (P_move rfl) rfl rfl rfl ?_
    refine VS_pure (P_len il22 rfl) rfl rfl rfl ?_
    refine VS_pure (df (P_neq rfl rfl) (by first | assumption | omega | decide | exact fun hx => hx (by assumption))) rfl rfl rfl ?_
    refine VS_nil ?_
    refine QS_then ?_
    refine TS_false rfl ?_
    refine TS_skip ?_
    refine QS_then ?_
    refine TS_seq ?_
    refine TS_seq ?_
    refine TS_region ?_
    refine VS_pure (P_move rfl) rfl rfl rfl ?_
    refine VS_pure (P_len il22 rfl) rfl rfl rfl ?_
    refine VS_pure (P_move rfl) rfl rfl rfl ?_
    refine VS_nil ?_
    refine QS_then ?_
    refine TS_block ?_
    refine TS_loop (fun i : Nat => [(0, .slice a xs.length c), (1, .slice b ys.length e), (12, .int .i64 (xs.length : Nat)), (13, .int .i64 (i : Nat))]) (fun _ => []) (fun i => i ≤ xs.length ∧ xs.take i = ys.take i) (fun i => xs.length - i) 0 ⟨rfl, rfl, rfl, rfl, trivial⟩ (Pick.nil _) ⟨Nat.zero_le _, rfl⟩ ?_
    rintro i ⟨hi, ht⟩
    by_cases hlt : i < xs.length
    · have hlt2 : i < ys.length := by omega
      have ha := ra.isSome (by simp; omega)
      have hb := rb.isSome (by simp; omega)
      have g1 := Rd_get ra hlt
      have g2 := Rd_get rb hlt2
      unfold byteV at g1 g2
      by_cases hq : xs[i] = ys[i]
      · have hq' : ((xs[i].toNat : Nat) : Int) = ((ys[i].toNat : Nat) : Int) := by rw [hq]
        refine TS_seq ?_
        refine TS_region ?_
        refine VS_pure (dt (P_lss rfl rfl) (by first | assumption | rfl | omega | decide)) rfl rfl rfl ?_
        refine VS_nil ?_
        refine QS_then ?_
        refine TS_seq ?_
        refine TS_true rfl ?_
        refine TS_skip ?_
        refine QS_then ?_
        refine TS_seq ?_
        refine TS_block ?_
        refine TS_seq ?_
        refine TS_region ?_
        refine VS_pure (P_move rfl) rfl rfl rfl ?_
        refine VS_pure (P_assign rfl) rfl rfl rfl ?_
        refine VS_nil ?_
        refine QS_then ?_
        refine TS_seq ?_
        refine TS_draw (.step 0 .pure (.step 1 .pure (.step 2 .pure (.step 4 .pure (.step 5 .pure (.step 6 .pure (.step 3 .read (.step 7 .read (.step 8 .pure (.done)))))))))) mixed (by kernel_rfl) (fun _ _ _ _ hq => hq) ?_
        refine VTS_pure rfl (P_move rfl) rfl rfl rfl ?_
        refine VTS_pure rfl (P_move rfl) rfl rfl rfl ?_
        refine VTS_pure rfl (P_indexAddr1N ez22 rfl rfl ha (by omega)) rfl rfl rfl ?_
        refine VTS_pure rfl (P_move rfl) rfl rfl rfl ?_
        refine VTS_pure rfl (P_move rfl) rfl rfl rfl ?_
        refine VTS_pure rfl (P_indexAddr1N ez22 rfl rfl hb (by omega)) rfl rfl rfl ?_
        refine VTS_read rfl (S_load sg5 rfl g1) rfl rfl rfl ?_
        refine VTS_read rfl (S_load sg5 rfl g2) rfl rfl rfl ?_
        refine VTS_pure rfl (df (P_neq rfl rfl) (by first | assumption | omega | decide | exact fun hx => hx (by assumption))) rfl rfl rfl ?_
        refine VTS_nil ?_
        refine QS_then ?_
        refine TS_false rfl ?_
        refine TS_skip ?_
        refine QS_block ?_
        refine QS_then ?_
        refine TS_region ?_
        refine VS_pure (P_add rfl rfl (w64 (by omega) (by omega))) rfl rfl rfl ?_
        refine VS_pure (P_move rfl) rfl rfl rfl ?_
        refine VS_nil ?_
        exact QS_round (i + 1) ⟨rfl, rfl, rfl, rfl, trivial⟩ (Pick.nil _) ⟨hlt, take_step ht hlt hlt2 hq⟩ (by omega)
      · have hne : xs ≠ ys := fun h => hq (by subst h; rfl)
        rw [decide_eq_false hne]
        have hq' : ¬ ((xs[i].toNat : Nat) : Int) = ((ys[i].toNat : Nat) : Int) := fun h => hq (byteV_inj h)
        refine TS_seq ?_
        refine TS_region ?_
        refine VS_pure (dt (P_lss rfl rfl) (by first | assumption | rfl | omega | decide)) rfl rfl rfl ?_
        refine VS_nil ?_
        refine QS_then ?_
        refine TS_seq ?_
        refine TS_true rfl ?_
        refine TS_skip ?_
        refine QS_then ?_
        refine TS_seq ?_
        refine TS_block ?_
        refine TS_seq ?_
        refine TS_region ?_
        refine VS_pure (P_move rfl) rfl rfl rfl ?_
        refine VS_pure (P_assign rfl) rfl rfl rfl ?_
        refine VS_nil ?_
        refine QS_then ?_
        refine TS_seq ?_
        refine TS_draw (.step 0 .pure (.step 1 .pure (.step 2 .pure (.step 4 .pure (.step 5 .pure (.step 6 .pure (.step 3 .read (.step 7 .read (.step 8 .pure (.done)))))))))) mixed (by kernel_rfl) (fun _ _ _ _ hq => hq) ?_
        refine VTS_pure rfl (P_move rfl) rfl rfl rfl ?_
        refine VTS_pure rfl (P_move rfl) rfl rfl rfl ?_
        refine VTS_pure rfl (P_indexAddr1N ez22 rfl rfl ha (by omega)) rfl rfl rfl ?_
        refine VTS_pure rfl (P_move rfl) rfl rfl rfl ?_
        refine VTS_pure rfl (P_move rfl) rfl rfl rfl ?_
        refine VTS_pure rfl (P_indexAddr1N ez22 rfl rfl hb (by omega)) rfl rfl rfl ?_
        refine VTS_read rfl (S_load sg5 rfl g1) rfl rfl rfl ?_
        refine VTS_read rfl (S_load sg5 rfl g2) rfl rfl rfl ?_
        refine VTS_pure rfl (dt (P_neq rfl rfl) (by first | assumption | rfl | omega | decide)) rfl rfl rfl ?_
        refine VTS_nil ?_
        refine QS_then ?_
        refine TS_true rfl ?_
        refine TS_seq ?_
        refine TS_region ?_
        refine VS_pure (P_assign rfl) rfl rfl rfl ?_
        refine VS_nil ?_
        refine QS_then ?_
        refine TS_ret ?_
        refine QS_block_ret ?_
        refine QS_then_ret ?_
        refine QS_round_ret ?_
        refine QS_block_ret ?_
        refine QS_then_ret ?_
        exact QS_ret [_] ⟨rfl, trivial⟩ [] (Pick.nil _) ⟨rfl, rfl⟩
    · rw [decide_eq_true (take_all ht (by omega) hl)]
      refine TS_seq ?_
      refine TS_region ?_
      refine VS_pure (df (P_lss rfl rfl) (by first | assumption | omega | decide | exact fun hx => hx (by assumption))) rfl rfl rfl ?_
      refine VS_nil ?_
      refine QS_then ?_
      refine TS_seq ?_
      refine TS_false rfl ?_
      refine TS_exit ?_
      refine QS_then_exit ?_
      refine QS_round_exit ?_
      refine QS_block_here ?_
      refine QS_then ?_
      refine TS_seq ?_
      refine TS_region ?_
      refine VS_pure (P_assign rfl) rfl rfl rfl ?_
      refine VS_nil ?_
      refine QS_then ?_
      refine TS_ret ?_
      exact QS_ret [_] ⟨rfl, trivial⟩ [] (Pick.nil _) ⟨rfl, rfl⟩
  · have hne : xs ≠ ys := fun h => hl (by rw [h])
    rw [decide_eq_false hne]
    refine TS_seq ?_
    refine TS_region ?_
    refine VS_pure (P_assign rfl) rfl rfl rfl ?_
    refine VS_nil ?_
    refine QS_then ?_
    refine TS_seq ?_
    refine TS_seq ?_
    refine TS_region ?_
    refine VS_pure (P_move rfl) rfl rfl rfl ?_
    refine VS_pure (P_len il22 rfl) rfl rfl rfl ?_
    refine VS_pure (P_move rfl) rfl rfl rfl ?_
    refine VS_pure (P_len il22 rfl) rfl rfl rfl ?_
    refine VS_pure (dt (P_neq rfl rfl) (by first | assumption | rfl | omega | decide)) rfl rfl rfl ?_
    refine VS_nil ?_
    refine QS_then ?_
    refine TS_true rfl ?_
    refine TS_seq ?_
    refine TS_region ?_
    refine VS_pure (P_assign rfl) rfl rfl rfl ?_
    refine VS_nil ?_
    refine QS_then ?_
    refine TS_ret ?_
    refine QS_then_ret ?_
    exact QS_ret [_] ⟨rfl, trivial⟩ [] (Pick.nil _) ⟨rfl, rfl⟩
theorem EqS_ok {m : Mp} {v w : Value} {xs ys : List (List UInt8)} (hx : SlS m v xs) (hy : SlS m w ys) : CS Try.prog 42 [v, w] m [] (Gives (.bool (decide (xs = ys)))) := by
  obtain ⟨a, c, rfl, ra, la⟩ := hx
  obtain ⟨b, e, rfl, rb, lb⟩ := hy
  refine CS_of [.tmp 4] Try.func42 rfl rfl rfl ?_
  have hmx : xs.length ≤ 9223372036854775807 := la
  by_cases hl : xs.length = ys.length
  · refine TS_seq ?_
    refine TS_region ?_
    refine VS_pure (P_assign rfl) rfl rfl rfl ?_
    refine VS_nil ?_
    refine QS_then ?_
    refine TS_seq ?_
    refine TS_seq ?_
    refine TS_region ?_
    refine VS_pure (P_move rfl) rfl rfl rfl ?_
    refine VS_pure (P_len il23 rfl) rfl rfl rfl ?_
    refine VS_pure (P_move rfl) rfl rfl rfl ?_
    refine VS_pure (P_len il23 rfl) rfl rfl rfl ?_
    refine VS_pure (df (P_neq rfl rfl) (by first | assumption | omega | decide | exact fun hx => hx (by assumption))) rfl rfl rfl ?_
    refine VS_nil ?_
    refine QS_then ?_
    refine TS_false rfl ?_
    refine TS_skip ?_
    refine QS_then ?_
    refine TS_seq ?_
    refine TS_seq ?_
    refine TS_region ?_
    refine VS_pure (P_move rfl) rfl rfl rfl ?_
    refine VS_pure (P_len il23 rfl) rfl rfl rfl ?_
    refine VS_pure (P_move rfl) rfl rfl rfl ?_
    refine VS_nil ?_
    refine QS_then ?_
    refine TS_block ?_
    refine TS_loop (fun i : Nat => [(0, .slice a xs.length c), (1, .slice b ys.length e), (12, .int .i64 (xs.length : Nat)), (13, .int .i64 (i : Nat))]) (fun _ => []) (fun i => i ≤ xs.length ∧ xs.take i = ys.take i) (fun i => xs.length - i) 0 ⟨rfl, rfl, rfl, rfl, trivial⟩ (Pick.nil _) ⟨Nat.zero_le _, rfl⟩ ?_
    rintro i ⟨hi, ht⟩
    by_cases hlt : i < xs.length
    · have hlt2 : i < ys.length := by omega
      have ha := ra.isSome (by simp; omega)
      have hb := rb.isSome (by simp; omega)
      have g1 := Rd_get ra hlt
      have g2 := Rd_get rb hlt2
      unfold sV at g1 g2
      by_cases hq : xs[i] = ys[i]
      · refine TS_seq ?_
        refine TS_region ?_
        refine VS_pure (dt (P_lss rfl rfl) (by first | assumption | rfl | omega | decide)) rfl rfl rfl ?_
        refine VS_nil ?_
        refine QS_then ?_
        refine TS_seq ?_
        refine TS_true rfl ?_
        refine TS_skip ?_
        refine QS_then ?_
        refine TS_seq ?_
        refine TS_block ?_
        refine TS_seq ?_
        refine TS_region ?_
        refine VS_pure (P_move rfl) rfl rfl rfl ?_
        refine VS_pure (P_assign rfl) rfl rfl rfl ?_
        refine VS_nil ?_
        refine QS_then ?_
        refine TS_seq ?_
        refine TS_draw (.step 0 .pure (.step 1 .pure (.step 2 .pure (.step 4 .pure (.step 5 .pure (.step 6 .pure (.step 3 .read (.step 7 .read (.step 8 .pure (.done)))))))))) mixed (by kernel_rfl) (fun _ _ _ _ hq => hq) ?_
        refine VTS_pure rfl (P_move rfl) rfl rfl rfl ?_
        refine VTS_pure rfl (P_move rfl) rfl rfl rfl ?_
        refine VTS_pure rfl (P_indexAddr1N ez23 rfl rfl ha (by omega)) rfl rfl rfl ?_
        refine VTS_pure rfl (P_move rfl) rfl rfl rfl ?_
        refine VTS_pure rfl (P_move rfl) rfl rfl rfl ?_
        refine VTS_pure rfl (P_indexAddr1N ez23 rfl rfl hb (by omega)) rfl rfl rfl ?_
        refine VTS_read rfl (S_load sg9 rfl g1) rfl rfl rfl ?_
        refine VTS_read rfl (S_load sg9 rfl g2) rfl rfl rfl ?_
        refine VTS_pure rfl (df (P_sneq rfl rfl) (by first | assumption | omega | decide | exact fun hx => hx (by assumption))) rfl rfl rfl ?_
        refine VTS_nil ?_
        refine QS_then ?_
        refine TS_false rfl ?_
        refine TS_skip ?_
        refine QS_block ?_
        refine QS_then ?_
        refine TS_region ?_
        refine VS_pure (P_add rfl rfl (w64 (by omega) (by omega))) rfl rfl rfl ?_
        refine VS_pure (P_move rfl) rfl rfl rfl ?_
        refine VS_nil ?_
        exact QS_round (i + 1) ⟨rfl, rfl, rfl, rfl, trivial⟩ (Pick.nil _) ⟨hlt, take_step ht hlt hlt2 hq⟩ (by omega)
      · have hne : xs ≠ ys := fun h => hq (by subst h; rfl)
        rw [decide_eq_false hne]
        refine TS_seq ?_
        refine TS_region ?_
        refine VS_pure (dt (P_lss rfl rfl) (by first | assumption | rfl | omega | decide)) rfl rfl rfl ?_
        refine VS_nil ?_
        refine QS_then ?_
        refine TS_seq ?_
        refine TS_true rfl ?_
        refine TS_skip ?_
        refine QS_then ?_
        refine TS_seq ?_
        refine TS_block ?_
        refine TS_seq ?_
        refine TS_region ?_
        refine VS_pure (P_move rfl) rfl rfl rfl ?_
        refine VS_pure (P_assign rfl) rfl rfl rfl ?_
        refine VS_nil ?_
        refine QS_then ?_
        refine TS_seq ?_
        refine TS_draw (.step 0 .pure (.step 1 .pure (.step 2 .pure (.step 4 .pure (.step 5 .pure (.step 6 .pure (.step 3 .read (.step 7 .read (.step 8 .pure (.done)))))))))) mixed (by kernel_rfl) (fun _ _ _ _ hq => hq) ?_
        refine VTS_pure rfl (P_move rfl) rfl rfl rfl ?_
        refine VTS_pure rfl (P_move rfl) rfl rfl rfl ?_
        refine VTS_pure rfl (P_indexAddr1N ez23 rfl rfl ha (by omega)) rfl rfl rfl ?_
        refine VTS_pure rfl (P_move rfl) rfl rfl rfl ?_
        refine VTS_pure rfl (P_move rfl) rfl rfl rfl ?_
        refine VTS_pure rfl (P_indexAddr1N ez23 rfl rfl hb (by omega)) rfl rfl rfl ?_
        refine VTS_read rfl (S_load sg9 rfl g1) rfl rfl rfl ?_
        refine VTS_read rfl (S_load sg9 rfl g2) rfl rfl rfl ?_
        refine VTS_pure rfl (dt (P_sneq rfl rfl) (by first | assumption | rfl | omega | decide)) rfl rfl rfl ?_
        refine VTS_nil ?_
        refine QS_then ?_
        refine TS_true rfl ?_
        refine TS_seq ?_
        refine TS_region ?_
        refine VS_pure (P_assign rfl) rfl rfl rfl ?_
        refine VS_nil ?_
        refine QS_then ?_
        refine TS_ret ?_
        refine QS_block_ret ?_
        refine QS_then_ret ?_
        refine QS_round_ret ?_
        refine QS_block_ret ?_
        refine QS_then_ret ?_
        exact QS_ret [_] ⟨rfl, trivial⟩ [] (Pick.nil _) ⟨rfl, rfl⟩
    · rw [decide_eq_true (take_all ht (by omega) hl)]
      refine TS_seq ?_
      refine TS_region ?_
      refine VS_pure (df (P_lss rfl rfl) (by first | assumption | omega | decide | exact fun hx => hx (by assumption))) rfl rfl rfl ?_
      refine VS_nil ?_
      refine QS_then ?_
      refine TS_seq ?_
      refine TS_false rfl ?_
      refine TS_exit ?_
      refine QS_then_exit ?_
      refine QS_round_exit ?_
      refine QS_block_here ?_
      refine QS_then ?_
      refine TS_seq ?_
      refine TS_region ?_
      refine VS_pure (P_assign rfl) rfl rfl rfl ?_
      refine VS_nil ?_
      refine QS_then ?_
      refine TS_ret ?_
      exact QS_ret [_] ⟨rfl, trivial⟩ [] (Pick.nil _) ⟨rfl, rfl⟩
  · have hne : xs ≠ ys := fun h => hl (by rw [h])
    rw [decide_eq_false hne]
    refine TS_seq ?_
    refine TS_region ?_
    refine VS_pure (P_assign rfl) rfl rfl rfl ?_
    refine VS_nil ?_
    refine QS_then ?_
    refine TS_seq ?_
    refine TS_seq ?_
    refine TS_region ?_
    refine VS_pure (P_move rfl) rfl rfl rfl ?_
    refine VS_pure (P_len il23 rfl) rfl rfl rfl ?_
    refine VS_pure (P_move rfl) rfl rfl rfl ?_
    refine VS_pure (P_len il23 rfl) rfl rfl rfl ?_
    refine VS_pure (dt (P_neq rfl rfl) (by first | assumption | rfl | omega | decide)) rfl rfl rfl ?_
    refine VS_nil ?_
    refine QS_then ?_
    refine TS_true rfl ?_
    refine TS_seq ?_
    refine TS_region ?_
    refine VS_pure (P_assign rfl) rfl rfl rfl ?_
    refine VS_nil ?_
    refine QS_then ?_
    refine TS_ret ?_
    refine QS_then_ret ?_
    exact QS_ret [_] ⟨rfl, trivial⟩ [] (Pick.nil _) ⟨rfl, rfl⟩
theorem EqI_ok {m : Mp} {v w : Value} {xs ys : List Int} (hx : SlI m v xs) (hy : SlI m w ys) : CS Try.prog 59 [v, w] m [] (Gives (.bool (decide (xs = ys)))) := by
  obtain ⟨a, c, rfl, ra, la⟩ := hx
  obtain ⟨b, e, rfl, rb, lb⟩ := hy
  refine CS_of [.tmp 4] Try.func59 rfl rfl rfl ?_
  have hmx : xs.length ≤ 9223372036854775807 := la
  by_cases hl : xs.length = ys.length
  · refine TS_seq ?_
    refine TS_region ?_
    refine VS_pure (P_assign rfl) rfl rfl rfl ?_
    refine VS_nil ?_
    refine QS_then ?_
    refine TS_seq ?_
    refine TS_seq ?_
    refine TS_region ?_
    refine VS_pure (P_move rfl) rfl rfl rfl ?_
    refine VS_pure (P_len il25 rfl) rfl rfl rfl ?_
    refine VS_pure (P_move rfl) rfl rfl rfl ?_
    refine VS_pure (P_len il25 rfl) rfl rfl rfl ?_
    refine VS_pure (df (P_neq rfl rfl) (by first | assumption | omega | decide | exact fun hx => hx (by assumption))) rfl rfl rfl ?_
    refine VS_nil ?_
    refine QS_then ?_
    refine TS_false rfl ?_
    refine TS_skip ?_
    refine QS_then ?_
    refine TS_seq ?_
    refine TS_seq ?_
    refine TS_region ?_
    refine VS_pure (P_move rfl) rfl rfl rfl ?_
    refine VS_pure (P_len il25 rfl) rfl rfl rfl ?_
    refine VS_pure (P_move rfl) rfl rfl rfl ?_
    refine VS_nil ?_
    refine QS_then ?_
    refine TS_block ?_
    refine TS_loop (fun i : Nat => [(0, .slice a xs.length c), (1, .slice b ys.length e), (12, .int .i64 (xs.length : Nat)), (13, .int .i64 (i : Nat))]) (fun _ => []) (fun i => i ≤ xs.length ∧ xs.take i = ys.take i) (fun i => xs.length - i) 0 ⟨rfl, rfl, rfl, rfl, trivial⟩ (Pick.nil _) ⟨Nat.zero_le _, rfl⟩ ?_
    rintro i ⟨hi, ht⟩
    by_cases hlt : i < xs.length
    · have hlt2 : i < ys.length := by omega
      have ha := ra.isSome (by simp; omega)
      have hb := rb.isSome (by simp; omega)
      have g1 := Rd_get ra hlt
      have g2 := Rd_get rb hlt2
      unfold iV at g1 g2
      by_cases hq : xs[i] = ys[i]
      · refine TS_seq ?_
        refine TS_region ?_
        refine VS_pure (dt (P_lss rfl rfl) (by first | assumption | rfl | omega | decide)) rfl rfl rfl ?_
        refine VS_nil ?_
        refine QS_then ?_
        refine TS_seq ?_
        refine TS_true rfl ?_
        refine TS_skip ?_
        refine QS_then ?_
        refine TS_seq ?_
        refine TS_block ?_
        refine TS_seq ?_
        refine TS_region ?_
        refine VS_pure (P_move rfl) rfl rfl rfl ?_
        refine VS_pure (P_assign rfl) rfl rfl rfl ?_
        refine VS_nil ?_
        refine QS_then ?_
        refine TS_seq ?_
        refine TS_draw (.step 0 .pure (.step 1 .pure (.step 2 .pure (.step 4 .pure (.step 5 .pure (.step 6 .pure (.step 3 .read (.step 7 .read (.step 8 .pure (.done)))))))))) mixed (by kernel_rfl) (fun _ _ _ _ hq => hq) ?_
        refine VTS_pure rfl (P_move rfl) rfl rfl rfl ?_
        refine VTS_pure rfl (P_move rfl) rfl rfl rfl ?_
        refine VTS_pure rfl (P_indexAddr1N ez25 rfl rfl ha (by omega)) rfl rfl rfl ?_
        refine VTS_pure rfl (P_move rfl) rfl rfl rfl ?_
        refine VTS_pure rfl (P_move rfl) rfl rfl rfl ?_
        refine VTS_pure rfl (P_indexAddr1N ez25 rfl rfl hb (by omega)) rfl rfl rfl ?_
        refine VTS_read rfl (S_load sg3 rfl g1) rfl rfl rfl ?_
        refine VTS_read rfl (S_load sg3 rfl g2) rfl rfl rfl ?_
        refine VTS_pure rfl (df (P_neq rfl rfl) (by first | assumption | omega | decide | exact fun hx => hx (by assumption))) rfl rfl rfl ?_
        refine VTS_nil ?_
        refine QS_then ?_
        refine TS_false rfl ?_
        refine TS_skip ?_
        refine QS_block ?_
        refine QS_then ?_
        refine TS_region ?_
        refine VS_pure (P_add rfl rfl (w64 (by omega) (by omega))) rfl rfl rfl ?_
        refine VS_pure (P_move rfl) rfl rfl rfl ?_
        refine VS_nil ?_
        exact QS_round (i + 1) ⟨rfl, rfl, rfl, rfl, trivial⟩ (Pick.nil _) ⟨hlt, take_step ht hlt hlt2 hq⟩ (by omega)
      · have hne : xs ≠ ys := fun h => hq (by subst h; rfl)
        rw [decide_eq_false hne]
        refine TS_seq ?_
        refine TS_region ?_
        refine VS_pure (dt (P_lss rfl rfl) (by first | assumption | rfl | omega | decide)) rfl rfl rfl ?_
        refine VS_nil ?_
        refine QS_then ?_
        refine TS_seq ?_
        refine TS_true rfl ?_
        refine TS_skip ?_
        refine QS_then ?_
        refine TS_seq ?_
        refine TS_block ?_
        refine TS_seq ?_
        refine TS_region ?_
        refine VS_pure (P_move rfl) rfl rfl rfl ?_
        refine VS_pure (P_assign rfl) rfl rfl rfl ?_
        refine VS_nil ?_
        refine QS_then ?_
        refine TS_seq ?_
        refine TS_draw (.step 0 .pure (.step 1 .pure (.step 2 .pure (.step 4 .pure (.step 5 .pure (.step 6 .pure (.step 3 .read (.step 7 .read (.step 8 .pure (.done)))))))))) mixed (by kernel_rfl) (fun _ _ _ _ hq => hq) ?_
        refine VTS_pure rfl (P_move rfl) rfl rfl rfl ?_
        refine VTS_pure rfl (P_move rfl) rfl rfl rfl ?_
        refine VTS_pure rfl (P_indexAddr1N ez25 rfl rfl ha (by omega)) rfl rfl rfl ?_
        refine VTS_pure rfl (P_move rfl) rfl rfl rfl ?_
        refine VTS_pure rfl (P_move rfl) rfl rfl rfl ?_
        refine VTS_pure rfl (P_indexAddr1N ez25 rfl rfl hb (by omega)) rfl rfl rfl ?_
        refine VTS_read rfl (S_load sg3 rfl g1) rfl rfl rfl ?_
        refine VTS_read rfl (S_load sg3 rfl g2) rfl rfl rfl ?_
        refine VTS_pure rfl (dt (P_neq rfl rfl) (by first | assumption | rfl | omega | decide)) rfl rfl rfl ?_
        refine VTS_nil ?_
        refine QS_then ?_
        refine TS_true rfl ?_
        refine TS_seq ?_
        refine TS_region ?_
        refine VS_pure (P_assign rfl) rfl rfl rfl ?_
        refine VS_nil ?_
        refine QS_then ?_
        refine TS_ret ?_
        refine QS_block_ret ?_
        refine QS_then_ret ?_
        refine QS_round_ret ?_
        refine QS_block_ret ?_
        refine QS_then_ret ?_
        exact QS_ret [_] ⟨rfl, trivial⟩ [] (Pick.nil _) ⟨rfl, rfl⟩
    · rw [decide_eq_true (take_all ht (by omega) hl)]
      refine TS_seq ?_
      refine TS_region ?_
      refine VS_pure (df (P_lss rfl rfl) (by first | assumption | omega | decide | exact fun hx => hx (by assumption))) rfl rfl rfl ?_
      refine VS_nil ?_
      refine QS_then ?_
      refine TS_seq ?_
      refine TS_false rfl ?_
      refine TS_exit ?_
      refine QS_then_exit ?_
      refine QS_round_exit ?_
      refine QS_block_here ?_
      refine QS_then ?_
      refine TS_seq ?_
      refine TS_region ?_
      refine VS_pure (P_assign rfl) rfl rfl rfl ?_
      refine VS_nil ?_
      refine QS_then ?_
      refine TS_ret ?_
      exact QS_ret [_] ⟨rfl, trivial⟩ [] (Pick.nil _) ⟨rfl, rfl⟩
  · have hne : xs ≠ ys := fun h => hl (by rw [h])
    rw [decide_eq_false hne]
    refine TS_seq ?_
    refine TS_region ?_
    refine VS_pure (P_assign rfl) rfl rfl rfl ?_
    refine VS_nil ?_
    refine QS_then ?_
    refine TS_seq ?_
    refine TS_seq ?_
    refine TS_region ?_
    refine VS_pure (P_move rfl) rfl rfl rfl ?_
    refine VS_pure (P_len il25 rfl) rfl rfl rfl ?_
    refine VS_pure (P_move rfl) rfl rfl rfl ?_
    refine VS_pure (P_len il25 rfl) rfl rfl rfl ?_
    refine VS_pure (dt (P_neq rfl rfl) (by first | assumption | rfl | omega | decide)) rfl rfl rfl ?_
    refine VS_nil ?_
    refine QS_then ?_
    refine TS_true rfl ?_
    refine TS_seq ?_
    refine TS_region ?_
    refine VS_pure (P_assign rfl) rfl rfl rfl ?_
    refine VS_nil ?_
    refine QS_then ?_
    refine TS_ret ?_
    refine QS_then_ret ?_
    exact QS_ret [_] ⟨rfl, trivial⟩ [] (Pick.nil _) ⟨rfl, rfl⟩
theorem EqP_ok {m : Mp} {v w : Value} {xs ys : List (Int × Int)} (hx : SlP m v xs) (hy : SlP m w ys) : CS Try.prog 60 [v, w] m [] (Gives (.bool (decide (xs = ys)))) := by
  obtain ⟨a, c, rfl, ra, la⟩ := hx
  obtain ⟨b, e, rfl, rb, lb⟩ := hy
  refine CS_of [.tmp 4] Try.func60 rfl rfl rfl ?_
  have hmx : xs.length ≤ 9223372036854775807 := la
  by_cases hl : xs.length = ys.length
  · refine TS_seq ?_
    refine TS_region ?_
    refine VS_pure (P_assign rfl) rfl rfl rfl ?_
    refine VS_nil ?_
    refine QS_then ?_
    refine TS_seq ?_
    refine TS_seq ?_
    refine TS_region ?_
    refine VS_pure (P_move rfl) rfl rfl rfl ?_
    refine VS_pure (P_len il26 rfl) rfl rfl rfl ?_
    refine VS_pure (P_move rfl) rfl rfl rfl ?_
    refine VS_pure (P_len il26 rfl) rfl rfl rfl ?_
    refine VS_pure (df (P_neq rfl rfl) (by first | assumption | omega | decide | exact fun hx => hx (by assumption))) rfl rfl rfl ?_
    refine VS_nil ?_
    refine QS_then ?_
    refine TS_false rfl ?_
    refine TS_skip ?_
    refine QS_then ?_
    refine TS_seq ?_
    refine TS_seq ?_
    refine TS_region ?_
    refine VS_pure (P_move rfl) rfl rfl rfl ?_
    refine VS_pure (P_len il26 rfl) rfl rfl rfl ?_
    refine VS_pure (P_move rfl) rfl rfl rfl ?_
    refine VS_nil ?_
    refine QS_then ?_
    refine TS_block ?_
    refine TS_loop (fun i : Nat => [(0, .slice a xs.length c), (1, .slice b ys.length e), (12, .int .i64 (xs.length : Nat)), (13, .int .i64 (i : Nat))]) (fun _ => []) (fun i => i ≤ xs.length ∧ xs.take i = ys.take i) (fun i => xs.length - i) 0 ⟨rfl, rfl, rfl, rfl, trivial⟩ (Pick.nil _) ⟨Nat.zero_le _, rfl⟩ ?_
    rintro i ⟨hi, ht⟩
    by_cases hlt : i < xs.length
    · have hlt2 : i < ys.length := by omega
      obtain ⟨g1, ha⟩ := SlP_at ra hlt
      obtain ⟨g2, hb⟩ := SlP_at rb hlt2
      by_cases hq : xs[i] = ys[i]
      · refine TS_seq ?_
        refine TS_region ?_
        refine VS_pure (dt (P_lss rfl rfl) (by first | assumption | rfl | omega | decide)) rfl rfl rfl ?_
        refine VS_nil ?_
        refine QS_then ?_
        refine TS_seq ?_
        refine TS_true rfl ?_
        refine TS_skip ?_
        refine QS_then ?_
        refine TS_seq ?_
        refine TS_block ?_
        refine TS_seq ?_
        refine TS_region ?_
        refine VS_pure (P_move rfl) rfl rfl rfl ?_
        refine VS_pure (P_assign rfl) rfl rfl rfl ?_
        refine VS_nil ?_
        refine QS_then ?_
        refine TS_seq ?_
        refine TS_draw (.step 0 .pure (.step 1 .pure (.step 2 .pure (.step 4 .pure (.step 5 .pure (.step 6 .pure (.step 3 .read (.step 7 .read (.step 8 .pure (.done)))))))))) mixed (by kernel_rfl) (fun _ _ _ _ hq => hq) ?_
        refine VTS_pure rfl (P_move rfl) rfl rfl rfl ?_
        refine VTS_pure rfl (P_move rfl) rfl rfl rfl ?_
        refine VTS_pure rfl (P_indexAddrN ez26 rfl rfl ha (by omega)) rfl rfl rfl ?_
        refine VTS_pure rfl (P_move rfl) rfl rfl rfl ?_
        refine VTS_pure rfl (P_move rfl) rfl rfl rfl ?_
        refine VTS_pure rfl (P_indexAddrN ez26 rfl rfl hb (by omega)) rfl rfl rfl ?_
        refine VTS_read rfl (S_loadAt ag132 rfl rfl g1) rfl rfl rfl ?_
        refine VTS_read rfl (S_loadAt ag132 rfl rfl g2) rfl rfl rfl ?_
        refine VTS_pure rfl ((df (P_structNeq (pF xs[i]) (pF ys[i]) fg132 rfl rfl rfl rfl) (fun h => h (by rw [hq])))) rfl rfl rfl ?_
        refine VTS_nil ?_
        refine QS_then ?_
        refine TS_false rfl ?_
        refine TS_skip ?_
        refine QS_block ?_
        refine QS_then ?_
        refine TS_region ?_
        refine VS_pure (P_add rfl rfl (w64 (by omega) (by omega))) rfl rfl rfl ?_
        refine VS_pure (P_move rfl) rfl rfl rfl ?_
        refine VS_nil ?_
        exact QS_round (i + 1) ⟨rfl, rfl, rfl, rfl, trivial⟩ (Pick.nil _) ⟨hlt, take_step ht hlt hlt2 hq⟩ (by omega)
      · have hne : xs ≠ ys := fun h => hq (by subst h; rfl)
        rw [decide_eq_false hne]
        refine TS_seq ?_
        refine TS_region ?_
        refine VS_pure (dt (P_lss rfl rfl) (by first | assumption | rfl | omega | decide)) rfl rfl rfl ?_
        refine VS_nil ?_
        refine QS_then ?_
        refine TS_seq ?_
        refine TS_true rfl ?_
        refine TS_skip ?_
        refine QS_then ?_
        refine TS_seq ?_
        refine TS_block ?_
        refine TS_seq ?_
        refine TS_region ?_
        refine VS_pure (P_move rfl) rfl rfl rfl ?_
        refine VS_pure (P_assign rfl) rfl rfl rfl ?_
        refine VS_nil ?_
        refine QS_then ?_
        refine TS_seq ?_
        refine TS_draw (.step 0 .pure (.step 1 .pure (.step 2 .pure (.step 4 .pure (.step 5 .pure (.step 6 .pure (.step 3 .read (.step 7 .read (.step 8 .pure (.done)))))))))) mixed (by kernel_rfl) (fun _ _ _ _ hq => hq) ?_
        refine VTS_pure rfl (P_move rfl) rfl rfl rfl ?_
        refine VTS_pure rfl (P_move rfl) rfl rfl rfl ?_
        refine VTS_pure rfl (P_indexAddrN ez26 rfl rfl ha (by omega)) rfl rfl rfl ?_
        refine VTS_pure rfl (P_move rfl) rfl rfl rfl ?_
        refine VTS_pure rfl (P_move rfl) rfl rfl rfl ?_
        refine VTS_pure rfl (P_indexAddrN ez26 rfl rfl hb (by omega)) rfl rfl rfl ?_
        refine VTS_read rfl (S_loadAt ag132 rfl rfl g1) rfl rfl rfl ?_
        refine VTS_read rfl (S_loadAt ag132 rfl rfl g2) rfl rfl rfl ?_
        refine VTS_pure rfl ((dt (P_structNeq (pF xs[i]) (pF ys[i]) fg132 rfl rfl rfl rfl) (fun h => hq (pF_inj h)))) rfl rfl rfl ?_
        refine VTS_nil ?_
        refine QS_then ?_
        refine TS_true rfl ?_
        refine TS_seq ?_
        refine TS_region ?_
        refine VS_pure (P_assign rfl) rfl rfl rfl ?_
        refine VS_nil ?_
        refine QS_then ?_
        refine TS_ret ?_
        refine QS_block_ret ?_
        refine QS_then_ret ?_
        refine QS_round_ret ?_
        refine QS_block_ret ?_
        refine QS_then_ret ?_
        exact QS_ret [_] ⟨rfl, trivial⟩ [] (Pick.nil _) ⟨rfl, rfl⟩
    · rw [decide_eq_true (take_all ht (by omega) hl)]
      refine TS_seq ?_
      refine TS_region ?_
      refine VS_pure (df (P_lss rfl rfl) (by first | assumption | omega | decide | exact fun hx => hx (by assumption))) rfl rfl rfl ?_
      refine VS_nil ?_
      refine QS_then ?_
      refine TS_seq ?_
      refine TS_false rfl ?_
      refine TS_exit ?_
      refine QS_then_exit ?_
      refine QS_round_exit ?_
      refine QS_block_here ?_
      refine QS_then ?_
      refine TS_seq ?_
      refine TS_region ?_
      refine VS_pure (P_assign rfl) rfl rfl rfl ?_
      refine VS_nil ?_
      refine QS_then ?_
      refine TS_ret ?_
      exact QS_ret [_] ⟨rfl, trivial⟩ [] (Pick.nil _) ⟨rfl, rfl⟩
  · have hne : xs ≠ ys := fun h => hl (by rw [h])
    rw [decide_eq_false hne]
    refine TS_seq ?_
    refine TS_region ?_
    refine VS_pure (P_assign rfl) rfl rfl rfl ?_
    refine VS_nil ?_
    refine QS_then ?_
    refine TS_seq ?_
    refine TS_seq ?_
    refine TS_region ?_
    refine VS_pure (P_move rfl) rfl rfl rfl ?_
    refine VS_pure (P_len il26 rfl) rfl rfl rfl ?_
    refine VS_pure (P_move rfl) rfl rfl rfl ?_
    refine VS_pure (P_len il26 rfl) rfl rfl rfl ?_
    refine VS_pure (dt (P_neq rfl rfl) (by first | assumption | rfl | omega | decide)) rfl rfl rfl ?_
    refine VS_nil ?_
    refine QS_then ?_
    refine TS_true rfl ?_
    refine TS_seq ?_
    refine TS_region ?_
    refine VS_pure (P_assign rfl) rfl rfl rfl ?_
    refine VS_nil ?_
    refine QS_then ?_
    refine TS_ret ?_
    refine QS_then_ret ?_
    exact QS_ret [_] ⟨rfl, trivial⟩ [] (Pick.nil _) ⟨rfl, rfl⟩
set_option maxHeartbeats 4000000 in
theorem event_ok {m : Mp} {lx ly : List Value} {x y : Evt} (hx : EvR m lx x) (hy : EvR m ly y) : CS Try.prog 45 [.agg lx.toArray, .agg ly.toArray] m [] (Gives (.bool (decide (x = y)))) := by
  obtain ⟨v, rfl, sx⟩ := hx
  obtain ⟨w, rfl, sy⟩ := hy
  refine CS_of [.tmp 4] Try.func45 rfl rfl rfl ?_
  have F : ∀ m', Le m m' → CS Try.prog 59 [v, w] m' [] (Gives (.bool (decide (x.cards = y.cards)))) := fun m' hm => EqI_ok (sx.mono hm) (sy.mono hm)
  have ne : ∀ {p : Prop}, (x = y → p) → ¬ p → x ≠ y := fun h hn e => hn (h e)
  by_cases g1 : x.kind = y.kind
  · skip
    by_cases g2 : x.side = y.side
    · skip
      by_cases g3 : x.card = y.card
      · skip
        by_cases g4 : x.id = y.id
        · skip
          by_cases g5 : x.other = y.other
          · skip
            by_cases g6 : x.n = y.n
            · skip
              have hiff : decide (x = y) = decide (x.cards = y.cards) := decide_eq_decide.2 ⟨fun h => by rw [h], fun h => by cases x; cases y; simp_all⟩
              rw [hiff]
              refine TS_seq ?_
              refine TS_region ?_
              refine VS_step (S_box rfl rfl (fun b1 => ?_)) rfl
              refine VS_step (S_box rfl rfl (fun b2 => ?_)) rfl
              refine VS_pure (P_assign rfl) rfl rfl rfl ?_
              refine VS_nil ?_
              refine QS_then ?_
              refine TS_seq ?_
              refine TS_region ?_
              refine VS_pure (P_fieldAddr0 fo55_0 rfl) rfl rfl rfl ?_
              refine VS_read (S_loadB sg24 rfl (.there (.here)) rfl) rfl rfl rfl ?_
              refine VS_pure (P_fieldAddr0 fo55_0 rfl) rfl rfl rfl ?_
              refine VS_read (S_loadB sg24 rfl (.here) rfl) rfl rfl rfl ?_
              refine VS_pure (dt (P_eql rfl rfl) (by first | assumption | rfl | omega | decide)) rfl rfl rfl ?_
              refine VS_pure (P_move rfl) rfl rfl rfl ?_
              refine VS_pure (P_fieldAddr0 fo55_1 rfl) rfl rfl rfl ?_
              refine VS_read (S_loadB sg3 rfl (.there (.here)) rfl) rfl rfl rfl ?_
              refine VS_pure (P_fieldAddr0 fo55_1 rfl) rfl rfl rfl ?_
              refine VS_read (S_loadB sg3 rfl (.here) rfl) rfl rfl rfl ?_
              refine VS_pure (dt (P_eql rfl rfl) (by first | assumption | rfl | omega | decide)) rfl rfl rfl ?_
              refine VS_pure (P_pick_t rfl rfl) rfl rfl rfl ?_
              refine VS_pure (P_move rfl) rfl rfl rfl ?_
              refine VS_pure (P_fieldAddr0 fo55_2 rfl) rfl rfl rfl ?_
              refine VS_read (S_loadB sg3 rfl (.there (.here)) rfl) rfl rfl rfl ?_
              refine VS_pure (P_fieldAddr0 fo55_2 rfl) rfl rfl rfl ?_
              refine VS_read (S_loadB sg3 rfl (.here) rfl) rfl rfl rfl ?_
              refine VS_pure (dt (P_eql rfl rfl) (by first | assumption | rfl | omega | decide)) rfl rfl rfl ?_
              refine VS_pure (P_pick_t rfl rfl) rfl rfl rfl ?_
              refine VS_pure (P_move rfl) rfl rfl rfl ?_
              refine VS_pure (P_fieldAddr0 fo55_3 rfl) rfl rfl rfl ?_
              refine VS_read (S_loadB sg3 rfl (.there (.here)) rfl) rfl rfl rfl ?_
              refine VS_pure (P_fieldAddr0 fo55_3 rfl) rfl rfl rfl ?_
              refine VS_read (S_loadB sg3 rfl (.here) rfl) rfl rfl rfl ?_
              refine VS_pure (dt (P_eql rfl rfl) (by first | assumption | rfl | omega | decide)) rfl rfl rfl ?_
              refine VS_pure (P_pick_t rfl rfl) rfl rfl rfl ?_
              refine VS_pure (P_move rfl) rfl rfl rfl ?_
              refine VS_pure (P_fieldAddr0 fo55_4 rfl) rfl rfl rfl ?_
              refine VS_read (S_loadB sg3 rfl (.there (.here)) rfl) rfl rfl rfl ?_
              refine VS_pure (P_fieldAddr0 fo55_4 rfl) rfl rfl rfl ?_
              refine VS_read (S_loadB sg3 rfl (.here) rfl) rfl rfl rfl ?_
              refine VS_pure (dt (P_eql rfl rfl) (by first | assumption | rfl | omega | decide)) rfl rfl rfl ?_
              refine VS_pure (P_pick_t rfl rfl) rfl rfl rfl ?_
              refine VS_pure (P_move rfl) rfl rfl rfl ?_
              refine VS_pure (P_fieldAddr0 fo55_5 rfl) rfl rfl rfl ?_
              refine VS_read (S_loadB sg3 rfl (.there (.here)) rfl) rfl rfl rfl ?_
              refine VS_pure (P_fieldAddr0 fo55_5 rfl) rfl rfl rfl ?_
              refine VS_read (S_loadB sg3 rfl (.here) rfl) rfl rfl rfl ?_
              refine VS_pure (dt (P_eql rfl rfl) (by first | assumption | rfl | omega | decide)) rfl rfl rfl ?_
              refine VS_pure (P_pick_t rfl rfl) rfl rfl rfl ?_
              refine VS_pure (P_move rfl) rfl rfl rfl ?_
              refine VS_pure (P_fieldAddr0 fo55_6 rfl) rfl rfl rfl ?_
              refine VS_read (S_loadB sg25 rfl (.there (.here)) rfl) rfl rfl rfl ?_
              refine VS_pure (P_fieldAddr0 fo55_6 rfl) rfl rfl rfl ?_
              refine VS_read (S_loadB sg25 rfl (.here) rfl) rfl rfl rfl ?_
              refine VS_step (S_callR cl59 rfl (fun m' hm he => (F _ hm)) rfl ?_) rfl
              rintro _ rfl
              refine VS_pure (P_pick_t rfl rfl) rfl rfl rfl ?_
              refine VS_pure (P_assign rfl) rfl rfl rfl ?_
              refine VS_nil ?_
              refine QS_then ?_
              refine TS_ret ?_
              exact QS_ret [_] ⟨rfl, trivial⟩ [] (Pick.nil _) ⟨rfl, rfl⟩
            · rw [decide_eq_false (ne (fun h => by rw [h]) g6)]
              refine TS_seq ?_
              refine TS_region ?_
              refine VS_step (S_box rfl rfl (fun b1 => ?_)) rfl
              refine VS_step (S_box rfl rfl (fun b2 => ?_)) rfl
              refine VS_pure (P_assign rfl) rfl rfl rfl ?_
              refine VS_nil ?_
              refine QS_then ?_
              refine TS_seq ?_
              refine TS_region ?_
              refine VS_pure (P_fieldAddr0 fo55_0 rfl) rfl rfl rfl ?_
              refine VS_read (S_loadB sg24 rfl (.there (.here)) rfl) rfl rfl rfl ?_
              refine VS_pure (P_fieldAddr0 fo55_0 rfl) rfl rfl rfl ?_
              refine VS_read (S_loadB sg24 rfl (.here) rfl) rfl rfl rfl ?_
              refine VS_pure (dt (P_eql rfl rfl) (by first | assumption | rfl | omega | decide)) rfl rfl rfl ?_
              refine VS_pure (P_move rfl) rfl rfl rfl ?_
              refine VS_pure (P_fieldAddr0 fo55_1 rfl) rfl rfl rfl ?_
              refine VS_read (S_loadB sg3 rfl (.there (.here)) rfl) rfl rfl rfl ?_
              refine VS_pure (P_fieldAddr0 fo55_1 rfl) rfl rfl rfl ?_
              refine VS_read (S_loadB sg3 rfl (.here) rfl) rfl rfl rfl ?_
              refine VS_pure (dt (P_eql rfl rfl) (by first | assumption | rfl | omega | decide)) rfl rfl rfl ?_
              refine VS_pure (P_pick_t rfl rfl) rfl rfl rfl ?_
              refine VS_pure (P_move rfl) rfl rfl rfl ?_
              refine VS_pure (P_fieldAddr0 fo55_2 rfl) rfl rfl rfl ?_
              refine VS_read (S_loadB sg3 rfl (.there (.here)) rfl) rfl rfl rfl ?_
              refine VS_pure (P_fieldAddr0 fo55_2 rfl) rfl rfl rfl ?_
              refine VS_read (S_loadB sg3 rfl (.here) rfl) rfl rfl rfl ?_
              refine VS_pure (dt (P_eql rfl rfl) (by first | assumption | rfl | omega | decide)) rfl rfl rfl ?_
              refine VS_pure (P_pick_t rfl rfl) rfl rfl rfl ?_
              refine VS_pure (P_move rfl) rfl rfl rfl ?_
              refine VS_pure (P_fieldAddr0 fo55_3 rfl) rfl rfl rfl ?_
              refine VS_read (S_loadB sg3 rfl (.there (.here)) rfl) rfl rfl rfl ?_
              refine VS_pure (P_fieldAddr0 fo55_3 rfl) rfl rfl rfl ?_
              refine VS_read (S_loadB sg3 rfl (.here) rfl) rfl rfl rfl ?_
              refine VS_pure (dt (P_eql rfl rfl) (by first | assumption | rfl | omega | decide)) rfl rfl rfl ?_
              refine VS_pure (P_pick_t rfl rfl) rfl rfl rfl ?_
              refine VS_pure (P_move rfl) rfl rfl rfl ?_
              refine VS_pure (P_fieldAddr0 fo55_4 rfl) rfl rfl rfl ?_
              refine VS_read (S_loadB sg3 rfl (.there (.here)) rfl) rfl rfl rfl ?_
              refine VS_pure (P_fieldAddr0 fo55_4 rfl) rfl rfl rfl ?_
              refine VS_read (S_loadB sg3 rfl (.here) rfl) rfl rfl rfl ?_
              refine VS_pure (dt (P_eql rfl rfl) (by first | assumption | rfl | omega | decide)) rfl rfl rfl ?_
              refine VS_pure (P_pick_t rfl rfl) rfl rfl rfl ?_
              refine VS_pure (P_move rfl) rfl rfl rfl ?_
              refine VS_pure (P_fieldAddr0 fo55_5 rfl) rfl rfl rfl ?_
              refine VS_read (S_loadB sg3 rfl (.there (.here)) rfl) rfl rfl rfl ?_
              refine VS_pure (P_fieldAddr0 fo55_5 rfl) rfl rfl rfl ?_
              refine VS_read (S_loadB sg3 rfl (.here) rfl) rfl rfl rfl ?_
              refine VS_pure (df (P_eql rfl rfl) (by first | assumption | omega | decide | exact fun hx => hx (by assumption))) rfl rfl rfl ?_
              refine VS_pure (P_pick_t rfl rfl) rfl rfl rfl ?_
              refine VS_pure (P_move rfl) rfl rfl rfl ?_
              refine VS_skip rfl rfl rfl ?_
              refine VS_skip rfl rfl rfl ?_
              refine VS_skip rfl rfl rfl ?_
              refine VS_skip rfl rfl rfl ?_
              refine VS_skip rfl rfl rfl ?_
              refine VS_pure (P_pick_f rfl rfl) rfl rfl rfl ?_
              refine VS_pure (P_assign rfl) rfl rfl rfl ?_
              refine VS_nil ?_
              refine QS_then ?_
              refine TS_ret ?_
              exact QS_ret [_] ⟨rfl, trivial⟩ [] (Pick.nil _) ⟨rfl, rfl⟩
          · rw [decide_eq_false (ne (fun h => by rw [h]) g5)]
            refine TS_seq ?_
            refine TS_region ?_
            refine VS_step (S_box rfl rfl (fun b1 => ?_)) rfl
            refine VS_step (S_box rfl rfl (fun b2 => ?_)) rfl
            refine VS_pure (P_assign rfl) rfl rfl rfl ?_
            refine VS_nil ?_
            refine QS_then ?_
            refine TS_seq ?_
            refine TS_region ?_
            refine VS_pure (P_fieldAddr0 fo55_0 rfl) rfl rfl rfl ?_
            refine VS_read (S_loadB sg24 rfl (.there (.here)) rfl) rfl rfl rfl ?_
            refine VS_pure (P_fieldAddr0 fo55_0 rfl) rfl rfl rfl ?_
            refine VS_read (S_loadB sg24 rfl (.here) rfl) rfl rfl rfl ?_
            refine VS_pure (dt (P_eql rfl rfl) (by first | assumption | rfl | omega | decide)) rfl rfl rfl ?_
            refine VS_pure (P_move rfl) rfl rfl rfl ?_
            refine VS_pure (P_fieldAddr0 fo55_1 rfl) rfl rfl rfl ?_
            refine VS_read (S_loadB sg3 rfl (.there (.here)) rfl) rfl rfl rfl ?_
            refine VS_pure (P_fieldAddr0 fo55_1 rfl) rfl rfl rfl ?_
            refine VS_read (S_loadB sg3 rfl (.here) rfl) rfl rfl rfl ?_
            refine VS_pure (dt (P_eql rfl rfl) (by first | assumption | rfl | omega | decide)) rfl rfl rfl ?_
            refine VS_pure (P_pick_t rfl rfl) rfl rfl rfl ?_
            refine VS_pure (P_move rfl) rfl rfl rfl ?_
            refine VS_pure (P_fieldAddr0 fo55_2 rfl) rfl rfl rfl ?_
            refine VS_read (S_loadB sg3 rfl (.there (.here)) rfl) rfl rfl rfl ?_
            refine VS_pure (P_fieldAddr0 fo55_2 rfl) rfl rfl rfl ?_
            refine VS_read (S_loadB sg3 rfl (.here) rfl) rfl rfl rfl ?_
            refine VS_pure (dt (P_eql rfl rfl) (by first | assumption | rfl | omega | decide)) rfl rfl rfl ?_
            refine VS_pure (P_pick_t rfl rfl) rfl rfl rfl ?_
            refine VS_pure (P_move rfl) rfl rfl rfl ?_
            refine VS_pure (P_fieldAddr0 fo55_3 rfl) rfl rfl rfl ?_
            refine VS_read (S_loadB sg3 rfl (.there (.here)) rfl) rfl rfl rfl ?_
            refine VS_pure (P_fieldAddr0 fo55_3 rfl) rfl rfl rfl ?_
            refine VS_read (S_loadB sg3 rfl (.here) rfl) rfl rfl rfl ?_
            refine VS_pure (dt (P_eql rfl rfl) (by first | assumption | rfl | omega | decide)) rfl rfl rfl ?_
            refine VS_pure (P_pick_t rfl rfl) rfl rfl rfl ?_
            refine VS_pure (P_move rfl) rfl rfl rfl ?_
            refine VS_pure (P_fieldAddr0 fo55_4 rfl) rfl rfl rfl ?_
            refine VS_read (S_loadB sg3 rfl (.there (.here)) rfl) rfl rfl rfl ?_
            refine VS_pure (P_fieldAddr0 fo55_4 rfl) rfl rfl rfl ?_
            refine VS_read (S_loadB sg3 rfl (.here) rfl) rfl rfl rfl ?_
            refine VS_pure (df (P_eql rfl rfl) (by first | assumption | omega | decide | exact fun hx => hx (by assumption))) rfl rfl rfl ?_
            refine VS_pure (P_pick_t rfl rfl) rfl rfl rfl ?_
            refine VS_pure (P_move rfl) rfl rfl rfl ?_
            refine VS_skip rfl rfl rfl ?_
            refine VS_skip rfl rfl rfl ?_
            refine VS_skip rfl rfl rfl ?_
            refine VS_skip rfl rfl rfl ?_
            refine VS_skip rfl rfl rfl ?_
            refine VS_pure (P_pick_f rfl rfl) rfl rfl rfl ?_
            refine VS_pure (P_move rfl) rfl rfl rfl ?_
            refine VS_skip rfl rfl rfl ?_
            refine VS_skip rfl rfl rfl ?_
            refine VS_skip rfl rfl rfl ?_
            refine VS_skip rfl rfl rfl ?_
            refine VS_skip rfl rfl rfl ?_
            refine VS_pure (P_pick_f rfl rfl) rfl rfl rfl ?_
            refine VS_pure (P_assign rfl) rfl rfl rfl ?_
            refine VS_nil ?_
            refine QS_then ?_
            refine TS_ret ?_
            exact QS_ret [_] ⟨rfl, trivial⟩ [] (Pick.nil _) ⟨rfl, rfl⟩
        · rw [decide_eq_false (ne (fun h => by rw [h]) g4)]
          refine TS_seq ?_
          refine TS_region ?_
          refine VS_step (S_box rfl rfl (fun b1 => ?_)) rfl
          refine VS_step (S_box rfl rfl (fun b2 => ?_)) rfl
          refine VS_pure (P_assign rfl) rfl rfl rfl ?_
          refine VS_nil ?_
          refine QS_then ?_
          refine TS_seq ?_
          refine TS_region ?_
          refine VS_pure (P_fieldAddr0 fo55_0 rfl) rfl rfl rfl ?_
          refine VS_read (S_loadB sg24 rfl (.there (.here)) rfl) rfl rfl rfl ?_
          refine VS_pure (P_fieldAddr0 fo55_0 rfl) rfl rfl rfl ?_
          refine VS_read (S_loadB sg24 rfl (.here) rfl) rfl rfl rfl ?_
          refine VS_pure (dt (P_eql rfl rfl) (by first | assumption | rfl | omega | decide)) rfl rfl rfl ?_
          refine VS_pure (P_move rfl) rfl rfl rfl ?_
          refine VS_pure (P_fieldAddr0 fo55_1 rfl) rfl rfl rfl ?_
          refine VS_read (S_loadB sg3 rfl (.there (.here)) rfl) rfl rfl rfl ?_
          refine VS_pure (P_fieldAddr0 fo55_1 rfl) rfl rfl rfl ?_
          refine VS_read (S_loadB sg3 rfl (.here) rfl) rfl rfl rfl ?_
          refine VS_pure (dt (P_eql rfl rfl) (by first | assumption | rfl | omega | decide)) rfl rfl rfl ?_
          refine VS_pure (P_pick_t rfl rfl) rfl rfl rfl ?_
          refine VS_pure (P_move rfl) rfl rfl rfl ?_
          refine VS_pure (P_fieldAddr0 fo55_2 rfl) rfl rfl rfl ?_
          refine VS_read (S_loadB sg3 rfl (.there (.here)) rfl) rfl rfl rfl ?_
          refine VS_pure (P_fieldAddr0 fo55_2 rfl) rfl rfl rfl ?_
          refine VS_read (S_loadB sg3 rfl (.here) rfl) rfl rfl rfl ?_
          refine VS_pure (dt (P_eql rfl rfl) (by first | assumption | rfl | omega | decide)) rfl rfl rfl ?_
          refine VS_pure (P_pick_t rfl rfl) rfl rfl rfl ?_
          refine VS_pure (P_move rfl) rfl rfl rfl ?_
          refine VS_pure (P_fieldAddr0 fo55_3 rfl) rfl rfl rfl ?_
          refine VS_read (S_loadB sg3 rfl (.there (.here)) rfl) rfl rfl rfl ?_
          refine VS_pure (P_fieldAddr0 fo55_3 rfl) rfl rfl rfl ?_
          refine VS_read (S_loadB sg3 rfl (.here) rfl) rfl rfl rfl ?_
          refine VS_pure (df (P_eql rfl rfl) (by first | assumption | omega | decide | exact fun hx => hx (by assumption))) rfl rfl rfl ?_
          refine VS_pure (P_pick_t rfl rfl) rfl rfl rfl ?_
          refine VS_pure (P_move rfl) rfl rfl rfl ?_
          refine VS_skip rfl rfl rfl ?_
          refine VS_skip rfl rfl rfl ?_
          refine VS_skip rfl rfl rfl ?_
          refine VS_skip rfl rfl rfl ?_
          refine VS_skip rfl rfl rfl ?_
          refine VS_pure (P_pick_f rfl rfl) rfl rfl rfl ?_
          refine VS_pure (P_move rfl) rfl rfl rfl ?_
          refine VS_skip rfl rfl rfl ?_
          refine VS_skip rfl rfl rfl ?_
          refine VS_skip rfl rfl rfl ?_
          refine VS_skip rfl rfl rfl ?_
          refine VS_skip rfl rfl rfl ?_
          refine VS_pure (P_pick_f rfl rfl) rfl rfl rfl ?_
          refine VS_pure (P_move rfl) rfl rfl rfl ?_
          refine VS_skip rfl rfl rfl ?_
          refine VS_skip rfl rfl rfl ?_
          refine VS_skip rfl rfl rfl ?_
          refine VS_skip rfl rfl rfl ?_
          refine VS_skip rfl rfl rfl ?_
          refine VS_pure (P_pick_f rfl rfl) rfl rfl rfl ?_
          refine VS_pure (P_assign rfl) rfl rfl rfl ?_
          refine VS_nil ?_
          refine QS_then ?_
          refine TS_ret ?_
          exact QS_ret [_] ⟨rfl, trivial⟩ [] (Pick.nil _) ⟨rfl, rfl⟩
      · rw [decide_eq_false (ne (fun h => by rw [h]) g3)]
        refine TS_seq ?_
        refine TS_region ?_
        refine VS_step (S_box rfl rfl (fun b1 => ?_)) rfl
        refine VS_step (S_box rfl rfl (fun b2 => ?_)) rfl
        refine VS_pure (P_assign rfl) rfl rfl rfl ?_
        refine VS_nil ?_
        refine QS_then ?_
        refine TS_seq ?_
        refine TS_region ?_
        refine VS_pure (P_fieldAddr0 fo55_0 rfl) rfl rfl rfl ?_
        refine VS_read (S_loadB sg24 rfl (.there (.here)) rfl) rfl rfl rfl ?_
        refine VS_pure (P_fieldAddr0 fo55_0 rfl) rfl rfl rfl ?_
        refine VS_read (S_loadB sg24 rfl (.here) rfl) rfl rfl rfl ?_
        refine VS_pure (dt (P_eql rfl rfl) (by first | assumption | rfl | omega | decide)) rfl rfl rfl ?_
        refine VS_pure (P_move rfl) rfl rfl rfl ?_
        refine VS_pure (P_fieldAddr0 fo55_1 rfl) rfl rfl rfl ?_
        refine VS_read (S_loadB sg3 rfl (.there (.here)) rfl) rfl rfl rfl ?_
        refine VS_pure (P_fieldAddr0 fo55_1 rfl) rfl rfl rfl ?_
        refine VS_read (S_loadB sg3 rfl (.here) rfl) rfl rfl rfl ?_
        refine VS_pure (dt (P_eql rfl rfl) (by first | assumption | rfl | omega | decide)) rfl rfl rfl ?_
        refine VS_pure (P_pick_t rfl rfl) rfl rfl rfl ?_
        refine VS_pure (P_move rfl) rfl rfl rfl ?_
        refine VS_pure (P_fieldAddr0 fo55_2 rfl) rfl rfl rfl ?_
        refine VS_read (S_loadB sg3 rfl (.there (.here)) rfl) rfl rfl rfl ?_
        refine VS_pure (P_fieldAddr0 fo55_2 rfl) rfl rfl rfl ?_
        refine VS_read (S_loadB sg3 rfl (.here) rfl) rfl rfl rfl ?_
        refine VS_pure (df (P_eql rfl rfl) (by first | assumption | omega | decide | exact fun hx => hx (by assumption))) rfl rfl rfl ?_
        refine VS_pure (P_pick_t rfl rfl) rfl rfl rfl ?_
        refine VS_pure (P_move rfl) rfl rfl rfl ?_
        refine VS_skip rfl rfl rfl ?_
        refine VS_skip rfl rfl rfl ?_
        refine VS_skip rfl rfl rfl ?_
        refine VS_skip rfl rfl rfl ?_
        refine VS_skip rfl rfl rfl ?_
        refine VS_pure (P_pick_f rfl rfl) rfl rfl rfl ?_
        refine VS_pure (P_move rfl) rfl rfl rfl ?_
        refine VS_skip rfl rfl rfl ?_
        refine VS_skip rfl rfl rfl ?_
        refine VS_skip rfl rfl rfl ?_
        refine VS_skip rfl rfl rfl ?_
        refine VS_skip rfl rfl rfl ?_
        refine VS_pure (P_pick_f rfl rfl) rfl rfl rfl ?_
        refine VS_pure (P_move rfl) rfl rfl rfl ?_
        refine VS_skip rfl rfl rfl ?_
        refine VS_skip rfl rfl rfl ?_
        refine VS_skip rfl rfl rfl ?_
        refine VS_skip rfl rfl rfl ?_
        refine VS_skip rfl rfl rfl ?_
        refine VS_pure (P_pick_f rfl rfl) rfl rfl rfl ?_
        refine VS_pure (P_move rfl) rfl rfl rfl ?_
        refine VS_skip rfl rfl rfl ?_
        refine VS_skip rfl rfl rfl ?_
        refine VS_skip rfl rfl rfl ?_
        refine VS_skip rfl rfl rfl ?_
        refine VS_skip rfl rfl rfl ?_
        refine VS_pure (P_pick_f rfl rfl) rfl rfl rfl ?_
        refine VS_pure (P_assign rfl) rfl rfl rfl ?_
        refine VS_nil ?_
        refine QS_then ?_
        refine TS_ret ?_
        exact QS_ret [_] ⟨rfl, trivial⟩ [] (Pick.nil _) ⟨rfl, rfl⟩
    · rw [decide_eq_false (ne (fun h => by rw [h]) g2)]
      refine TS_seq ?_
      refine TS_region ?_
      refine VS_step (S_box rfl rfl (fun b1 => ?_)) rfl
      refine VS_step (S_box rfl rfl (fun b2 => ?_)) rfl
      refine VS_pure (P_assign rfl) rfl rfl rfl ?_
      refine VS_nil ?_
      refine QS_then ?_
      refine TS_seq ?_
      refine TS_region ?_
      refine VS_pure (P_fieldAddr0 fo55_0 rfl) rfl rfl rfl ?_
      refine VS_read (S_loadB sg24 rfl (.there (.here)) rfl) rfl rfl rfl ?_
      refine VS_pure (P_fieldAddr0 fo55_0 rfl) rfl rfl rfl ?_
      refine VS_read (S_loadB sg24 rfl (.here) rfl) rfl rfl rfl ?_
      refine VS_pure (dt (P_eql rfl rfl) (by first | assumption | rfl | omega | decide)) rfl rfl rfl ?_
      refine VS_pure (P_move rfl) rfl rfl rfl ?_
      refine VS_pure (P_fieldAddr0 fo55_1 rfl) rfl rfl rfl ?_
      refine VS_read (S_loadB sg3 rfl (.there (.here)) rfl) rfl rfl rfl ?_
      refine VS_pure (P_fieldAddr0 fo55_1 rfl) rfl rfl rfl ?_
      refine VS_read (S_loadB sg3 rfl (.here) rfl) rfl rfl rfl ?_
      refine VS_pure (df (P_eql rfl rfl) (by first | assumption | omega | decide | exact fun hx => hx (by assumption))) rfl rfl rfl ?_
      refine VS_pure (P_pick_t rfl rfl) rfl rfl rfl ?_
      refine VS_pure (P_move rfl) rfl rfl rfl ?_
      refine VS_skip rfl rfl rfl ?_
      refine VS_skip rfl rfl rfl ?_
      refine VS_skip rfl rfl rfl ?_
      refine VS_skip rfl rfl rfl ?_
      refine VS_skip rfl rfl rfl ?_
      refine VS_pure (P_pick_f rfl rfl) rfl rfl rfl ?_
      refine VS_pure (P_move rfl) rfl rfl rfl ?_
      refine VS_skip rfl rfl rfl ?_
      refine VS_skip rfl rfl rfl ?_
      refine VS_skip rfl rfl rfl ?_
      refine VS_skip rfl rfl rfl ?_
      refine VS_skip rfl rfl rfl ?_
      refine VS_pure (P_pick_f rfl rfl) rfl rfl rfl ?_
      refine VS_pure (P_move rfl) rfl rfl rfl ?_
      refine VS_skip rfl rfl rfl ?_
      refine VS_skip rfl rfl rfl ?_
      refine VS_skip rfl rfl rfl ?_
      refine VS_skip rfl rfl rfl ?_
      refine VS_skip rfl rfl rfl ?_
      refine VS_pure (P_pick_f rfl rfl) rfl rfl rfl ?_
      refine VS_pure (P_move rfl) rfl rfl rfl ?_
      refine VS_skip rfl rfl rfl ?_
      refine VS_skip rfl rfl rfl ?_
      refine VS_skip rfl rfl rfl ?_
      refine VS_skip rfl rfl rfl ?_
      refine VS_skip rfl rfl rfl ?_
      refine VS_pure (P_pick_f rfl rfl) rfl rfl rfl ?_
      refine VS_pure (P_move rfl) rfl rfl rfl ?_
      refine VS_skip rfl rfl rfl ?_
      refine VS_skip rfl rfl rfl ?_
      refine VS_skip rfl rfl rfl ?_
      refine VS_skip rfl rfl rfl ?_
      refine VS_skip rfl rfl rfl ?_
      refine VS_pure (P_pick_f rfl rfl) rfl rfl rfl ?_
      refine VS_pure (P_assign rfl) rfl rfl rfl ?_
      refine VS_nil ?_
      refine QS_then ?_
      refine TS_ret ?_
      exact QS_ret [_] ⟨rfl, trivial⟩ [] (Pick.nil _) ⟨rfl, rfl⟩
  · rw [decide_eq_false (ne (fun h => by rw [h]) g1)]
    refine TS_seq ?_
    refine TS_region ?_
    refine VS_step (S_box rfl rfl (fun b1 => ?_)) rfl
    refine VS_step (S_box rfl rfl (fun b2 => ?_)) rfl
    refine VS_pure (P_assign rfl) rfl rfl rfl ?_
    refine VS_nil ?_
    refine QS_then ?_
    refine TS_seq ?_
    refine TS_region ?_
    refine VS_pure (P_fieldAddr0 fo55_0 rfl) rfl rfl rfl ?_
    refine VS_read (S_loadB sg24 rfl (.there (.here)) rfl) rfl rfl rfl ?_
    refine VS_pure (P_fieldAddr0 fo55_0 rfl) rfl rfl rfl ?_
    refine VS_read (S_loadB sg24 rfl (.here) rfl) rfl rfl rfl ?_
    refine VS_pure (df (P_eql rfl rfl) (by first | assumption | omega | decide | exact fun hx => hx (by assumption))) rfl rfl rfl ?_
    refine VS_pure (P_move rfl) rfl rfl rfl ?_
    refine VS_skip rfl rfl rfl ?_
    refine VS_skip rfl rfl rfl ?_
    refine VS_skip rfl rfl rfl ?_
    refine VS_skip rfl rfl rfl ?_
    refine VS_skip rfl rfl rfl ?_
    refine VS_pure (P_pick_f rfl rfl) rfl rfl rfl ?_
    refine VS_pure (P_move rfl) rfl rfl rfl ?_
    refine VS_skip rfl rfl rfl ?_
    refine VS_skip rfl rfl rfl ?_
    refine VS_skip rfl rfl rfl ?_
    refine VS_skip rfl rfl rfl ?_
    refine VS_skip rfl rfl rfl ?_
    refine VS_pure (P_pick_f rfl rfl) rfl rfl rfl ?_
    refine VS_pure (P_move rfl) rfl rfl rfl ?_
    refine VS_skip rfl rfl rfl ?_
    refine VS_skip rfl rfl rfl ?_
    refine VS_skip rfl rfl rfl ?_
    refine VS_skip rfl rfl rfl ?_
    refine VS_skip rfl rfl rfl ?_
    refine VS_pure (P_pick_f rfl rfl) rfl rfl rfl ?_
    refine VS_pure (P_move rfl) rfl rfl rfl ?_
    refine VS_skip rfl rfl rfl ?_
    refine VS_skip rfl rfl rfl ?_
    refine VS_skip rfl rfl rfl ?_
    refine VS_skip rfl rfl rfl ?_
    refine VS_skip rfl rfl rfl ?_
    refine VS_pure (P_pick_f rfl rfl) rfl rfl rfl ?_
    refine VS_pure (P_move rfl) rfl rfl rfl ?_
    refine VS_skip rfl rfl rfl ?_
    refine VS_skip rfl rfl rfl ?_
    refine VS_skip rfl rfl rfl ?_
    refine VS_skip rfl rfl rfl ?_
    refine VS_skip rfl rfl rfl ?_
    refine VS_pure (P_pick_f rfl rfl) rfl rfl rfl ?_
    refine VS_pure (P_move rfl) rfl rfl rfl ?_
    refine VS_skip rfl rfl rfl ?_
    refine VS_skip rfl rfl rfl ?_
    refine VS_skip rfl rfl rfl ?_
    refine VS_skip rfl rfl rfl ?_
    refine VS_skip rfl rfl rfl ?_
    refine VS_pure (P_pick_f rfl rfl) rfl rfl rfl ?_
    refine VS_pure (P_assign rfl) rfl rfl rfl ?_
    refine VS_nil ?_
    refine QS_then ?_
    refine TS_ret ?_
    exact QS_ret [_] ⟨rfl, trivial⟩ [] (Pick.nil _) ⟨rfl, rfl⟩
set_option maxHeartbeats 8000000 in
theorem action_ok {m : Mp} {lx ly : List Value} {x y : Acn} (hx : ActR m lx x) (hy : ActR m ly y) : CS Try.prog 43 [.agg lx.toArray, .agg ly.toArray] m [] (Gives (.bool (decide (x = y)))) := by
  obtain ⟨v, v2, rfl, sx, px⟩ := hx
  obtain ⟨w, w2, rfl, sy, py⟩ := hy
  refine CS_of [.tmp 4] Try.func43 rfl rfl rfl ?_
  have F : ∀ m', Le m m' → CS Try.prog 59 [v, w] m' [] (Gives (.bool (decide (x.ids = y.ids)))) := fun m' hm => EqI_ok (sx.mono hm) (sy.mono hm)
  have F2 : ∀ m', Le m m' → CS Try.prog 60 [v2, w2] m' [] (Gives (.bool (decide (x.pairs = y.pairs)))) := fun m' hm => EqP_ok (px.mono hm) (py.mono hm)
  have ne : ∀ {p : Prop}, (x = y → p) → ¬ p → x ≠ y := fun h hn e => hn (h e)
  by_cases g1 : x.op = y.op
  · skip
    by_cases g2 : x.side = y.side
    · skip
      by_cases g3 : x.place = y.place
      · skip
        by_cases g4 : x.target = y.target
        · skip
          by_cases g5 : x.ids = y.ids
          · rw [decide_eq_true g5] at F
            have hiff : decide (x = y) = decide (x.pairs = y.pairs) := decide_eq_decide.2 ⟨fun h => by rw [h], fun h => by cases x; cases y; simp_all⟩
            rw [hiff]
            refine TS_seq ?_
            refine TS_region ?_
            refine VS_step (S_box rfl rfl (fun b1 => ?_)) rfl
            refine VS_step (S_box rfl rfl (fun b2 => ?_)) rfl
            refine VS_pure (P_assign rfl) rfl rfl rfl ?_
            refine VS_nil ?_
            refine QS_then ?_
            refine TS_seq ?_
            refine TS_region ?_
            refine VS_pure (P_fieldAddr0 fo28_0 rfl) rfl rfl rfl ?_
            refine VS_read (S_loadB sg24 rfl (.there (.here)) rfl) rfl rfl rfl ?_
            refine VS_pure (P_fieldAddr0 fo28_0 rfl) rfl rfl rfl ?_
            refine VS_read (S_loadB sg24 rfl (.here) rfl) rfl rfl rfl ?_
            refine VS_pure (dt (P_eql rfl rfl) (by first | assumption | rfl | omega | decide)) rfl rfl rfl ?_
            refine VS_pure (P_move rfl) rfl rfl rfl ?_
            refine VS_pure (P_fieldAddr0 fo28_1 rfl) rfl rfl rfl ?_
            refine VS_read (S_loadB sg3 rfl (.there (.here)) rfl) rfl rfl rfl ?_
            refine VS_pure (P_fieldAddr0 fo28_1 rfl) rfl rfl rfl ?_
            refine VS_read (S_loadB sg3 rfl (.here) rfl) rfl rfl rfl ?_
            refine VS_pure (dt (P_eql rfl rfl) (by first | assumption | rfl | omega | decide)) rfl rfl rfl ?_
            refine VS_pure (P_pick_t rfl rfl) rfl rfl rfl ?_
            refine VS_pure (P_move rfl) rfl rfl rfl ?_
            refine VS_pure (P_fieldAddr0 fo28_2 rfl) rfl rfl rfl ?_
            refine VS_read (S_loadB sg3 rfl (.there (.here)) rfl) rfl rfl rfl ?_
            refine VS_pure (P_fieldAddr0 fo28_2 rfl) rfl rfl rfl ?_
            refine VS_read (S_loadB sg3 rfl (.here) rfl) rfl rfl rfl ?_
            refine VS_pure (dt (P_eql rfl rfl) (by first | assumption | rfl | omega | decide)) rfl rfl rfl ?_
            refine VS_pure (P_pick_t rfl rfl) rfl rfl rfl ?_
            refine VS_pure (P_move rfl) rfl rfl rfl ?_
            refine VS_pure (P_fieldAddr0 fo28_3 rfl) rfl rfl rfl ?_
            refine VS_read (S_loadB sg3 rfl (.there (.here)) rfl) rfl rfl rfl ?_
            refine VS_pure (P_fieldAddr0 fo28_3 rfl) rfl rfl rfl ?_
            refine VS_read (S_loadB sg3 rfl (.here) rfl) rfl rfl rfl ?_
            refine VS_pure (dt (P_eql rfl rfl) (by first | assumption | rfl | omega | decide)) rfl rfl rfl ?_
            refine VS_pure (P_pick_t rfl rfl) rfl rfl rfl ?_
            refine VS_pure (P_move rfl) rfl rfl rfl ?_
            refine VS_pure (P_fieldAddr0 fo28_4 rfl) rfl rfl rfl ?_
            refine VS_read (S_loadB sg25 rfl (.there (.here)) rfl) rfl rfl rfl ?_
            refine VS_pure (P_fieldAddr0 fo28_4 rfl) rfl rfl rfl ?_
            refine VS_read (S_loadB sg25 rfl (.here) rfl) rfl rfl rfl ?_
            refine VS_step (S_callR cl59 rfl (fun m' hm he => (F _ hm)) rfl ?_) rfl
            rintro _ rfl
            refine VS_pure (P_pick_t rfl rfl) rfl rfl rfl ?_
            refine VS_pure (P_move rfl) rfl rfl rfl ?_
            refine VS_pure (P_fieldAddr0 fo28_5 rfl) rfl rfl rfl ?_
            refine VS_read (S_loadB sg26 rfl (.there (.here)) rfl) rfl rfl rfl ?_
            refine VS_pure (P_fieldAddr0 fo28_5 rfl) rfl rfl rfl ?_
            refine VS_read (S_loadB sg26 rfl (.here) rfl) rfl rfl rfl ?_
            refine VS_step (S_callR cl60 rfl (fun m' hm he => (F2 _ hm)) rfl ?_) rfl
            rintro _ rfl
            refine VS_pure (P_pick_t rfl rfl) rfl rfl rfl ?_
            refine VS_pure (P_assign rfl) rfl rfl rfl ?_
            refine VS_nil ?_
            refine QS_then ?_
            refine TS_ret ?_
            exact QS_ret [_] ⟨rfl, trivial⟩ [] (Pick.nil _) ⟨rfl, rfl⟩
          · rw [decide_eq_false (ne (fun h => by rw [h]) g5)]
            rw [decide_eq_false g5] at F
            refine TS_seq ?_
            refine TS_region ?_
            refine VS_step (S_box rfl rfl (fun b1 => ?_)) rfl
            refine VS_step (S_box rfl rfl (fun b2 => ?_)) rfl
            refine VS_pure (P_assign rfl) rfl rfl rfl ?_
            refine VS_nil ?_
            refine QS_then ?_
            refine TS_seq ?_
            refine TS_region ?_
            refine VS_pure (P_fieldAddr0 fo28_0 rfl) rfl rfl rfl ?_
            refine VS_read (S_loadB sg24 rfl (.there (.here)) rfl) rfl rfl rfl ?_
            refine VS_pure (P_fieldAddr0 fo28_0 rfl) rfl rfl rfl ?_
            refine VS_read (S_loadB sg24 rfl (.here) rfl) rfl rfl rfl ?_
            refine VS_pure (dt (P_eql rfl rfl) (by first | assumption | rfl | omega | decide)) rfl rfl rfl ?_
            refine VS_pure (P_move rfl) rfl rfl rfl ?_
            refine VS_pure (P_fieldAddr0 fo28_1 rfl) rfl rfl rfl ?_
            refine VS_read (S_loadB sg3 rfl (.there (.here)) rfl) rfl rfl rfl ?_
            refine VS_pure (P_fieldAddr0 fo28_1 rfl) rfl rfl rfl ?_
            refine VS_read (S_loadB sg3 rfl (.here) rfl) rfl rfl rfl ?_
            refine VS_pure (dt (P_eql rfl rfl) (by first | assumption | rfl | omega | decide)) rfl rfl rfl ?_
            refine VS_pure (P_pick_t rfl rfl) rfl rfl rfl ?_
            refine VS_pure (P_move rfl) rfl rfl rfl ?_
            refine VS_pure (P_fieldAddr0 fo28_2 rfl) rfl rfl rfl ?_
            refine VS_read (S_loadB sg3 rfl (.there (.here)) rfl) rfl rfl rfl ?_
            refine VS_pure (P_fieldAddr0 fo28_2 rfl) rfl rfl rfl ?_
            refine VS_read (S_loadB sg3 rfl (.here) rfl) rfl rfl rfl ?_
            refine VS_pure (dt (P_eql rfl rfl) (by first | assumption | rfl | omega | decide)) rfl rfl rfl ?_
            refine VS_pure (P_pick_t rfl rfl) rfl rfl rfl ?_
            refine VS_pure (P_move rfl) rfl rfl rfl ?_
            refine VS_pure (P_fieldAddr0 fo28_3 rfl) rfl rfl rfl ?_
            refine VS_read (S_loadB sg3 rfl (.there (.here)) rfl) rfl rfl rfl ?_
            refine VS_pure (P_fieldAddr0 fo28_3 rfl) rfl rfl rfl ?_
            refine VS_read (S_loadB sg3 rfl (.here) rfl) rfl rfl rfl ?_
            refine VS_pure (dt (P_eql rfl rfl) (by first | assumption | rfl | omega | decide)) rfl rfl rfl ?_
            refine VS_pure (P_pick_t rfl rfl) rfl rfl rfl ?_
            refine VS_pure (P_move rfl) rfl rfl rfl ?_
            refine VS_pure (P_fieldAddr0 fo28_4 rfl) rfl rfl rfl ?_
            refine VS_read (S_loadB sg25 rfl (.there (.here)) rfl) rfl rfl rfl ?_
            refine VS_pure (P_fieldAddr0 fo28_4 rfl) rfl rfl rfl ?_
            refine VS_read (S_loadB sg25 rfl (.here) rfl) rfl rfl rfl ?_
            refine VS_step (S_callR cl59 rfl (fun m' hm he => (F _ hm)) rfl ?_) rfl
            rintro _ rfl
            refine VS_pure (P_pick_t rfl rfl) rfl rfl rfl ?_
            refine VS_pure (P_move rfl) rfl rfl rfl ?_
            refine VS_skip rfl rfl rfl ?_
            refine VS_skip rfl rfl rfl ?_
            refine VS_skip rfl rfl rfl ?_
            refine VS_skip rfl rfl rfl ?_
            refine VS_skip rfl rfl rfl ?_
            refine VS_pure (P_pick_f rfl rfl) rfl rfl rfl ?_
            refine VS_pure (P_assign rfl) rfl rfl rfl ?_
            refine VS_nil ?_
            refine QS_then ?_
            refine TS_ret ?_
            exact QS_ret [_] ⟨rfl, trivial⟩ [] (Pick.nil _) ⟨rfl, rfl⟩
        · rw [decide_eq_false (ne (fun h => by rw [h]) g4)]
          refine TS_seq ?_
          refine TS_region ?_
          refine VS_step (S_box rfl rfl (fun b1 => ?_)) rfl
          refine VS_step (S_box rfl rfl (fun b2 => ?_)) rfl
          refine VS_pure (P_assign rfl) rfl rfl rfl ?_
          refine VS_nil ?_
          refine QS_then ?_
          refine TS_seq ?_
          refine TS_region ?_
          refine VS_pure (P_fieldAddr0 fo28_0 rfl) rfl rfl rfl ?_
          refine VS_read (S_loadB sg24 rfl (.there (.here)) rfl) rfl rfl rfl ?_
          refine VS_pure (P_fieldAddr0 fo28_0 rfl) rfl rfl rfl ?_
          refine VS_read (S_loadB sg24 rfl (.here) rfl) rfl rfl rfl ?_
          refine VS_pure (dt (P_eql rfl rfl) (by first | assumption | rfl | omega | decide)) rfl rfl rfl ?_
          refine VS_pure (P_move rfl) rfl rfl rfl ?_
          refine VS_pure (P_fieldAddr0 fo28_1 rfl) rfl rfl rfl ?_
          refine VS_read (S_loadB sg3 rfl (.there (.here)) rfl) rfl rfl rfl ?_
          refine VS_pure (P_fieldAddr0 fo28_1 rfl) rfl rfl rfl ?_
          refine VS_read (S_loadB sg3 rfl (.here) rfl) rfl rfl rfl ?_
          refine VS_pure (dt (P_eql rfl rfl) (by first | assumption | rfl | omega | decide)) rfl rfl rfl ?_
          refine VS_pure (P_pick_t rfl rfl) rfl rfl rfl ?_
          refine VS_pure (P_move rfl) rfl rfl rfl ?_
          refine VS_pure (P_fieldAddr0 fo28_2 rfl) rfl rfl rfl ?_
          refine VS_read (S_loadB sg3 rfl (.there (.here)) rfl) rfl rfl rfl ?_
          refine VS_pure (P_fieldAddr0 fo28_2 rfl) rfl rfl rfl ?_
          refine VS_read (S_loadB sg3 rfl (.here) rfl) rfl rfl rfl ?_
          refine VS_pure (dt (P_eql rfl rfl) (by first | assumption | rfl | omega | decide)) rfl rfl rfl ?_
          refine VS_pure (P_pick_t rfl rfl) rfl rfl rfl ?_
          refine VS_pure (P_move rfl) rfl rfl rfl ?_
          refine VS_pure (P_fieldAddr0 fo28_3 rfl) rfl rfl rfl ?_
          refine VS_read (S_loadB sg3 rfl (.there (.here)) rfl) rfl rfl rfl ?_
          refine VS_pure (P_fieldAddr0 fo28_3 rfl) rfl rfl rfl ?_
          refine VS_read (S_loadB sg3 rfl (.here) rfl) rfl rfl rfl ?_
          refine VS_pure (df (P_eql rfl rfl) (by first | assumption | omega | decide | exact fun hx => hx (by assumption))) rfl rfl rfl ?_
          refine VS_pure (P_pick_t rfl rfl) rfl rfl rfl ?_
          refine VS_pure (P_move rfl) rfl rfl rfl ?_
          refine VS_skip rfl rfl rfl ?_
          refine VS_skip rfl rfl rfl ?_
          refine VS_skip rfl rfl rfl ?_
          refine VS_skip rfl rfl rfl ?_
          refine VS_skip rfl rfl rfl ?_
          refine VS_pure (P_pick_f rfl rfl) rfl rfl rfl ?_
          refine VS_pure (P_move rfl) rfl rfl rfl ?_
          refine VS_skip rfl rfl rfl ?_
          refine VS_skip rfl rfl rfl ?_
          refine VS_skip rfl rfl rfl ?_
          refine VS_skip rfl rfl rfl ?_
          refine VS_skip rfl rfl rfl ?_
          refine VS_pure (P_pick_f rfl rfl) rfl rfl rfl ?_
          refine VS_pure (P_assign rfl) rfl rfl rfl ?_
          refine VS_nil ?_
          refine QS_then ?_
          refine TS_ret ?_
          exact QS_ret [_] ⟨rfl, trivial⟩ [] (Pick.nil _) ⟨rfl, rfl⟩
      · rw [decide_eq_false (ne (fun h => by rw [h]) g3)]
        refine TS_seq ?_
        refine TS_region ?_
        refine VS_step (S_box rfl rfl (fun b1 => ?_)) rfl
        refine VS_step (S_box rfl rfl (fun b2 => ?_)) rfl
        refine VS_pure (P_assign rfl) rfl rfl rfl ?_
        refine VS_nil ?_
        refine QS_then ?_
        refine TS_seq ?_
        refine TS_region ?_
        refine VS_pure (P_fieldAddr0 fo28_0 rfl) rfl rfl rfl ?_
        refine VS_read (S_loadB sg24 rfl (.there (.here)) rfl) rfl rfl rfl ?_
        refine VS_pure (P_fieldAddr0 fo28_0 rfl) rfl rfl rfl ?_
        refine VS_read (S_loadB sg24 rfl (.here) rfl) rfl rfl rfl ?_
        refine VS_pure (dt (P_eql rfl rfl) (by first | assumption | rfl | omega | decide)) rfl rfl rfl ?_
        refine VS_pure (P_move rfl) rfl rfl rfl ?_
        refine VS_pure (P_fieldAddr0 fo28_1 rfl) rfl rfl rfl ?_
        refine VS_read (S_loadB sg3 rfl (.there (.here)) rfl) rfl rfl rfl ?_
        refine VS_pure (P_fieldAddr0 fo28_1 rfl) rfl rfl rfl ?_
        refine VS_read (S_loadB sg3 rfl (.here) rfl) rfl rfl rfl ?_
        refine VS_pure (dt (P_eql rfl rfl) (by first | assumption | rfl | omega | decide)) rfl rfl rfl ?_
        refine VS_pure (P_pick_t rfl rfl) rfl rfl rfl ?_
        refine VS_pure (P_move rfl) rfl rfl rfl ?_
        refine VS_pure (P_fieldAddr0 fo28_2 rfl) rfl rfl rfl ?_
        refine VS_read (S_loadB sg3 rfl (.there (.here)) rfl) rfl rfl rfl ?_
        refine VS_pure (P_fieldAddr0 fo28_2 rfl) rfl rfl rfl ?_
        refine VS_read (S_loadB sg3 rfl (.here) rfl) rfl rfl rfl ?_
        refine VS_pure (df (P_eql rfl rfl) (by first | assumption | omega | decide | exact fun hx => hx (by assumption))) rfl rfl rfl ?_
        refine VS_pure (P_pick_t rfl rfl) rfl rfl rfl ?_
        refine VS_pure (P_move rfl) rfl rfl rfl ?_
        refine VS_skip rfl rfl rfl ?_
        refine VS_skip rfl rfl rfl ?_
        refine VS_skip rfl rfl rfl ?_
        refine VS_skip rfl rfl rfl ?_
        refine VS_skip rfl rfl rfl ?_
        refine VS_pure (P_pick_f rfl rfl) rfl rfl rfl ?_
        refine VS_pure (P_move rfl) rfl rfl rfl ?_
        refine VS_skip rfl rfl rfl ?_
        refine VS_skip rfl rfl rfl ?_
        refine VS_skip rfl rfl rfl ?_
        refine VS_skip rfl rfl rfl ?_
        refine VS_skip rfl rfl rfl ?_
        refine VS_pure (P_pick_f rfl rfl) rfl rfl rfl ?_
        refine VS_pure (P_move rfl) rfl rfl rfl ?_
        refine VS_skip rfl rfl rfl ?_
        refine VS_skip rfl rfl rfl ?_
        refine VS_skip rfl rfl rfl ?_
        refine VS_skip rfl rfl rfl ?_
        refine VS_skip rfl rfl rfl ?_
        refine VS_pure (P_pick_f rfl rfl) rfl rfl rfl ?_
        refine VS_pure (P_assign rfl) rfl rfl rfl ?_
        refine VS_nil ?_
        refine QS_then ?_
        refine TS_ret ?_
        exact QS_ret [_] ⟨rfl, trivial⟩ [] (Pick.nil _) ⟨rfl, rfl⟩
    · rw [decide_eq_false (ne (fun h => by rw [h]) g2)]
      refine TS_seq ?_
      refine TS_region ?_
      refine VS_step (S_box rfl rfl (fun b1 => ?_)) rfl
      refine VS_step (S_box rfl rfl (fun b2 => ?_)) rfl
      refine VS_pure (P_assign rfl) rfl rfl rfl ?_
      refine VS_nil ?_
      refine QS_then ?_
      refine TS_seq ?_
      refine TS_region ?_
      refine VS_pure (P_fieldAddr0 fo28_0 rfl) rfl rfl rfl ?_
      refine VS_read (S_loadB sg24 rfl (.there (.here)) rfl) rfl rfl rfl ?_
      refine VS_pure (P_fieldAddr0 fo28_0 rfl) rfl rfl rfl ?_
      refine VS_read (S_loadB sg24 rfl (.here) rfl) rfl rfl rfl ?_
      refine VS_pure (dt (P_eql rfl rfl) (by first | assumption | rfl | omega | decide)) rfl rfl rfl ?_
      refine VS_pure (P_move rfl) rfl rfl rfl ?_
      refine VS_pure (P_fieldAddr0 fo28_1 rfl) rfl rfl rfl ?_
      refine VS_read (S_loadB sg3 rfl (.there (.here)) rfl) rfl rfl rfl ?_
      refine VS_pure (P_fieldAddr0 fo28_1 rfl) rfl rfl rfl ?_
      refine VS_read (S_loadB sg3 rfl (.here) rfl) rfl rfl rfl ?_
      refine VS_pure (df (P_eql rfl rfl) (by first | assumption | omega | decide | exact fun hx => hx (by assumption))) rfl rfl rfl ?_
      refine VS_pure (P_pick_t rfl rfl) rfl rfl rfl ?_
      refine VS_pure (P_move rfl) rfl rfl rfl ?_
      refine VS_skip rfl rfl rfl ?_
      refine VS_skip rfl rfl rfl ?_
      refine VS_skip rfl rfl rfl ?_
      refine VS_skip rfl rfl rfl ?_
      refine VS_skip rfl rfl rfl ?_
      refine VS_pure (P_pick_f rfl rfl) rfl rfl rfl ?_
      refine VS_pure (P_move rfl) rfl rfl rfl ?_
      refine VS_skip rfl rfl rfl ?_
      refine VS_skip rfl rfl rfl ?_
      refine VS_skip rfl rfl rfl ?_
      refine VS_skip rfl rfl rfl ?_
      refine VS_skip rfl rfl rfl ?_
      refine VS_pure (P_pick_f rfl rfl) rfl rfl rfl ?_
      refine VS_pure (P_move rfl) rfl rfl rfl ?_
      refine VS_skip rfl rfl rfl ?_
      refine VS_skip rfl rfl rfl ?_
      refine VS_skip rfl rfl rfl ?_
      refine VS_skip rfl rfl rfl ?_
      refine VS_skip rfl rfl rfl ?_
      refine VS_pure (P_pick_f rfl rfl) rfl rfl rfl ?_
      refine VS_pure (P_move rfl) rfl rfl rfl ?_
      refine VS_skip rfl rfl rfl ?_
      refine VS_skip rfl rfl rfl ?_
      refine VS_skip rfl rfl rfl ?_
      refine VS_skip rfl rfl rfl ?_
      refine VS_skip rfl rfl rfl ?_
      refine VS_pure (P_pick_f rfl rfl) rfl rfl rfl ?_
      refine VS_pure (P_assign rfl) rfl rfl rfl ?_
      refine VS_nil ?_
      refine QS_then ?_
      refine TS_ret ?_
      exact QS_ret [_] ⟨rfl, trivial⟩ [] (Pick.nil _) ⟨rfl, rfl⟩
  · rw [decide_eq_false (ne (fun h => by rw [h]) g1)]
    refine TS_seq ?_
    refine TS_region ?_
    refine VS_step (S_box rfl rfl (fun b1 => ?_)) rfl
    refine VS_step (S_box rfl rfl (fun b2 => ?_)) rfl
    refine VS_pure (P_assign rfl) rfl rfl rfl ?_
    refine VS_nil ?_
    refine QS_then ?_
    refine TS_seq ?_
    refine TS_region ?_
    refine VS_pure (P_fieldAddr0 fo28_0 rfl) rfl rfl rfl ?_
    refine VS_read (S_loadB sg24 rfl (.there (.here)) rfl) rfl rfl rfl ?_
    refine VS_pure (P_fieldAddr0 fo28_0 rfl) rfl rfl rfl ?_
    refine VS_read (S_loadB sg24 rfl (.here) rfl) rfl rfl rfl ?_
    refine VS_pure (df (P_eql rfl rfl) (by first | assumption | omega | decide | exact fun hx => hx (by assumption))) rfl rfl rfl ?_
    refine VS_pure (P_move rfl) rfl rfl rfl ?_
    refine VS_skip rfl rfl rfl ?_
    refine VS_skip rfl rfl rfl ?_
    refine VS_skip rfl rfl rfl ?_
    refine VS_skip rfl rfl rfl ?_
    refine VS_skip rfl rfl rfl ?_
    refine VS_pure (P_pick_f rfl rfl) rfl rfl rfl ?_
    refine VS_pure (P_move rfl) rfl rfl rfl ?_
    refine VS_skip rfl rfl rfl ?_
    refine VS_skip rfl rfl rfl ?_
    refine VS_skip rfl rfl rfl ?_
    refine VS_skip rfl rfl rfl ?_
    refine VS_skip rfl rfl rfl ?_
    refine VS_pure (P_pick_f rfl rfl) rfl rfl rfl ?_
    refine VS_pure (P_move rfl) rfl rfl rfl ?_
    refine VS_skip rfl rfl rfl ?_
    refine VS_skip rfl rfl rfl ?_
    refine VS_skip rfl rfl rfl ?_
    refine VS_skip rfl rfl rfl ?_
    refine VS_skip rfl rfl rfl ?_
    refine VS_pure (P_pick_f rfl rfl) rfl rfl rfl ?_
    refine VS_pure (P_move rfl) rfl rfl rfl ?_
    refine VS_skip rfl rfl rfl ?_
    refine VS_skip rfl rfl rfl ?_
    refine VS_skip rfl rfl rfl ?_
    refine VS_skip rfl rfl rfl ?_
    refine VS_skip rfl rfl rfl ?_
    refine VS_pure (P_pick_f rfl rfl) rfl rfl rfl ?_
    refine VS_pure (P_move rfl) rfl rfl rfl ?_
    refine VS_skip rfl rfl rfl ?_
    refine VS_skip rfl rfl rfl ?_
    refine VS_skip rfl rfl rfl ?_
    refine VS_skip rfl rfl rfl ?_
    refine VS_skip rfl rfl rfl ?_
    refine VS_pure (P_pick_f rfl rfl) rfl rfl rfl ?_
    refine VS_pure (P_assign rfl) rfl rfl rfl ?_
    refine VS_nil ?_
    refine QS_then ?_
    refine TS_ret ?_
    exact QS_ret [_] ⟨rfl, trivial⟩ [] (Pick.nil _) ⟨rfl, rfl⟩
end Go.Proofs.Ytbpihgphicmdiaa
