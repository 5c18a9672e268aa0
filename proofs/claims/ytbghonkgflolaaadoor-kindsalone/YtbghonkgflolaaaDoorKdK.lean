/- A part of the proof: contracts of functions of the program. No condition. -/
import Derived.Test.YtbghonkgflolaaaDoorKdJ
namespace Go.Proofs.YtbghonkgflolaaaDoor
open Go.Eng Wd Kd

def pairV (r : Nat × Nat) : Value := .tuple [.int .i64 r.1, .int .i64 r.2].toArray
def runeR (s : List UInt8) (p : Nat) : Nat × Nat := (rn s p).getD (0, 0)
/-- what the first byte tells: how many bytes, the first bits, the least that may be -/
inductive Cls : Nat → Nat → Nat → Nat → Prop
  | one {b : Nat} (h : b < 128) : Cls b 1 b 0
  | two {b : Nat} (h : b / 32 = 6) : Cls b 2 (b % 32) 128
  | three {b : Nat} (h : b / 16 = 14) : Cls b 3 (b % 16) 2048
  | four {b : Nat} (h : b / 8 = 30) : Cls b 4 (b % 8) 65536
theorem runeR_no {s : List UInt8} {p : Nat} (h : 128 ≤ by_ s p) (h1 : ¬ by_ s p / 32 = 6) (h2 : ¬ by_ s p / 16 = 14) (h3 : ¬ by_ s p / 8 = 30) : runeR s p = (0, 0) := by
  unfold runeR
  rw [rn_none]
  · rfl
  · intro x k hk; cases hk <;> omega

def valI (s : List UInt8) (p x0 : Nat) : Nat → Nat
  | 0 => x0
  | i + 1 => valI s p x0 i * 64 + by_ s (p + (i + 1)) % 64
theorem cls_end {s : List UInt8} {p n x0 le : Nat} (hc : Cls (by_ s p) n x0 le) (hk : ∀ j, 1 ≤ j → j < n → cont s (p + j) = true) :
    runeR s p = if valI s p x0 (n - 1) < le ∨ 1114111 < valI s p x0 (n - 1) ∨ (55296 ≤ valI s p x0 (n - 1) ∧ valI s p x0 (n - 1) ≤ 57343) then (0, 0) else (valI s p x0 (n - 1), n) := by
  have hb := by_lt s p
  have one : ∀ x k, RnK s p x k → k = n ∧ x = valI s p x0 (n - 1) := fun x k h => by
    cases h <;> cases hc <;> (try omega) <;> (first | exact ⟨rfl, rfl⟩ | (refine ⟨rfl, ?_⟩; simp only [valI, Nat.reduceSub, Nat.reduceAdd]; omega))
  split
  · rename_i hno
    unfold runeR
    rw [rn_none]
    · rfl
    · intro x k h
      obtain ⟨e1, e2⟩ := one x k h
      rw [← e2] at hno
      cases h <;> cases hc <;> omega
  · rename_i hyes
    unfold runeR
    have hK : RnK s p (valI s p x0 (n - 1)) n := by
      cases hc with
      | one h => exact .one h
      | two h =>
        obtain ⟨l1, k1⟩ := cont_iff.1 (hk 1 (by omega) (by omega))
        exact .two _ h l1 k1 rfl (by omega)
      | three h =>
        obtain ⟨l1, k1⟩ := cont_iff.1 (hk 1 (by omega) (by omega))
        obtain ⟨l2, k2⟩ := cont_iff.1 (hk 2 (by omega) (by omega))
        refine .three _ h l2 k1 k2 ?_ (by omega) (by omega)
        simp only [valI, Nat.reduceSub, Nat.reduceAdd]; omega
      | four h =>
        obtain ⟨l1, k1⟩ := cont_iff.1 (hk 1 (by omega) (by omega))
        obtain ⟨l2, k2⟩ := cont_iff.1 (hk 2 (by omega) (by omega))
        obtain ⟨l3, k3⟩ := cont_iff.1 (hk 3 (by omega) (by omega))
        refine .four _ h l3 k1 k2 k3 ?_ (by omega) (by omega)
        simp only [valI, Nat.reduceSub, Nat.reduceAdd]; omega
    rw [rn_of_kind hK]
    rfl
theorem cls_no {s : List UInt8} {p n x0 le i : Nat} (hc : Cls (by_ s p) n x0 le) (h1 : 1 ≤ i) (h2 : i < n) (hk : cont s (p + i) = false) : runeR s p = (0, 0) := by
  have hb := by_lt s p
  unfold runeR
  rw [rn_none]
  · rfl
  · intro x k h
    have hcc : ∀ j, j < k → 1 ≤ j → cont s (p + j) = true := fun j a b => by
      cases h with
      | one => omega
      | two _ _ l1 k1 => exact cont_iff.2 (by rcases (show j = 1 by omega) with rfl; exact ⟨l1, k1⟩)
      | three _ _ l1 k1 k2 => exact cont_iff.2 (by rcases (show j = 1 ∨ j = 2 by omega) with rfl | rfl; exact ⟨by omega, k1⟩; exact ⟨by omega, k2⟩)
      | four _ _ l1 k1 k2 k3 => exact cont_iff.2 (by rcases (show j = 1 ∨ j = 2 ∨ j = 3 by omega) with rfl | rfl | rfl; exact ⟨by omega, k1⟩; exact ⟨by omega, k2⟩; exact ⟨by omega, k3⟩)
    have hkn : k = n := by cases h <;> cases hc <;> omega
    rw [hcc i (by omega) h1] at hk
    cases hk

set_option maxHeartbeats 4000000 in
theorem runeAt_ok {m : Mp} {s : List UInt8} {p : Nat} (hp : p < s.length) (hs : s.length ≤ 140737488355328) : CS Tryd.prog 20 [.string (bs s), .int .i64 p] m [] (Gives (pairV (runeR s p))) := by
  refine CS_of [.tmp 4, .tmp 5] Tryd.func20 rfl rfl rfl ?_
  have hb := by_lt s p
  have a5 : bits .and .i64 (by_ s p : Nat) 31 = ((by_ s p % 32 : Nat) : Int) := i64_maskN 5 (by decide) (by_ s p) (by omega)
  have a4 : bits .and .i64 (by_ s p : Nat) 15 = ((by_ s p % 16 : Nat) : Int) := i64_maskN 4 (by decide) (by_ s p) (by omega)
  have a3 : bits .and .i64 (by_ s p : Nat) 7 = ((by_ s p % 8 : Nat) : Int) := i64_maskN 3 (by decide) (by_ s p) (by omega)
  refine TS_seq ?_
  refine TS_region ?_
  refine VS_pure (P_assign rfl) rfl rfl rfl ?_
  refine VS_pure (P_assign rfl) rfl rfl rfl ?_
  refine VS_nil ?_
  refine QS_then ?_
  refine TS_seq ?_
  refine TS_region ?_
  refine VS_pure (P_move rfl) rfl rfl rfl ?_
  refine VS_pure (P_move rfl) rfl rfl rfl ?_
  refine VS_pure (P_sindexN rfl rfl st9 (by omega)) rfl rfl rfl ?_
  refine VS_pure (P_convN us5 ik3 rfl (w64 (by omega) (by omega))) rfl rfl rfl ?_
  refine VS_pure (P_assign rfl) rfl rfl rfl ?_
  refine VS_nil ?_
  refine QS_then ?_
  refine TS_seq ?_
  refine TS_region ?_
  refine VS_pure (P_assign rfl) rfl rfl rfl ?_
  refine VS_nil ?_
  refine QS_then ?_
  refine TS_seq ?_
  refine TS_region ?_
  refine VS_pure (P_move rfl) rfl rfl rfl ?_
  refine VS_pure (P_assign rfl) rfl rfl rfl ?_
  refine VS_nil ?_
  refine QS_then ?_
  refine TS_seq ?_
  refine TS_region ?_
  refine VS_pure (P_assign rfl) rfl rfl rfl ?_
  refine VS_nil ?_
  refine QS_then ?_
  refine TS_seq ?_
  refine TS_seq ?_
  refine TS_cut3 (fun y : Nat × Nat × Nat => [(0, .string (bs s)), (1, .int .i64 p), (4, .int .i64 0), (5, .int .i64 0), (7, .int .i64 (y.1 : Nat)), (8, .int .i64 (y.2.1 : Nat)), (9, .int .i64 (y.2.2 : Nat))]) (fun _ => []) (fun y => Cls (by_ s p) y.1 y.2.1 y.2.2) ?_ ?_
  · have sub : ∀ (n x0 le : Nat) (env : Env), Cls (by_ s p) n x0 le → lk env 0 = some (.string (bs s)) → True := fun _ _ _ _ _ _ => trivial
    clear sub
    by_cases h0 : by_ s p < 128
    · refine TS_region ?_
      refine VS_pure (P_move rfl) rfl rfl rfl ?_
      refine VS_pure (df (P_geq rfl rfl) (by omega)) rfl rfl rfl ?_
      refine VS_pure (P_move rfl) rfl rfl rfl ?_
      refine VS_skip rfl rfl rfl ?_
      refine VS_skip rfl rfl rfl ?_
      refine VS_pure (P_pick_f rfl rfl) rfl rfl rfl ?_
      refine VS_nil ?_
      refine QS_then ?_
      refine TS_false rfl ?_
      refine TS_seq ?_
      refine TS_region ?_
      refine VS_pure (P_move rfl) rfl rfl rfl ?_
      refine VS_pure (df (P_geq rfl rfl) (by omega)) rfl rfl rfl ?_
      refine VS_pure (P_move rfl) rfl rfl rfl ?_
      refine VS_skip rfl rfl rfl ?_
      refine VS_skip rfl rfl rfl ?_
      refine VS_pure (P_pick_f rfl rfl) rfl rfl rfl ?_
      refine VS_nil ?_
      refine QS_then ?_
      refine TS_false rfl ?_
      refine TS_seq ?_
      refine TS_region ?_
      refine VS_pure (P_move rfl) rfl rfl rfl ?_
      refine VS_pure (df (P_geq rfl rfl) (by omega)) rfl rfl rfl ?_
      refine VS_pure (P_move rfl) rfl rfl rfl ?_
      refine VS_skip rfl rfl rfl ?_
      refine VS_skip rfl rfl rfl ?_
      refine VS_pure (P_pick_f rfl rfl) rfl rfl rfl ?_
      refine VS_nil ?_
      refine QS_then ?_
      refine TS_false rfl ?_
      refine TS_seq ?_
      refine TS_region ?_
      refine VS_pure (P_move rfl) rfl rfl rfl ?_
      refine VS_pure (df (P_geq rfl rfl) (by omega)) rfl rfl rfl ?_
      refine VS_nil ?_
      refine QS_then ?_
      refine TS_false rfl ?_
      refine TS_skip ?_
      exact QS_round (1, by_ s p, 0) ⟨rfl, rfl, rfl, rfl, rfl, rfl, rfl, trivial⟩ (Pick.refl _) (.one h0) Nat.zero_lt_one
    · by_cases h1 : by_ s p / 32 = 6
      · refine TS_region ?_
        refine VS_pure (P_move rfl) rfl rfl rfl ?_
        refine VS_pure (dt (P_geq rfl rfl) (by omega)) rfl rfl rfl ?_
        refine VS_pure (P_move rfl) rfl rfl rfl ?_
        refine VS_pure (P_move rfl) rfl rfl rfl ?_
        refine VS_pure (dt (P_lss rfl rfl) (by omega)) rfl rfl rfl ?_
        refine VS_pure (P_pick_t rfl rfl) rfl rfl rfl ?_
        refine VS_nil ?_
        refine QS_then ?_
        refine TS_true rfl ?_
        refine TS_seq ?_
        refine TS_region ?_
        refine VS_pure (P_assign rfl) rfl rfl rfl ?_
        refine VS_nil ?_
        refine QS_then ?_
        refine TS_seq ?_
        refine TS_region ?_
        refine VS_pure (P_move rfl) rfl rfl rfl ?_
        refine VS_pure (P_and rfl rfl (by with_reducible assumption)) rfl rfl rfl ?_
        refine VS_pure (P_assign rfl) rfl rfl rfl ?_
        refine VS_nil ?_
        refine QS_then ?_
        refine TS_region ?_
        refine VS_pure (P_assign rfl) rfl rfl rfl ?_
        refine VS_nil ?_
        exact QS_round (2, by_ s p % 32, 128) ⟨rfl, rfl, rfl, rfl, rfl, rfl, rfl, trivial⟩ (Pick.refl _) (.two h1) Nat.zero_lt_one
      · by_cases h2 : by_ s p / 16 = 14
        · refine TS_region ?_
          refine VS_pure (P_move rfl) rfl rfl rfl ?_
          refine VS_pure (dt (P_geq rfl rfl) (by omega)) rfl rfl rfl ?_
          refine VS_pure (P_move rfl) rfl rfl rfl ?_
          refine VS_pure (P_move rfl) rfl rfl rfl ?_
          refine VS_pure (df (P_lss rfl rfl) (by omega)) rfl rfl rfl ?_
          refine VS_pure (P_pick_t rfl rfl) rfl rfl rfl ?_
          refine VS_nil ?_
          refine QS_then ?_
          refine TS_false rfl ?_
          refine TS_seq ?_
          refine TS_region ?_
          refine VS_pure (P_move rfl) rfl rfl rfl ?_
          refine VS_pure (dt (P_geq rfl rfl) (by omega)) rfl rfl rfl ?_
          refine VS_pure (P_move rfl) rfl rfl rfl ?_
          refine VS_pure (P_move rfl) rfl rfl rfl ?_
          refine VS_pure (dt (P_lss rfl rfl) (by omega)) rfl rfl rfl ?_
          refine VS_pure (P_pick_t rfl rfl) rfl rfl rfl ?_
          refine VS_nil ?_
          refine QS_then ?_
          refine TS_true rfl ?_
          refine TS_seq ?_
          refine TS_region ?_
          refine VS_pure (P_assign rfl) rfl rfl rfl ?_
          refine VS_nil ?_
          refine QS_then ?_
          refine TS_seq ?_
          refine TS_region ?_
          refine VS_pure (P_move rfl) rfl rfl rfl ?_
          refine VS_pure (P_and rfl rfl (by with_reducible assumption)) rfl rfl rfl ?_
          refine VS_pure (P_assign rfl) rfl rfl rfl ?_
          refine VS_nil ?_
          refine QS_then ?_
          refine TS_region ?_
          refine VS_pure (P_assign rfl) rfl rfl rfl ?_
          refine VS_nil ?_
          exact QS_round (3, by_ s p % 16, 2048) ⟨rfl, rfl, rfl, rfl, rfl, rfl, rfl, trivial⟩ (Pick.refl _) (.three h2) Nat.zero_lt_one
        · by_cases h3 : by_ s p / 8 = 30
          · refine TS_region ?_
            refine VS_pure (P_move rfl) rfl rfl rfl ?_
            refine VS_pure (dt (P_geq rfl rfl) (by omega)) rfl rfl rfl ?_
            refine VS_pure (P_move rfl) rfl rfl rfl ?_
            refine VS_pure (P_move rfl) rfl rfl rfl ?_
            refine VS_pure (df (P_lss rfl rfl) (by omega)) rfl rfl rfl ?_
            refine VS_pure (P_pick_t rfl rfl) rfl rfl rfl ?_
            refine VS_nil ?_
            refine QS_then ?_
            refine TS_false rfl ?_
            refine TS_seq ?_
            refine TS_region ?_
            refine VS_pure (P_move rfl) rfl rfl rfl ?_
            refine VS_pure (dt (P_geq rfl rfl) (by omega)) rfl rfl rfl ?_
            refine VS_pure (P_move rfl) rfl rfl rfl ?_
            refine VS_pure (P_move rfl) rfl rfl rfl ?_
            refine VS_pure (df (P_lss rfl rfl) (by omega)) rfl rfl rfl ?_
            refine VS_pure (P_pick_t rfl rfl) rfl rfl rfl ?_
            refine VS_nil ?_
            refine QS_then ?_
            refine TS_false rfl ?_
            refine TS_seq ?_
            refine TS_region ?_
            refine VS_pure (P_move rfl) rfl rfl rfl ?_
            refine VS_pure (dt (P_geq rfl rfl) (by omega)) rfl rfl rfl ?_
            refine VS_pure (P_move rfl) rfl rfl rfl ?_
            refine VS_pure (P_move rfl) rfl rfl rfl ?_
            refine VS_pure (dt (P_lss rfl rfl) (by omega)) rfl rfl rfl ?_
            refine VS_pure (P_pick_t rfl rfl) rfl rfl rfl ?_
            refine VS_nil ?_
            refine QS_then ?_
            refine TS_true rfl ?_
            refine TS_seq ?_
            refine TS_region ?_
            refine VS_pure (P_assign rfl) rfl rfl rfl ?_
            refine VS_nil ?_
            refine QS_then ?_
            refine TS_seq ?_
            refine TS_region ?_
            refine VS_pure (P_move rfl) rfl rfl rfl ?_
            refine VS_pure (P_and rfl rfl (by with_reducible assumption)) rfl rfl rfl ?_
            refine VS_pure (P_assign rfl) rfl rfl rfl ?_
            refine VS_nil ?_
            refine QS_then ?_
            refine TS_region ?_
            refine VS_pure (P_assign rfl) rfl rfl rfl ?_
            refine VS_nil ?_
            exact QS_round (4, by_ s p % 8, 65536) ⟨rfl, rfl, rfl, rfl, rfl, rfl, rfl, trivial⟩ (Pick.refl _) (.four h3) Nat.zero_lt_one
          · have hno := runeR_no (by omega) h1 h2 h3
            by_cases h4 : by_ s p < 192
            · refine TS_region ?_
              refine VS_pure (P_move rfl) rfl rfl rfl ?_
              refine VS_pure (df (P_geq rfl rfl) (by omega)) rfl rfl rfl ?_
              refine VS_pure (P_move rfl) rfl rfl rfl ?_
              refine VS_skip rfl rfl rfl ?_
              refine VS_skip rfl rfl rfl ?_
              refine VS_pure (P_pick_f rfl rfl) rfl rfl rfl ?_
              refine VS_nil ?_
              refine QS_then ?_
              refine TS_false rfl ?_
              refine TS_seq ?_
              refine TS_region ?_
              refine VS_pure (P_move rfl) rfl rfl rfl ?_
              refine VS_pure (df (P_geq rfl rfl) (by omega)) rfl rfl rfl ?_
              refine VS_pure (P_move rfl) rfl rfl rfl ?_
              refine VS_skip rfl rfl rfl ?_
              refine VS_skip rfl rfl rfl ?_
              refine VS_pure (P_pick_f rfl rfl) rfl rfl rfl ?_
              refine VS_nil ?_
              refine QS_then ?_
              refine TS_false rfl ?_
              refine TS_seq ?_
              refine TS_region ?_
              refine VS_pure (P_move rfl) rfl rfl rfl ?_
              refine VS_pure (df (P_geq rfl rfl) (by omega)) rfl rfl rfl ?_
              refine VS_pure (P_move rfl) rfl rfl rfl ?_
              refine VS_skip rfl rfl rfl ?_
              refine VS_skip rfl rfl rfl ?_
              refine VS_pure (P_pick_f rfl rfl) rfl rfl rfl ?_
              refine VS_nil ?_
              refine QS_then ?_
              refine TS_false rfl ?_
              refine TS_seq ?_
              refine TS_region ?_
              refine VS_pure (P_move rfl) rfl rfl rfl ?_
              refine VS_pure (dt (P_geq rfl rfl) (by omega)) rfl rfl rfl ?_
              refine VS_nil ?_
              refine QS_then ?_
              refine TS_true rfl ?_
              refine TS_seq ?_
              refine TS_region ?_
              refine VS_pure (P_assign rfl) rfl rfl rfl ?_
              refine VS_pure (P_assign rfl) rfl rfl rfl ?_
              refine VS_nil ?_
              refine QS_then ?_
              refine TS_ret ?_
              refine QS_round_ret ?_
              exact QS_ret [_, _] ⟨rfl, rfl, trivial⟩ [] (Pick.nil _) ⟨by rw [hno]; rfl, rfl⟩
            · refine TS_region ?_
              refine VS_pure (P_move rfl) rfl rfl rfl ?_
              refine VS_pure (dt (P_geq rfl rfl) (by omega)) rfl rfl rfl ?_
              refine VS_pure (P_move rfl) rfl rfl rfl ?_
              refine VS_pure (P_move rfl) rfl rfl rfl ?_
              refine VS_pure (df (P_lss rfl rfl) (by omega)) rfl rfl rfl ?_
              refine VS_pure (P_pick_t rfl rfl) rfl rfl rfl ?_
              refine VS_nil ?_
              refine QS_then ?_
              refine TS_false rfl ?_
              refine TS_seq ?_
              refine TS_region ?_
              refine VS_pure (P_move rfl) rfl rfl rfl ?_
              refine VS_pure (dt (P_geq rfl rfl) (by omega)) rfl rfl rfl ?_
              refine VS_pure (P_move rfl) rfl rfl rfl ?_
              refine VS_pure (P_move rfl) rfl rfl rfl ?_
              refine VS_pure (df (P_lss rfl rfl) (by omega)) rfl rfl rfl ?_
              refine VS_pure (P_pick_t rfl rfl) rfl rfl rfl ?_
              refine VS_nil ?_
              refine QS_then ?_
              refine TS_false rfl ?_
              refine TS_seq ?_
              refine TS_region ?_
              refine VS_pure (P_move rfl) rfl rfl rfl ?_
              refine VS_pure (dt (P_geq rfl rfl) (by omega)) rfl rfl rfl ?_
              refine VS_pure (P_move rfl) rfl rfl rfl ?_
              refine VS_pure (P_move rfl) rfl rfl rfl ?_
              refine VS_pure (df (P_lss rfl rfl) (by omega)) rfl rfl rfl ?_
              refine VS_pure (P_pick_t rfl rfl) rfl rfl rfl ?_
              refine VS_nil ?_
              refine QS_then ?_
              refine TS_false rfl ?_
              refine TS_seq ?_
              refine TS_region ?_
              refine VS_pure (P_move rfl) rfl rfl rfl ?_
              refine VS_pure (dt (P_geq rfl rfl) (by omega)) rfl rfl rfl ?_
              refine VS_nil ?_
              refine QS_then ?_
              refine TS_true rfl ?_
              refine TS_seq ?_
              refine TS_region ?_
              refine VS_pure (P_assign rfl) rfl rfl rfl ?_
              refine VS_pure (P_assign rfl) rfl rfl rfl ?_
              refine VS_nil ?_
              refine QS_then ?_
              refine TS_ret ?_
              refine QS_round_ret ?_
              exact QS_ret [_, _] ⟨rfl, rfl, trivial⟩ [] (Pick.nil _) ⟨by rw [hno]; rfl, rfl⟩
  · rintro ⟨n, x0, le⟩ hc
    simp only at hc ⊢
    refine TS_seq ?_
    refine TS_seq ?_
    refine TS_region ?_
    refine VS_pure (P_assign rfl) rfl rfl rfl ?_
    refine VS_nil ?_
    refine QS_then ?_
    refine TS_block ?_
    have hn : 1 ≤ n ∧ n ≤ 4 ∧ x0 < 128 ∧ le ≤ 65536 := by cases hc <;> omega
    refine TS_loop (fun i : Nat => [(0, .string (bs s)), (1, .int .i64 p), (7, .int .i64 (n : Nat)), (8, .int .i64 (valI s p x0 i : Nat)), (9, .int .i64 (le : Nat)), (10, .int .i64 ((i + 1 : Nat) : Int))]) (fun _ => [])
      (fun i => i + 1 ≤ n ∧ (∀ j, 1 ≤ j → j < i + 1 → cont s (p + j) = true) ∧ ((i = 0 ∧ valI s p x0 i < 128) ∨ (i = 1 ∧ valI s p x0 i < 8256) ∨ (i = 2 ∧ valI s p x0 i < 528448) ∨ (i = 3 ∧ valI s p x0 i < 33820736))) (fun i => n - i) 0
      ⟨rfl, rfl, rfl, rfl, rfl, rfl, trivial⟩ (Pick.refl _) ⟨by omega, (fun j h1 h2 => by omega), .inl ⟨rfl, hn.2.2.1⟩⟩ ?_
    rintro i ⟨hi, hk, hv⟩
    by_cases hlt : i + 1 < n
    · have hbi := by_lt s (p + (i + 1))
      have u1 := u8_and192 (by_ s (p + (i + 1))) hbi
      have u2 : bits .and .u8 (by_ s (p + (i + 1)) : Nat) 63 = ((by_ s (p + (i + 1)) % 64 : Nat) : Int) := u8_maskN 6 (by decide) _ hbi
      have hsh : IntKind.i64.wrap ((valI s p x0 i : Nat) * 2 ^ (6 : Int).toNat) = ((valI s p x0 i * 64 : Nat) : Int) := by
        rw [show ((valI s p x0 i : Nat) : Int) * 2 ^ (6 : Int).toNat = ((valI s p x0 i * 64 : Nat) : Int) by simp]
        exact w64 (by omega) (by omega)
      have hor : bits .or .i64 ((valI s p x0 i * 64 : Nat) : Int) ((by_ s (p + (i + 1)) % 64 : Nat) : Int) = ((valI s p x0 (i + 1) : Nat) : Int) := i64_joinN 6 _ _ (by omega) (by omega) (by omega) (by omega)
      by_cases hle : p + (i + 1) < s.length
      · by_cases h64 : by_ s (p + (i + 1)) / 64 = 2
        · refine TS_seq ?_
          refine TS_seq ?_
          refine TS_region ?_
          refine VS_pure (P_move rfl) rfl rfl rfl ?_
          refine VS_pure (P_move rfl) rfl rfl rfl ?_
          refine VS_pure (dt (P_lss rfl rfl) (by omega)) rfl rfl rfl ?_
          refine VS_nil ?_
          refine QS_then ?_
          refine TS_true rfl ?_
          refine TS_skip ?_
          refine QS_then ?_
          refine TS_seq ?_
          refine TS_block ?_
          refine TS_seq ?_
          refine TS_seq ?_
          refine TS_region ?_
          refine VS_pure (P_move rfl) rfl rfl rfl ?_
          refine VS_pure (P_move rfl) rfl rfl rfl ?_
          refine VS_pure (P_addN rfl rfl (by omega)) rfl rfl rfl ?_
          refine VS_pure (P_move rfl) rfl rfl rfl ?_
          refine VS_pure (P_len_str rfl st9) rfl rfl rfl ?_
          refine VS_pure (df (P_geq rfl rfl) (by omega)) rfl rfl rfl ?_
          iterate 4 (refine VS_pure (P_move rfl) rfl rfl rfl ?_)
          refine VS_pure (P_addN rfl rfl (by omega)) rfl rfl rfl ?_
          refine VS_pure (P_sindexN rfl rfl st9 (by omega)) rfl rfl rfl ?_
          refine VS_pure (P_and rfl rfl (by with_reducible assumption)) rfl rfl rfl ?_
          refine VS_pure (df (P_neq rfl rfl) (by omega)) rfl rfl rfl ?_
          refine VS_pure (P_pick_f rfl rfl) rfl rfl rfl ?_
          refine VS_nil ?_
          refine QS_then ?_
          refine TS_false rfl ?_
          refine TS_skip ?_
          refine QS_then ?_
          refine TS_region ?_
          refine VS_pure (P_move rfl) rfl rfl rfl ?_
          refine VS_pure ((P_shl rfl rfl (by decide) (by decide) hsh)) rfl rfl rfl ?_
          iterate 3 (refine VS_pure (P_move rfl) rfl rfl rfl ?_)
          refine VS_pure (P_addN rfl rfl (by omega)) rfl rfl rfl ?_
          refine VS_pure (P_sindexN rfl rfl st9 (by omega)) rfl rfl rfl ?_
          refine VS_pure (P_and rfl rfl (by with_reducible assumption)) rfl rfl rfl ?_
          refine VS_pure (P_convN us5 ik3 rfl (w64 (by omega) (by omega))) rfl rfl rfl ?_
          refine VS_pure (P_or rfl rfl (by with_reducible assumption)) rfl rfl rfl ?_
          refine VS_pure (P_assign rfl) rfl rfl rfl ?_
          refine VS_nil ?_
          refine QS_block ?_
          refine QS_then ?_
          refine TS_region ?_
          refine VS_pure (P_move rfl) rfl rfl rfl ?_
          refine VS_pure (P_add rfl rfl (w64 (by omega) (by omega))) rfl rfl rfl ?_
          refine VS_pure (P_assign rfl) rfl rfl rfl ?_
          refine VS_nil ?_
          refine QS_round (i + 1) ⟨rfl, rfl, rfl, rfl, rfl, rfl, trivial⟩ (Pick.refl _) ⟨by omega, (fun j h1 h2 => ?_), ?_⟩ (by omega)
          · by_cases hj : j < i + 1
            · exact hk j h1 hj
            · have : j = i + 1 := by omega
              subst this
              exact cont_iff.2 ⟨hle, h64⟩
          · simp only [valI]
            omega
        · have hno := cls_no hc (i := i + 1) (by omega) hlt (by cases hcc : cont s (p + (i + 1)) with | false => rfl | true => exact absurd (cont_iff.1 hcc).2 h64)
          refine TS_seq ?_
          refine TS_seq ?_
          refine TS_region ?_
          refine VS_pure (P_move rfl) rfl rfl rfl ?_
          refine VS_pure (P_move rfl) rfl rfl rfl ?_
          refine VS_pure (dt (P_lss rfl rfl) (by omega)) rfl rfl rfl ?_
          refine VS_nil ?_
          refine QS_then ?_
          refine TS_true rfl ?_
          refine TS_skip ?_
          refine QS_then ?_
          refine TS_seq ?_
          refine TS_block ?_
          refine TS_seq ?_
          refine TS_seq ?_
          refine TS_region ?_
          refine VS_pure (P_move rfl) rfl rfl rfl ?_
          refine VS_pure (P_move rfl) rfl rfl rfl ?_
          refine VS_pure (P_addN rfl rfl (by omega)) rfl rfl rfl ?_
          refine VS_pure (P_move rfl) rfl rfl rfl ?_
          refine VS_pure (P_len_str rfl st9) rfl rfl rfl ?_
          refine VS_pure (df (P_geq rfl rfl) (by omega)) rfl rfl rfl ?_
          iterate 4 (refine VS_pure (P_move rfl) rfl rfl rfl ?_)
          refine VS_pure (P_addN rfl rfl (by omega)) rfl rfl rfl ?_
          refine VS_pure (P_sindexN rfl rfl st9 (by omega)) rfl rfl rfl ?_
          refine VS_pure (P_and rfl rfl (by with_reducible assumption)) rfl rfl rfl ?_
          refine VS_pure (dt (P_neq rfl rfl) (by omega)) rfl rfl rfl ?_
          refine VS_pure (P_pick_f rfl rfl) rfl rfl rfl ?_
          refine VS_nil ?_
          refine QS_then ?_
          refine TS_true rfl ?_
          refine TS_seq ?_
          refine TS_region ?_
          refine VS_pure (P_assign rfl) rfl rfl rfl ?_
          refine VS_pure (P_assign rfl) rfl rfl rfl ?_
          refine VS_nil ?_
          refine QS_then ?_
          refine TS_ret ?_
          refine QS_then_ret ?_
          refine QS_block_ret ?_
          refine QS_then_ret ?_
          refine QS_round_ret ?_
          refine QS_block_ret ?_
          refine QS_then_ret ?_
          exact QS_ret [_, _] ⟨rfl, rfl, trivial⟩ [] (Pick.nil _) ⟨by rw [hno]; rfl, rfl⟩
      · have hno := cls_no hc (i := i + 1) (by omega) hlt (by cases hcc : cont s (p + (i + 1)) with | false => rfl | true => exact absurd (cont_iff.1 hcc).1 hle)
        refine TS_seq ?_
        refine TS_seq ?_
        refine TS_region ?_
        refine VS_pure (P_move rfl) rfl rfl rfl ?_
        refine VS_pure (P_move rfl) rfl rfl rfl ?_
        refine VS_pure (dt (P_lss rfl rfl) (by omega)) rfl rfl rfl ?_
        refine VS_nil ?_
        refine QS_then ?_
        refine TS_true rfl ?_
        refine TS_skip ?_
        refine QS_then ?_
        refine TS_seq ?_
        refine TS_block ?_
        refine TS_seq ?_
        refine TS_seq ?_
        refine TS_region ?_
        refine VS_pure (P_move rfl) rfl rfl rfl ?_
        refine VS_pure (P_move rfl) rfl rfl rfl ?_
        refine VS_pure (P_addN rfl rfl (by omega)) rfl rfl rfl ?_
        refine VS_pure (P_move rfl) rfl rfl rfl ?_
        refine VS_pure (P_len_str rfl st9) rfl rfl rfl ?_
        refine VS_pure (dt (P_geq rfl rfl) (by omega)) rfl rfl rfl ?_
        refine VS_pure (P_move rfl) rfl rfl rfl ?_
        iterate 7 (refine VS_skip rfl rfl rfl ?_)
        refine VS_pure (P_pick_t rfl rfl) rfl rfl rfl ?_
        refine VS_nil ?_
        refine QS_then ?_
        refine TS_true rfl ?_
        refine TS_seq ?_
        refine TS_region ?_
        refine VS_pure (P_assign rfl) rfl rfl rfl ?_
        refine VS_pure (P_assign rfl) rfl rfl rfl ?_
        refine VS_nil ?_
        refine QS_then ?_
        refine TS_ret ?_
        refine QS_then_ret ?_
        refine QS_block_ret ?_
        refine QS_then_ret ?_
        refine QS_round_ret ?_
        refine QS_block_ret ?_
        refine QS_then_ret ?_
        exact QS_ret [_, _] ⟨rfl, rfl, trivial⟩ [] (Pick.nil _) ⟨by rw [hno]; rfl, rfl⟩
    · have hin : i = n - 1 := by omega
      have hend := cls_end hc (fun j h1 h2 => hk j h1 (by omega))
      rw [← hin] at hend
      refine TS_seq ?_
      refine TS_seq ?_
      refine TS_region ?_
      refine VS_pure (P_move rfl) rfl rfl rfl ?_
      refine VS_pure (P_move rfl) rfl rfl rfl ?_
      refine VS_pure (df (P_lss rfl rfl) (by omega)) rfl rfl rfl ?_
      refine VS_nil ?_
      refine QS_then ?_
      refine TS_false rfl ?_
      refine TS_exit ?_
      refine QS_then_exit ?_
      refine QS_round_exit ?_
      refine QS_block_here ?_
      refine QS_then ?_
      refine TS_seq ?_
      refine TS_seq ?_
      refine TS_region ?_
      refine VS_pure (P_move rfl) rfl rfl rfl ?_
      refine VS_pure (P_move rfl) rfl rfl rfl ?_
      refine VS_if (P_lss rfl rfl) rfl rfl rfl (fun hc1 => ?_) (fun hc1 => ?_)
      refine VS_pure (P_move rfl) rfl rfl rfl ?_
      refine VS_skip rfl rfl rfl ?_
      refine VS_skip rfl rfl rfl ?_
      refine VS_pure (P_pick_t rfl rfl) rfl rfl rfl ?_
      refine VS_pure (P_move rfl) rfl rfl rfl ?_
      iterate 6 (refine VS_skip rfl rfl rfl ?_)
      refine VS_pure (P_pick_t rfl rfl) rfl rfl rfl ?_
      refine VS_nil ?_
      refine QS_then ?_
      refine TS_true rfl ?_
      refine TS_seq ?_
      refine TS_region ?_
      refine VS_pure (P_assign rfl) rfl rfl rfl ?_
      refine VS_pure (P_assign rfl) rfl rfl rfl ?_
      refine VS_nil ?_
      refine QS_then ?_
      refine TS_ret ?_
      refine QS_then_ret ?_
      (exact QS_ret [_, _] ⟨rfl, rfl, trivial⟩ [] (Pick.nil _) ⟨by rw [hend]; first | rw [if_pos (by omega)]; rfl | (rw [if_neg (by omega)]; rfl), rfl⟩)
      refine VS_pure (P_move rfl) rfl rfl rfl ?_
      refine VS_pure (P_move rfl) rfl rfl rfl ?_
      refine VS_if (P_gtr rfl rfl) rfl rfl rfl (fun hc2 => ?_) (fun hc2 => ?_)
      refine VS_pure (P_pick_f rfl rfl) rfl rfl rfl ?_
      refine VS_pure (P_move rfl) rfl rfl rfl ?_
      iterate 6 (refine VS_skip rfl rfl rfl ?_)
      refine VS_pure (P_pick_t rfl rfl) rfl rfl rfl ?_
      refine VS_nil ?_
      refine QS_then ?_
      refine TS_true rfl ?_
      refine TS_seq ?_
      refine TS_region ?_
      refine VS_pure (P_assign rfl) rfl rfl rfl ?_
      refine VS_pure (P_assign rfl) rfl rfl rfl ?_
      refine VS_nil ?_
      refine QS_then ?_
      refine TS_ret ?_
      refine QS_then_ret ?_
      (exact QS_ret [_, _] ⟨rfl, rfl, trivial⟩ [] (Pick.nil _) ⟨by rw [hend]; first | rw [if_pos (by omega)]; rfl | (rw [if_neg (by omega)]; rfl), rfl⟩)
      refine VS_pure (P_pick_f rfl rfl) rfl rfl rfl ?_
      refine VS_pure (P_move rfl) rfl rfl rfl ?_
      refine VS_pure (P_move rfl) rfl rfl rfl ?_
      refine VS_if (P_geq rfl rfl) rfl rfl rfl (fun hc3 => ?_) (fun hc3 => ?_)
      refine VS_pure (P_move rfl) rfl rfl rfl ?_
      refine VS_pure (P_move rfl) rfl rfl rfl ?_
      refine VS_if (P_leq rfl rfl) rfl rfl rfl (fun hc4 => ?_) (fun hc4 => ?_)
      refine VS_pure (P_pick_t rfl rfl) rfl rfl rfl ?_
      refine VS_pure (P_pick_f rfl rfl) rfl rfl rfl ?_
      refine VS_nil ?_
      refine QS_then ?_
      refine TS_true rfl ?_
      refine TS_seq ?_
      refine TS_region ?_
      refine VS_pure (P_assign rfl) rfl rfl rfl ?_
      refine VS_pure (P_assign rfl) rfl rfl rfl ?_
      refine VS_nil ?_
      refine QS_then ?_
      refine TS_ret ?_
      refine QS_then_ret ?_
      (exact QS_ret [_, _] ⟨rfl, rfl, trivial⟩ [] (Pick.nil _) ⟨by rw [hend]; first | rw [if_pos (by omega)]; rfl | (rw [if_neg (by omega)]; rfl), rfl⟩)
      refine VS_pure (P_pick_t rfl rfl) rfl rfl rfl ?_
      refine VS_pure (P_pick_f rfl rfl) rfl rfl rfl ?_
      refine VS_nil ?_
      refine QS_then ?_
      refine TS_false rfl ?_
      refine TS_skip ?_
      refine QS_then ?_
      refine TS_seq ?_
      refine TS_region ?_
      refine VS_pure (P_move rfl) rfl rfl rfl ?_
      refine VS_pure (P_move rfl) rfl rfl rfl ?_
      refine VS_pure (P_assign rfl) rfl rfl rfl ?_
      refine VS_pure (P_assign rfl) rfl rfl rfl ?_
      refine VS_nil ?_
      refine QS_then ?_
      refine TS_ret ?_
      (exact QS_ret [_, _] ⟨rfl, rfl, trivial⟩ [] (Pick.nil _) ⟨by rw [hend]; first | rw [if_pos (by omega)]; rfl | (rw [if_neg (by omega)]; rfl), rfl⟩)
      refine VS_pure (P_move rfl) rfl rfl rfl ?_
      refine VS_skip rfl rfl rfl ?_
      refine VS_skip rfl rfl rfl ?_
      refine VS_pure (P_pick_f rfl rfl) rfl rfl rfl ?_
      refine VS_pure (P_pick_f rfl rfl) rfl rfl rfl ?_
      refine VS_nil ?_
      refine QS_then ?_
      refine TS_false rfl ?_
      refine TS_skip ?_
      refine QS_then ?_
      refine TS_seq ?_
      refine TS_region ?_
      refine VS_pure (P_move rfl) rfl rfl rfl ?_
      refine VS_pure (P_move rfl) rfl rfl rfl ?_
      refine VS_pure (P_assign rfl) rfl rfl rfl ?_
      refine VS_pure (P_assign rfl) rfl rfl rfl ?_
      refine VS_nil ?_
      refine QS_then ?_
      refine TS_ret ?_
      (exact QS_ret [_, _] ⟨rfl, rfl, trivial⟩ [] (Pick.nil _) ⟨by rw [hend]; first | rw [if_pos (by omega)]; rfl | (rw [if_neg (by omega)]; rfl), rfl⟩)
end Go.Proofs.YtbghonkgflolaaaDoor
