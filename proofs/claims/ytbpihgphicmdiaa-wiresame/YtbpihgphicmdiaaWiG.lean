/- A part of the proof: contracts of functions of the program. No condition. -/
import Derived.Test.YtbpihgphicmdiaaWiF
import Derived.Test.YtbpihgphicmdiaaEng2
namespace Go.Proofs.Ytbpihgphicmdiaa
open Go.Eng Wi
def rt (x : Ltr) : Bool := decide (x.kind ≠ 1 ∧ x.kind ≠ 8 ∧ x.kind ≠ 64)
def rb (x : Ltr) : Bool := decide (x.kind = 1 ∨ x.kind = 65 ∨ x.kind = 67)
def r1 (x : Ltr) : Bool := rt x || decide (x.table = 0)
def r2 (x : Ltr) : Bool := r1 x && (rb x || decide ((x.bytes.length : Int) = 0))
def r3 (x : Ltr) : Bool := r2 x && (decide (x.kind = 2) || decide (x.text = []))
def r4 (x : Ltr) : Bool := r3 x && (decide (x.kind = 3) || decide ((x.cards.length : Int) = 0))
def r5 (x : Ltr) : Bool := r4 x && (decide (x.kind = 4) || decide (x.act = acn0))
def r6 (x : Ltr) : Bool := r5 x && (decide (x.kind = 64) || (decide (x.to_ = 0) && decide (x.e = 0)))
def r7 (x : Ltr) : Bool := r6 x && (decide (x.kind = 66) || decide ((x.evs.length : Int) = 0))
def rightP (x : Ltr) : Bool := known x.kind && r7 x
set_option maxRecDepth 100000
set_option maxHeartbeats 8000000 in
theorem Right_ok {m : Mp} {lx : List Value} {x : Ltr} (hx : LtR m lx x) : CS Try.prog 10 [.agg lx.toArray] m [] (Gives (.bool (rightP x))) := by
  obtain ⟨vb, vc, vi, vp, ve, rfl, ⟨a1, c1, rfl, g1, k1⟩, ⟨a2, c2, rfl, g2, k2⟩, xi, xp, ⟨a3, c3, vs, rfl, g3, l3, k3, g4⟩⟩ := hx
  refine CS_of [.tmp 2] Try.func10 rfl rfl rfl ?_
  have F1 : ∀ m', Le m m' → CS Try.prog 20 [.int .u8 x.kind] m' [] (Gives (.bool (known x.kind))) := fun m' hm => Known_ok x.kind
  have F2 : ∀ m', Le m m' → CS Try.prog 21 [.agg [.int .i8 x.act.op, iV x.act.side, iV x.act.place, iV x.act.target, vi, vp].toArray] m' [] (Gives (.bool (decide (x.act = acn0)))) := fun m' hm => zero_ok ⟨_, _, rfl, xi.mono hm, xp.mono hm⟩
  have q1 : x.bytes.length ≤ 9223372036854775807 := k1
  have q2 : x.cards.length ≤ 9223372036854775807 := k2
  have q3 : x.evs.length ≤ 9223372036854775807 := k3
  cases hkn : known x.kind with
  | false =>
    rw [hkn] at F1
    rw [show rightP x = false by rw [rightP, hkn, Bool.false_and]]
    refine TS_seq ?_
    refine TS_region ?_
    refine VS_step (S_box rfl rfl (fun b1 => ?_)) rfl
    refine VS_pure (P_assign rfl) rfl rfl rfl ?_
    refine VS_nil ?_
    refine QS_then ?_
    refine TS_seq ?_
    refine TS_region ?_
    refine VS_pure (P_fieldAddr0 fo32_0 rfl) rfl rfl rfl ?_
    refine VS_read (S_loadB sg5 rfl (.here) rfl) rfl rfl rfl ?_
    refine VS_pure (P_assign rfl) rfl rfl rfl ?_
    refine VS_nil ?_
    refine QS_then ?_
    refine TS_seq ?_
    refine TS_seq ?_
    refine TS_region ?_
    refine VS_pure (P_move rfl) rfl rfl rfl ?_
    refine VS_step (S_callR cl20 rfl (fun m' hm he => (F1 _ hm)) rfl ?_) rfl
    rintro _ rfl
    refine VS_pure (P_not rfl) rfl rfl rfl ?_
    refine VS_nil ?_
    refine QS_then ?_
    refine TS_true rfl ?_
    refine TS_seq ?_
    refine TS_region ?_
    refine VS_pure (P_assign rfl) rfl rfl rfl ?_
    refine VS_nil ?_
    refine QS_then ?_
    refine TS_ret ?_
    refine QS_then_ret ?_
    exact QS_ret [_] ⟨rfl, trivial⟩ [] (Pick.nil _) ⟨rfl, rfl⟩
  | true =>
    rw [hkn] at F1
    rw [show rightP x = r7 x by rw [rightP, hkn, Bool.true_and]]
    refine TS_seq ?_
    refine TS_region ?_
    refine VS_step (S_box rfl rfl (fun b1 => ?_)) rfl
    refine VS_pure (P_assign rfl) rfl rfl rfl ?_
    refine VS_nil ?_
    refine QS_then ?_
    refine TS_seq ?_
    refine TS_region ?_
    refine VS_pure (P_fieldAddr0 fo32_0 rfl) rfl rfl rfl ?_
    refine VS_read (S_loadB sg5 rfl (.here) rfl) rfl rfl rfl ?_
    refine VS_pure (P_assign rfl) rfl rfl rfl ?_
    refine VS_nil ?_
    refine QS_then ?_
    refine TS_seq ?_
    refine TS_seq ?_
    refine TS_region ?_
    refine VS_pure (P_move rfl) rfl rfl rfl ?_
    refine VS_step (S_callR cl20 rfl (fun m' hm he => (F1 _ hm)) rfl ?_) rfl
    rintro _ rfl
    refine VS_pure (P_not rfl) rfl rfl rfl ?_
    refine VS_nil ?_
    refine QS_then ?_
    refine TS_false rfl ?_
    refine TS_skip ?_
    refine QS_then ?_
    refine TS_seq ?_
    refine TS_cut (α := Bool) (fun b => [(1, .pointer (some ⟨b1, 0, none⟩)), (3, .int .u8 x.kind), (4, .bool b)]) (fun _ => [cel b1 [.int .u8 x.kind, iV x.table, sV x.text, .slice a1 x.bytes.length c1, .slice a2 x.cards.length c2, .int .i8 x.act.op, iV x.act.side, iV x.act.place, iV x.act.target, vi, vp, .int .u8 x.to_, iV x.e, .slice a3 x.evs.length c3] 32]) (fun b => b = rt x) ?_ ?_
    · refine TS_region ?_
      refine VS_pure (P_move rfl) rfl rfl rfl ?_
      refine VS_if (P_neq rfl rfl) rfl rfl rfl (fun hc1 => ?_) (fun hc1 => ?_)
      refine VS_pure (P_move rfl) rfl rfl rfl ?_
      refine VS_pure (P_move rfl) rfl rfl rfl ?_
      refine VS_if (P_neq rfl rfl) rfl rfl rfl (fun hc2 => ?_) (fun hc2 => ?_)
      refine VS_pure (P_pick_t rfl rfl) rfl rfl rfl ?_
      refine VS_pure (P_move rfl) rfl rfl rfl ?_
      refine VS_pure (P_move rfl) rfl rfl rfl ?_
      refine VS_if (P_neq rfl rfl) rfl rfl rfl (fun hc3 => ?_) (fun hc3 => ?_)
      refine VS_pure (P_pick_t rfl rfl) rfl rfl rfl ?_
      refine VS_pure (P_assign rfl) rfl rfl rfl ?_
      refine VS_nil ?_
      (exact QS_round _ ⟨rfl, rfl, rfl, trivial⟩ (Pick.refl _) (by first | exact (decide_eq_true (by omega)).symm | exact (decide_eq_false (by omega)).symm) (by decide))
      refine VS_pure (P_pick_t rfl rfl) rfl rfl rfl ?_
      refine VS_pure (P_assign rfl) rfl rfl rfl ?_
      refine VS_nil ?_
      (exact QS_round _ ⟨rfl, rfl, rfl, trivial⟩ (Pick.refl _) (by first | exact (decide_eq_true (by omega)).symm | exact (decide_eq_false (by omega)).symm) (by decide))
      refine VS_pure (P_pick_t rfl rfl) rfl rfl rfl ?_
      refine VS_pure (P_move rfl) rfl rfl rfl ?_
      refine VS_skip rfl rfl rfl ?_
      refine VS_skip rfl rfl rfl ?_
      refine VS_pure (P_pick_f rfl rfl) rfl rfl rfl ?_
      refine VS_pure (P_assign rfl) rfl rfl rfl ?_
      refine VS_nil ?_
      (exact QS_round _ ⟨rfl, rfl, rfl, trivial⟩ (Pick.refl _) (by first | exact (decide_eq_true (by omega)).symm | exact (decide_eq_false (by omega)).symm) (by decide))
      refine VS_pure (P_move rfl) rfl rfl rfl ?_
      refine VS_skip rfl rfl rfl ?_
      refine VS_skip rfl rfl rfl ?_
      refine VS_pure (P_pick_f rfl rfl) rfl rfl rfl ?_
      refine VS_pure (P_move rfl) rfl rfl rfl ?_
      refine VS_skip rfl rfl rfl ?_
      refine VS_skip rfl rfl rfl ?_
      refine VS_pure (P_pick_f rfl rfl) rfl rfl rfl ?_
      refine VS_pure (P_assign rfl) rfl rfl rfl ?_
      refine VS_nil ?_
      (exact QS_round _ ⟨rfl, rfl, rfl, trivial⟩ (Pick.refl _) (by first | exact (decide_eq_true (by omega)).symm | exact (decide_eq_false (by omega)).symm) (by decide))
    rintro bt hbt
    refine TS_seq ?_
    refine TS_cut (α := Bool) (fun b => [(1, .pointer (some ⟨b1, 0, none⟩)), (3, .int .u8 x.kind), (4, .bool bt), (5, .bool b)]) (fun _ => [cel b1 [.int .u8 x.kind, iV x.table, sV x.text, .slice a1 x.bytes.length c1, .slice a2 x.cards.length c2, .int .i8 x.act.op, iV x.act.side, iV x.act.place, iV x.act.target, vi, vp, .int .u8 x.to_, iV x.e, .slice a3 x.evs.length c3] 32]) (fun b => b = rb x) ?_ ?_
    · refine TS_region ?_
      refine VS_pure (P_move rfl) rfl rfl rfl ?_
      refine VS_if (P_eql rfl rfl) rfl rfl rfl (fun hc1 => ?_) (fun hc1 => ?_)
      refine VS_pure (P_move rfl) rfl rfl rfl ?_
      refine VS_skip rfl rfl rfl ?_
      refine VS_skip rfl rfl rfl ?_
      refine VS_pure (P_pick_t rfl rfl) rfl rfl rfl ?_
      refine VS_pure (P_move rfl) rfl rfl rfl ?_
      refine VS_skip rfl rfl rfl ?_
      refine VS_skip rfl rfl rfl ?_
      refine VS_pure (P_pick_t rfl rfl) rfl rfl rfl ?_
      refine VS_pure (P_assign rfl) rfl rfl rfl ?_
      refine VS_nil ?_
      (exact QS_round _ ⟨rfl, rfl, rfl, rfl, trivial⟩ (Pick.refl _) (by first | exact (decide_eq_true (by omega)).symm | exact (decide_eq_false (by omega)).symm) (by decide))
      refine VS_pure (P_move rfl) rfl rfl rfl ?_
      refine VS_pure (P_move rfl) rfl rfl rfl ?_
      refine VS_if (P_eql rfl rfl) rfl rfl rfl (fun hc2 => ?_) (fun hc2 => ?_)
      refine VS_pure (P_pick_f rfl rfl) rfl rfl rfl ?_
      refine VS_pure (P_move rfl) rfl rfl rfl ?_
      refine VS_skip rfl rfl rfl ?_
      refine VS_skip rfl rfl rfl ?_
      refine VS_pure (P_pick_t rfl rfl) rfl rfl rfl ?_
      refine VS_pure (P_assign rfl) rfl rfl rfl ?_
      refine VS_nil ?_
      (exact QS_round _ ⟨rfl, rfl, rfl, rfl, trivial⟩ (Pick.refl _) (by first | exact (decide_eq_true (by omega)).symm | exact (decide_eq_false (by omega)).symm) (by decide))
      refine VS_pure (P_pick_f rfl rfl) rfl rfl rfl ?_
      refine VS_pure (P_move rfl) rfl rfl rfl ?_
      refine VS_pure (P_move rfl) rfl rfl rfl ?_
      refine VS_if (P_eql rfl rfl) rfl rfl rfl (fun hc3 => ?_) (fun hc3 => ?_)
      refine VS_pure (P_pick_f rfl rfl) rfl rfl rfl ?_
      refine VS_pure (P_assign rfl) rfl rfl rfl ?_
      refine VS_nil ?_
      (exact QS_round _ ⟨rfl, rfl, rfl, rfl, trivial⟩ (Pick.refl _) (by first | exact (decide_eq_true (by omega)).symm | exact (decide_eq_false (by omega)).symm) (by decide))
      refine VS_pure (P_pick_f rfl rfl) rfl rfl rfl ?_
      refine VS_pure (P_assign rfl) rfl rfl rfl ?_
      refine VS_nil ?_
      (exact QS_round _ ⟨rfl, rfl, rfl, rfl, trivial⟩ (Pick.refl _) (by first | exact (decide_eq_true (by omega)).symm | exact (decide_eq_false (by omega)).symm) (by decide))
    rintro bb hbb
    refine TS_seq ?_
    refine TS_region ?_
    refine VS_cutAt (α := Bool) 15 (fun b => [(1, .pointer (some ⟨b1, 0, none⟩)), (3, .int .u8 x.kind), (4, .bool bt), (5, .bool bb), (45, .bool b)]) (fun _ => [cel b1 [.int .u8 x.kind, iV x.table, sV x.text, .slice a1 x.bytes.length c1, .slice a2 x.cards.length c2, .int .i8 x.act.op, iV x.act.side, iV x.act.place, iV x.act.target, vi, vp, .int .u8 x.to_, iV x.e, .slice a3 x.evs.length c3] 32]) (fun b => b = r2 x) ?_ ?_
    · cases bt <;> cases bb
      · refine VS_pure (P_move rfl) rfl rfl rfl ?_
        refine VS_pure (P_move rfl) rfl rfl rfl ?_
        refine VS_pure (P_fieldAddr0 fo32_1 rfl) rfl rfl rfl ?_
        refine VS_read (S_loadB sg3 rfl (.here) rfl) rfl rfl rfl ?_
        refine VS_if (P_eql rfl rfl) rfl rfl rfl (fun hc1 => ?_) (fun hc1 => ?_)
        refine VS_pure (P_pick_f rfl rfl) rfl rfl rfl ?_
        iterate 3 (refine VS_pure (P_move rfl) rfl rfl rfl ?_)
        refine VS_pure (P_fieldAddr0 fo32_3 rfl) rfl rfl rfl ?_
        refine VS_read (S_loadB sg22 rfl (.here) rfl) rfl rfl rfl ?_
        refine VS_pure (P_len il22 rfl) rfl rfl rfl ?_
        refine VS_if (P_eql rfl rfl) rfl rfl rfl (fun hc2 => ?_) (fun hc2 => ?_)
        refine VS_pure (P_pick_f rfl rfl) rfl rfl rfl ?_
        refine VS_pure (P_pick_t rfl rfl) rfl rfl rfl ?_
        refine VS_nil ?_
        (exact QS_round _ ⟨rfl, rfl, rfl, rfl, rfl, trivial⟩ (Pick.refl _) (by rw [r2, r1, ← hbt, ← hbb]; clear F1 F2 g1 g2 g3 g4 xi xp hbt hbb; first | (simp [*]; done) | (simp only [*, not_false_eq_true, decide_true, decide_false, Bool.or_true, Bool.or_false, Bool.and_true, Bool.and_false, Bool.true_and, Bool.false_and, Bool.true_or, Bool.false_or]; done)) (by decide))
        refine VS_pure (P_pick_f rfl rfl) rfl rfl rfl ?_
        refine VS_pure (P_pick_t rfl rfl) rfl rfl rfl ?_
        refine VS_nil ?_
        (exact QS_round _ ⟨rfl, rfl, rfl, rfl, rfl, trivial⟩ (Pick.refl _) (by rw [r2, r1, ← hbt, ← hbb]; clear F1 F2 g1 g2 g3 g4 xi xp hbt hbb; first | (simp [*]; done) | (simp only [*, not_false_eq_true, decide_true, decide_false, Bool.or_true, Bool.or_false, Bool.and_true, Bool.and_false, Bool.true_and, Bool.false_and, Bool.true_or, Bool.false_or]; done)) (by decide))
        refine VS_pure (P_pick_f rfl rfl) rfl rfl rfl ?_
        refine VS_pure (P_move rfl) rfl rfl rfl ?_
        iterate 7 (refine VS_skip rfl rfl rfl ?_)
        refine VS_pure (P_pick_f rfl rfl) rfl rfl rfl ?_
        refine VS_nil ?_
        (exact QS_round _ ⟨rfl, rfl, rfl, rfl, rfl, trivial⟩ (Pick.refl _) (by rw [r2, r1, ← hbt, ← hbb]; clear F1 F2 g1 g2 g3 g4 xi xp hbt hbb; first | (simp [*]; done) | (simp only [*, not_false_eq_true, decide_true, decide_false, Bool.or_true, Bool.or_false, Bool.and_true, Bool.and_false, Bool.true_and, Bool.false_and, Bool.true_or, Bool.false_or]; done)) (by decide))
      · refine VS_pure (P_move rfl) rfl rfl rfl ?_
        refine VS_pure (P_move rfl) rfl rfl rfl ?_
        refine VS_pure (P_fieldAddr0 fo32_1 rfl) rfl rfl rfl ?_
        refine VS_read (S_loadB sg3 rfl (.here) rfl) rfl rfl rfl ?_
        refine VS_if (P_eql rfl rfl) rfl rfl rfl (fun hc1 => ?_) (fun hc1 => ?_)
        refine VS_pure (P_pick_f rfl rfl) rfl rfl rfl ?_
        iterate 3 (refine VS_pure (P_move rfl) rfl rfl rfl ?_)
        iterate 4 (refine VS_skip rfl rfl rfl ?_)
        refine VS_pure (P_pick_t rfl rfl) rfl rfl rfl ?_
        refine VS_pure (P_pick_t rfl rfl) rfl rfl rfl ?_
        refine VS_nil ?_
        (exact QS_round _ ⟨rfl, rfl, rfl, rfl, rfl, trivial⟩ (Pick.refl _) (by rw [r2, r1, ← hbt, ← hbb]; clear F1 F2 g1 g2 g3 g4 xi xp hbt hbb; first | (simp [*]; done) | (simp only [*, not_false_eq_true, decide_true, decide_false, Bool.or_true, Bool.or_false, Bool.and_true, Bool.and_false, Bool.true_and, Bool.false_and, Bool.true_or, Bool.false_or]; done)) (by decide))
        refine VS_pure (P_pick_f rfl rfl) rfl rfl rfl ?_
        refine VS_pure (P_move rfl) rfl rfl rfl ?_
        iterate 7 (refine VS_skip rfl rfl rfl ?_)
        refine VS_pure (P_pick_f rfl rfl) rfl rfl rfl ?_
        refine VS_nil ?_
        (exact QS_round _ ⟨rfl, rfl, rfl, rfl, rfl, trivial⟩ (Pick.refl _) (by rw [r2, r1, ← hbt, ← hbb]; clear F1 F2 g1 g2 g3 g4 xi xp hbt hbb; first | (simp [*]; done) | (simp only [*, not_false_eq_true, decide_true, decide_false, Bool.or_true, Bool.or_false, Bool.and_true, Bool.and_false, Bool.true_and, Bool.false_and, Bool.true_or, Bool.false_or]; done)) (by decide))
      · refine VS_pure (P_move rfl) rfl rfl rfl ?_
        refine VS_pure (P_move rfl) rfl rfl rfl ?_
        iterate 3 (refine VS_skip rfl rfl rfl ?_)
        refine VS_pure (P_pick_t rfl rfl) rfl rfl rfl ?_
        iterate 3 (refine VS_pure (P_move rfl) rfl rfl rfl ?_)
        refine VS_pure (P_fieldAddr0 fo32_3 rfl) rfl rfl rfl ?_
        refine VS_read (S_loadB sg22 rfl (.here) rfl) rfl rfl rfl ?_
        refine VS_pure (P_len il22 rfl) rfl rfl rfl ?_
        refine VS_if (P_eql rfl rfl) rfl rfl rfl (fun hc1 => ?_) (fun hc1 => ?_)
        refine VS_pure (P_pick_f rfl rfl) rfl rfl rfl ?_
        refine VS_pure (P_pick_t rfl rfl) rfl rfl rfl ?_
        refine VS_nil ?_
        (exact QS_round _ ⟨rfl, rfl, rfl, rfl, rfl, trivial⟩ (Pick.refl _) (by rw [r2, r1, ← hbt, ← hbb]; clear F1 F2 g1 g2 g3 g4 xi xp hbt hbb; first | (simp [*]; done) | (simp only [*, not_false_eq_true, decide_true, decide_false, Bool.or_true, Bool.or_false, Bool.and_true, Bool.and_false, Bool.true_and, Bool.false_and, Bool.true_or, Bool.false_or]; done)) (by decide))
        refine VS_pure (P_pick_f rfl rfl) rfl rfl rfl ?_
        refine VS_pure (P_pick_t rfl rfl) rfl rfl rfl ?_
        refine VS_nil ?_
        (exact QS_round _ ⟨rfl, rfl, rfl, rfl, rfl, trivial⟩ (Pick.refl _) (by rw [r2, r1, ← hbt, ← hbb]; clear F1 F2 g1 g2 g3 g4 xi xp hbt hbb; first | (simp [*]; done) | (simp only [*, not_false_eq_true, decide_true, decide_false, Bool.or_true, Bool.or_false, Bool.and_true, Bool.and_false, Bool.true_and, Bool.false_and, Bool.true_or, Bool.false_or]; done)) (by decide))
      · refine VS_pure (P_move rfl) rfl rfl rfl ?_
        refine VS_pure (P_move rfl) rfl rfl rfl ?_
        iterate 3 (refine VS_skip rfl rfl rfl ?_)
        refine VS_pure (P_pick_t rfl rfl) rfl rfl rfl ?_
        iterate 3 (refine VS_pure (P_move rfl) rfl rfl rfl ?_)
        iterate 4 (refine VS_skip rfl rfl rfl ?_)
        refine VS_pure (P_pick_t rfl rfl) rfl rfl rfl ?_
        refine VS_pure (P_pick_t rfl rfl) rfl rfl rfl ?_
        refine VS_nil ?_
        (exact QS_round _ ⟨rfl, rfl, rfl, rfl, rfl, trivial⟩ (Pick.refl _) (by rw [r2, r1, ← hbt, ← hbb]; clear F1 F2 g1 g2 g3 g4 xi xp hbt hbb; first | (simp [*]; done) | (simp only [*, not_false_eq_true, decide_true, decide_false, Bool.or_true, Bool.or_false, Bool.and_true, Bool.and_false, Bool.true_and, Bool.false_and, Bool.true_or, Bool.false_or]; done)) (by decide))
    rintro u45 hu45
    refine VS_cutAt (α := Bool) 9 (fun b => [(1, .pointer (some ⟨b1, 0, none⟩)), (3, .int .u8 x.kind), (4, .bool bt), (5, .bool bb), (54, .bool b)]) (fun _ => [cel b1 [.int .u8 x.kind, iV x.table, sV x.text, .slice a1 x.bytes.length c1, .slice a2 x.cards.length c2, .int .i8 x.act.op, iV x.act.side, iV x.act.place, iV x.act.target, vi, vp, .int .u8 x.to_, iV x.e, .slice a3 x.evs.length c3] 32]) (fun b => b = r3 x) ?_ ?_
    · cases u45
      · refine VS_pure (P_move rfl) rfl rfl rfl ?_
        iterate 7 (refine VS_skip rfl rfl rfl ?_)
        refine VS_pure (P_pick_f rfl rfl) rfl rfl rfl ?_
        refine VS_nil ?_
        (exact QS_round _ ⟨rfl, rfl, rfl, rfl, rfl, trivial⟩ (Pick.refl _) (by rw [r3, ← hu45]; clear F1 F2 g1 g2 g3 g4 xi xp hbt hbb hu45; first | (simp [*]; done) | (simp only [*, not_false_eq_true, decide_true, decide_false, Bool.or_true, Bool.or_false, Bool.and_true, Bool.and_false, Bool.true_and, Bool.false_and, Bool.true_or, Bool.false_or]; done)) (by decide))
      · refine VS_pure (P_move rfl) rfl rfl rfl ?_
        refine VS_pure (P_move rfl) rfl rfl rfl ?_
        refine VS_if (P_eql rfl rfl) rfl rfl rfl (fun hc1 => ?_) (fun hc1 => ?_)
        refine VS_pure (P_move rfl) rfl rfl rfl ?_
        iterate 3 (refine VS_skip rfl rfl rfl ?_)
        refine VS_pure (P_pick_t rfl rfl) rfl rfl rfl ?_
        refine VS_pure (P_pick_t rfl rfl) rfl rfl rfl ?_
        refine VS_nil ?_
        (exact QS_round _ ⟨rfl, rfl, rfl, rfl, rfl, trivial⟩ (Pick.refl _) (by rw [r3, ← hu45]; clear F1 F2 g1 g2 g3 g4 xi xp hbt hbb hu45; first | (simp [*]; done) | (simp only [*, not_false_eq_true, decide_true, decide_false, Bool.or_true, Bool.or_false, Bool.and_true, Bool.and_false, Bool.true_and, Bool.false_and, Bool.true_or, Bool.false_or]; done)) (by decide))
        refine VS_pure (P_move rfl) rfl rfl rfl ?_
        refine VS_pure (P_fieldAddr0 fo32_2 rfl) rfl rfl rfl ?_
        refine VS_read (S_loadB sg9 rfl (.here) rfl) rfl rfl rfl ?_
        refine VS_if (P_seql rfl rfl) rfl rfl rfl (fun hc2 => ?_) (fun hc2 => ?_)
        refine VS_pure (P_pick_f rfl rfl) rfl rfl rfl ?_
        refine VS_pure (P_pick_t rfl rfl) rfl rfl rfl ?_
        refine VS_nil ?_
        (exact QS_round _ ⟨rfl, rfl, rfl, rfl, rfl, trivial⟩ (Pick.refl _) (by rw [r3, ← hu45]; clear F1 F2 g1 g2 g3 g4 xi xp hbt hbb hu45; first | (simp [*]; done) | (simp only [*, not_false_eq_true, decide_true, decide_false, Bool.or_true, Bool.or_false, Bool.and_true, Bool.and_false, Bool.true_and, Bool.false_and, Bool.true_or, Bool.false_or]; done)) (by decide))
        refine VS_pure (P_pick_f rfl rfl) rfl rfl rfl ?_
        refine VS_pure (P_pick_t rfl rfl) rfl rfl rfl ?_
        refine VS_nil ?_
        (exact QS_round _ ⟨rfl, rfl, rfl, rfl, rfl, trivial⟩ (Pick.refl _) (by rw [r3, ← hu45]; clear F1 F2 g1 g2 g3 g4 xi xp hbt hbb hu45; first | (simp [*]; done) | (simp only [*, not_false_eq_true, decide_true, decide_false, Bool.or_true, Bool.or_false, Bool.and_true, Bool.and_false, Bool.true_and, Bool.false_and, Bool.true_or, Bool.false_or]; done)) (by decide))
    rintro u54 hu54
    refine VS_cutAt (α := Bool) 10 (fun b => [(1, .pointer (some ⟨b1, 0, none⟩)), (3, .int .u8 x.kind), (4, .bool bt), (5, .bool bb), (64, .bool b)]) (fun _ => [cel b1 [.int .u8 x.kind, iV x.table, sV x.text, .slice a1 x.bytes.length c1, .slice a2 x.cards.length c2, .int .i8 x.act.op, iV x.act.side, iV x.act.place, iV x.act.target, vi, vp, .int .u8 x.to_, iV x.e, .slice a3 x.evs.length c3] 32]) (fun b => b = r4 x) ?_ ?_
    · cases u54
      · refine VS_pure (P_move rfl) rfl rfl rfl ?_
        iterate 8 (refine VS_skip rfl rfl rfl ?_)
        refine VS_pure (P_pick_f rfl rfl) rfl rfl rfl ?_
        refine VS_nil ?_
        (exact QS_round _ ⟨rfl, rfl, rfl, rfl, rfl, trivial⟩ (Pick.refl _) (by rw [r4, ← hu54]; clear F1 F2 g1 g2 g3 g4 xi xp hbt hbb hu54; first | (simp [*]; done) | (simp only [*, not_false_eq_true, decide_true, decide_false, Bool.or_true, Bool.or_false, Bool.and_true, Bool.and_false, Bool.true_and, Bool.false_and, Bool.true_or, Bool.false_or]; done)) (by decide))
      · refine VS_pure (P_move rfl) rfl rfl rfl ?_
        refine VS_pure (P_move rfl) rfl rfl rfl ?_
        refine VS_if (P_eql rfl rfl) rfl rfl rfl (fun hc1 => ?_) (fun hc1 => ?_)
        refine VS_pure (P_move rfl) rfl rfl rfl ?_
        iterate 4 (refine VS_skip rfl rfl rfl ?_)
        refine VS_pure (P_pick_t rfl rfl) rfl rfl rfl ?_
        refine VS_pure (P_pick_t rfl rfl) rfl rfl rfl ?_
        refine VS_nil ?_
        (exact QS_round _ ⟨rfl, rfl, rfl, rfl, rfl, trivial⟩ (Pick.refl _) (by rw [r4, ← hu54]; clear F1 F2 g1 g2 g3 g4 xi xp hbt hbb hu54; first | (simp [*]; done) | (simp only [*, not_false_eq_true, decide_true, decide_false, Bool.or_true, Bool.or_false, Bool.and_true, Bool.and_false, Bool.true_and, Bool.false_and, Bool.true_or, Bool.false_or]; done)) (by decide))
        refine VS_pure (P_move rfl) rfl rfl rfl ?_
        refine VS_pure (P_fieldAddr0 fo32_4 rfl) rfl rfl rfl ?_
        refine VS_read (S_loadB sg23 rfl (.here) rfl) rfl rfl rfl ?_
        refine VS_pure (P_len il23 rfl) rfl rfl rfl ?_
        refine VS_if (P_eql rfl rfl) rfl rfl rfl (fun hc2 => ?_) (fun hc2 => ?_)
        refine VS_pure (P_pick_f rfl rfl) rfl rfl rfl ?_
        refine VS_pure (P_pick_t rfl rfl) rfl rfl rfl ?_
        refine VS_nil ?_
        (exact QS_round _ ⟨rfl, rfl, rfl, rfl, rfl, trivial⟩ (Pick.refl _) (by rw [r4, ← hu54]; clear F1 F2 g1 g2 g3 g4 xi xp hbt hbb hu54; first | (simp [*]; done) | (simp only [*, not_false_eq_true, decide_true, decide_false, Bool.or_true, Bool.or_false, Bool.and_true, Bool.and_false, Bool.true_and, Bool.false_and, Bool.true_or, Bool.false_or]; done)) (by decide))
        refine VS_pure (P_pick_f rfl rfl) rfl rfl rfl ?_
        refine VS_pure (P_pick_t rfl rfl) rfl rfl rfl ?_
        refine VS_nil ?_
        (exact QS_round _ ⟨rfl, rfl, rfl, rfl, rfl, trivial⟩ (Pick.refl _) (by rw [r4, ← hu54]; clear F1 F2 g1 g2 g3 g4 xi xp hbt hbb hu54; first | (simp [*]; done) | (simp only [*, not_false_eq_true, decide_true, decide_false, Bool.or_true, Bool.or_false, Bool.and_true, Bool.and_false, Bool.true_and, Bool.false_and, Bool.true_or, Bool.false_or]; done)) (by decide))
    rintro u64 hu64
    refine VS_cutAt (α := Bool) 9 (fun b => [(1, .pointer (some ⟨b1, 0, none⟩)), (3, .int .u8 x.kind), (4, .bool bt), (5, .bool bb), (73, .bool b)]) (fun _ => [cel b1 [.int .u8 x.kind, iV x.table, sV x.text, .slice a1 x.bytes.length c1, .slice a2 x.cards.length c2, .int .i8 x.act.op, iV x.act.side, iV x.act.place, iV x.act.target, vi, vp, .int .u8 x.to_, iV x.e, .slice a3 x.evs.length c3] 32]) (fun b => b = r5 x) ?_ ?_
    · cases u64
      · refine VS_pure (P_move rfl) rfl rfl rfl ?_
        iterate 7 (refine VS_skip rfl rfl rfl ?_)
        refine VS_pure (P_pick_f rfl rfl) rfl rfl rfl ?_
        refine VS_nil ?_
        (exact QS_round _ ⟨rfl, rfl, rfl, rfl, rfl, trivial⟩ (Pick.refl _) (by rw [r5, ← hu64]; clear F1 F2 g1 g2 g3 g4 xi xp hbt hbb hu64; first | (simp [*]; done) | (simp only [*, not_false_eq_true, decide_true, decide_false, Bool.or_true, Bool.or_false, Bool.and_true, Bool.and_false, Bool.true_and, Bool.false_and, Bool.true_or, Bool.false_or]; done)) (by decide))
      · by_cases g : x.kind = 4
        · refine VS_pure (P_move rfl) rfl rfl rfl ?_
          refine VS_pure (P_move rfl) rfl rfl rfl ?_
          refine VS_pure (dt (P_eql rfl rfl) (by assumption)) rfl rfl rfl ?_
          refine VS_pure (P_move rfl) rfl rfl rfl ?_
          iterate 3 (refine VS_skip rfl rfl rfl ?_)
          refine VS_pure (P_pick_t rfl rfl) rfl rfl rfl ?_
          refine VS_pure (P_pick_t rfl rfl) rfl rfl rfl ?_
          refine VS_nil ?_
          (exact QS_round _ ⟨rfl, rfl, rfl, rfl, rfl, trivial⟩ (Pick.refl _) (by rw [r5, ← hu64]; clear F1 F2 g1 g2 g3 g4 xi xp hbt hbb hu64; first | (simp [*]; done) | (simp only [*, not_false_eq_true, decide_true, decide_false, Bool.or_true, Bool.or_false, Bool.and_true, Bool.and_false, Bool.true_and, Bool.false_and, Bool.true_or, Bool.false_or]; done)) (by decide))
        · refine VS_pure (P_move rfl) rfl rfl rfl ?_
          refine VS_pure (P_move rfl) rfl rfl rfl ?_
          refine VS_pure (df (P_eql rfl rfl) (by assumption)) rfl rfl rfl ?_
          refine VS_pure (P_move rfl) rfl rfl rfl ?_
          refine VS_pure (P_fieldAddr0 fo32_5 rfl) rfl rfl rfl ?_
          refine VS_read (S_loadBO ag28 rfl (.here) rfl) rfl rfl rfl ?_
          refine VS_step (S_callR cl21 rfl (fun m' hm he => (F2 _ hm)) rfl ?_) rfl
          rintro _ rfl
          refine VS_pure (P_pick_f rfl rfl) rfl rfl rfl ?_
          refine VS_pure (P_pick_t rfl rfl) rfl rfl rfl ?_
          refine VS_nil ?_
          (exact QS_round _ ⟨rfl, rfl, rfl, rfl, rfl, trivial⟩ (Pick.refl _) (by rw [r5, ← hu64]; clear F1 F2 g1 g2 g3 g4 xi xp hbt hbb hu64; first | (simp [*]; done) | (simp only [*, not_false_eq_true, decide_true, decide_false, Bool.or_true, Bool.or_false, Bool.and_true, Bool.and_false, Bool.true_and, Bool.false_and, Bool.true_or, Bool.false_or]; done)) (by decide))
    rintro u73 hu73
    refine VS_cutAt (α := Bool) 14 (fun b => [(1, .pointer (some ⟨b1, 0, none⟩)), (3, .int .u8 x.kind), (4, .bool bt), (5, .bool bb), (87, .bool b)]) (fun _ => [cel b1 [.int .u8 x.kind, iV x.table, sV x.text, .slice a1 x.bytes.length c1, .slice a2 x.cards.length c2, .int .i8 x.act.op, iV x.act.side, iV x.act.place, iV x.act.target, vi, vp, .int .u8 x.to_, iV x.e, .slice a3 x.evs.length c3] 32]) (fun b => b = r6 x) ?_ ?_
    · cases u73
      · refine VS_pure (P_move rfl) rfl rfl rfl ?_
        iterate 12 (refine VS_skip rfl rfl rfl ?_)
        refine VS_pure (P_pick_f rfl rfl) rfl rfl rfl ?_
        refine VS_nil ?_
        (exact QS_round _ ⟨rfl, rfl, rfl, rfl, rfl, trivial⟩ (Pick.refl _) (by rw [r6, ← hu73]; clear F1 F2 g1 g2 g3 g4 xi xp hbt hbb hu73; first | (simp [*]; done) | (simp only [*, not_false_eq_true, decide_true, decide_false, Bool.or_true, Bool.or_false, Bool.and_true, Bool.and_false, Bool.true_and, Bool.false_and, Bool.true_or, Bool.false_or]; done)) (by decide))
      · refine VS_pure (P_move rfl) rfl rfl rfl ?_
        refine VS_pure (P_move rfl) rfl rfl rfl ?_
        refine VS_if (P_eql rfl rfl) rfl rfl rfl (fun hc1 => ?_) (fun hc1 => ?_)
        refine VS_pure (P_move rfl) rfl rfl rfl ?_
        iterate 8 (refine VS_skip rfl rfl rfl ?_)
        refine VS_pure (P_pick_t rfl rfl) rfl rfl rfl ?_
        refine VS_pure (P_pick_t rfl rfl) rfl rfl rfl ?_
        refine VS_nil ?_
        (exact QS_round _ ⟨rfl, rfl, rfl, rfl, rfl, trivial⟩ (Pick.refl _) (by rw [r6, ← hu73]; clear F1 F2 g1 g2 g3 g4 xi xp hbt hbb hu73; first | (simp [*]; done) | (simp only [*, not_false_eq_true, decide_true, decide_false, Bool.or_true, Bool.or_false, Bool.and_true, Bool.and_false, Bool.true_and, Bool.false_and, Bool.true_or, Bool.false_or]; done)) (by decide))
        refine VS_pure (P_move rfl) rfl rfl rfl ?_
        refine VS_pure (P_fieldAddr0 fo32_6 rfl) rfl rfl rfl ?_
        refine VS_read (S_loadB sg5 rfl (.here) rfl) rfl rfl rfl ?_
        refine VS_if (P_eql rfl rfl) rfl rfl rfl (fun hc2 => ?_) (fun hc2 => ?_)
        refine VS_pure (P_move rfl) rfl rfl rfl ?_
        refine VS_pure (P_fieldAddr0 fo32_7 rfl) rfl rfl rfl ?_
        refine VS_read (S_loadB sg29 rfl (.here) rfl) rfl rfl rfl ?_
        refine VS_if (P_eql rfl rfl) rfl rfl rfl (fun hc3 => ?_) (fun hc3 => ?_)
        refine VS_pure (P_pick_t rfl rfl) rfl rfl rfl ?_
        refine VS_pure (P_pick_f rfl rfl) rfl rfl rfl ?_
        refine VS_pure (P_pick_t rfl rfl) rfl rfl rfl ?_
        refine VS_nil ?_
        (exact QS_round _ ⟨rfl, rfl, rfl, rfl, rfl, trivial⟩ (Pick.refl _) (by rw [r6, ← hu73]; clear F1 F2 g1 g2 g3 g4 xi xp hbt hbb hu73; first | (simp [*]; done) | (simp only [*, not_false_eq_true, decide_true, decide_false, Bool.or_true, Bool.or_false, Bool.and_true, Bool.and_false, Bool.true_and, Bool.false_and, Bool.true_or, Bool.false_or]; done)) (by decide))
        refine VS_pure (P_pick_t rfl rfl) rfl rfl rfl ?_
        refine VS_pure (P_pick_f rfl rfl) rfl rfl rfl ?_
        refine VS_pure (P_pick_t rfl rfl) rfl rfl rfl ?_
        refine VS_nil ?_
        (exact QS_round _ ⟨rfl, rfl, rfl, rfl, rfl, trivial⟩ (Pick.refl _) (by rw [r6, ← hu73]; clear F1 F2 g1 g2 g3 g4 xi xp hbt hbb hu73; first | (simp [*]; done) | (simp only [*, not_false_eq_true, decide_true, decide_false, Bool.or_true, Bool.or_false, Bool.and_true, Bool.and_false, Bool.true_and, Bool.false_and, Bool.true_or, Bool.false_or]; done)) (by decide))
        refine VS_pure (P_move rfl) rfl rfl rfl ?_
        iterate 3 (refine VS_skip rfl rfl rfl ?_)
        refine VS_pure (P_pick_f rfl rfl) rfl rfl rfl ?_
        refine VS_pure (P_pick_f rfl rfl) rfl rfl rfl ?_
        refine VS_pure (P_pick_t rfl rfl) rfl rfl rfl ?_
        refine VS_nil ?_
        (exact QS_round _ ⟨rfl, rfl, rfl, rfl, rfl, trivial⟩ (Pick.refl _) (by rw [r6, ← hu73]; clear F1 F2 g1 g2 g3 g4 xi xp hbt hbb hu73; first | (simp [*]; done) | (simp only [*, not_false_eq_true, decide_true, decide_false, Bool.or_true, Bool.or_false, Bool.and_true, Bool.and_false, Bool.true_and, Bool.false_and, Bool.true_or, Bool.false_or]; done)) (by decide))
    rintro u87 hu87
    cases u87
    · rw [show r7 x = false by rw [r7, ← hu87, Bool.false_and]]
      refine VS_pure (P_move rfl) rfl rfl rfl ?_
      iterate 8 (refine VS_skip rfl rfl rfl ?_)
      refine VS_pure (P_pick_f rfl rfl) rfl rfl rfl ?_
      refine VS_pure (P_assign rfl) rfl rfl rfl ?_
      refine VS_nil ?_
      refine QS_then ?_
      refine TS_ret ?_
      exact QS_ret [_] ⟨rfl, trivial⟩ [] (Pick.nil _) ⟨rfl, rfl⟩
    · by_cases g : x.kind = 66
      · rw [show r7 x = true by rw [r7, ← hu87]; simp [g]]
        refine VS_pure (P_move rfl) rfl rfl rfl ?_
        refine VS_pure (P_move rfl) rfl rfl rfl ?_
        refine VS_pure (dt (P_eql rfl rfl) (by assumption)) rfl rfl rfl ?_
        refine VS_pure (P_move rfl) rfl rfl rfl ?_
        iterate 4 (refine VS_skip rfl rfl rfl ?_)
        refine VS_pure (P_pick_t rfl rfl) rfl rfl rfl ?_
        refine VS_pure (P_pick_t rfl rfl) rfl rfl rfl ?_
        refine VS_pure (P_assign rfl) rfl rfl rfl ?_
        refine VS_nil ?_
        refine QS_then ?_
        refine TS_ret ?_
        exact QS_ret [_] ⟨rfl, trivial⟩ [] (Pick.nil _) ⟨rfl, rfl⟩
      · by_cases gg : (x.evs.length : Int) = 0
        · rw [show r7 x = true by rw [r7, ← hu87, decide_eq_true gg, Bool.or_true]; rfl]
          refine VS_pure (P_move rfl) rfl rfl rfl ?_
          refine VS_pure (P_move rfl) rfl rfl rfl ?_
          refine VS_pure (df (P_eql rfl rfl) (by assumption)) rfl rfl rfl ?_
          refine VS_pure (P_move rfl) rfl rfl rfl ?_
          refine VS_pure (P_fieldAddr0 fo32_8 rfl) rfl rfl rfl ?_
          refine VS_read (S_loadB sg30 rfl (.here) rfl) rfl rfl rfl ?_
          refine VS_pure (P_len il30 rfl) rfl rfl rfl ?_
          refine VS_pure (dt (P_eql rfl rfl) (by assumption)) rfl rfl rfl ?_
          refine VS_pure (P_pick_f rfl rfl) rfl rfl rfl ?_
          refine VS_pure (P_pick_t rfl rfl) rfl rfl rfl ?_
          refine VS_pure (P_assign rfl) rfl rfl rfl ?_
          refine VS_nil ?_
          refine QS_then ?_
          refine TS_ret ?_
          exact QS_ret [_] ⟨rfl, trivial⟩ [] (Pick.nil _) ⟨rfl, rfl⟩
        · rw [show r7 x = false by rw [r7, ← hu87, decide_eq_false gg, decide_eq_false g]; rfl]
          refine VS_pure (P_move rfl) rfl rfl rfl ?_
          refine VS_pure (P_move rfl) rfl rfl rfl ?_
          refine VS_pure (df (P_eql rfl rfl) (by assumption)) rfl rfl rfl ?_
          refine VS_pure (P_move rfl) rfl rfl rfl ?_
          refine VS_pure (P_fieldAddr0 fo32_8 rfl) rfl rfl rfl ?_
          refine VS_read (S_loadB sg30 rfl (.here) rfl) rfl rfl rfl ?_
          refine VS_pure (P_len il30 rfl) rfl rfl rfl ?_
          refine VS_pure (df (P_eql rfl rfl) (by assumption)) rfl rfl rfl ?_
          refine VS_pure (P_pick_f rfl rfl) rfl rfl rfl ?_
          refine VS_pure (P_pick_t rfl rfl) rfl rfl rfl ?_
          refine VS_pure (P_assign rfl) rfl rfl rfl ?_
          refine VS_nil ?_
          refine QS_then ?_
          refine TS_ret ?_
          exact QS_ret [_] ⟨rfl, trivial⟩ [] (Pick.nil _) ⟨rfl, rfl⟩
end Go.Proofs.Ytbpihgphicmdiaa
