/- A part of the proof: contracts of functions of the program. No condition. -/
import Derived.Test.YtigfdclopkagmaaDoorWdE
namespace Go.Proofs.YtigfdclopkagmaaDoor
open Go.Eng Wd Go.RowKit

def wV (w : Wrd) : List Value := [.int .i8 w.kind, .string (bs w.text), .int .i64 w.n, .int .i64 w.at_]
def wsV (ws : List Wrd) : List Value := ws.flatMap wV
theorem wsV_snoc (ws : List Wrd) (w : Wrd) : wsV (ws ++ [w]) = wsV ws ++ wV w := by simp [wsV]
theorem wsV_len (ws : List Wrd) : (wsV ws).length = ws.length * 4 := by
  induction ws with
  | nil => rfl
  | cons w r ih => simp only [wsV, List.flatMap_cons, List.length_append, List.length_cons] at ih ⊢; rw [ih]; simp [wV]; omega
theorem own_snoc (A : Option Addr) (c : Nat) (acc : List Wrd) (w : Wrd) : own 30 4 A (acc ++ [w]).length c (wsV (acc ++ [w])) = own 30 4 A (acc.length + 1) c (wsV acc ++ wV w) := by rw [wsV_snoc]; simp
theorem len_snoc (acc : List Wrd) (w : Wrd) : (acc ++ [w]).length = acc.length + 1 := by simp
def faultV (e a : Int) : Value := .agg [.int .i64 e, .int .i64 a].toArray
def CutPost : Res → Value → List Ent → Prop
  | .error (e, a), v, L' => v = .tuple [.slice none 0 0, faultV e a].toArray ∧ L' = []
  | .ok ws, v, L' => ∃ A c, v = .tuple [.slice A ws.length c, faultV 0 0].toArray ∧ L' = [own 30 4 A ws.length c (wsV ws)]
theorem stray_iff {s : List UInt8} {p : Nat} : rn s p = none ↔ (dec s p).1 = 65533 ∧ (dec s p).2 = 1 := by
  unfold dec
  cases h : rn s p with
  | none => simp
  | some r =>
    obtain ⟨x, k⟩ := r
    have := rn_pos h
    simp
    omega
theorem dec_drop (s : List UInt8) (p : Nat) : dec (s.drop p) 0 = dec s p := by unfold dec; rw [rn_drop, Nat.add_zero]
set_option maxHeartbeats 8000000 in
theorem Cut_ok {m : Mp} (hT : Tabs m) {s : List UInt8} (hs : s.length ≤ 9223372036854775807) : CS Tryd.prog 6 [.string (bs s)] m [] (CutPost (cutP s)) := by
  refine CS_of [.tmp 2, .cell 3 25] Tryd.func6 rfl rfl rfl ?_
  by_cases hlong : 65536 < s.length
  · have e : cutP s = .error (3, 0) := by rw [cutP, if_pos hlong]
    rw [e]
    refine TS_seq ?_
    refine TS_region ?_
    refine VS_pure (P_assign rfl) rfl rfl rfl ?_
    refine VS_step (S_alloc zl25 rfl (fun b1 => ?_)) rfl
    refine VS_nil ?_
    refine QS_then ?_
    refine TS_seq ?_
    refine TS_seq ?_
    refine TS_region ?_
    refine VS_pure (P_move rfl) rfl rfl rfl ?_
    refine VS_pure (P_len_str rfl st9) rfl rfl rfl ?_
    refine VS_pure (dt (P_gtr rfl rfl) (by first | assumption | rfl | omega | decide)) rfl rfl rfl ?_
    refine VS_nil ?_
    refine QS_then ?_
    refine TS_true rfl ?_
    refine TS_seq ?_
    refine TS_region ?_
    refine VS_pure (P_build zl25 pl25 rfl rfl) rfl rfl rfl ?_
    refine VS_pure (P_assign rfl) rfl rfl rfl ?_
    refine VS_step (S_storeAgg ag25 rfl rfl rfl (.here) rfl rfl ?_) rfl
    refine VS_nil ?_
    refine QS_then ?_
    refine TS_ret ?_
    refine QS_then_ret ?_
    exact QS_ret [.slice none 0 0, faultV 3 0] ⟨rfl, ⟨b1, _, _, _, rfl, .here, .inr ⟨ag25, rfl⟩⟩, trivial⟩ [] (Pick.nil _) ⟨rfl, rfl⟩
  · have e : cutP s = goI s 0 0 false [] := by rw [cutP, if_neg hlong, cut_eq]
    rw [e]
    refine TS_seq ?_
    refine TS_region ?_
    refine VS_pure (P_assign rfl) rfl rfl rfl ?_
    refine VS_step (S_alloc zl25 rfl (fun b1 => ?_)) rfl
    refine VS_nil ?_
    refine QS_then ?_
    refine TS_seq ?_
    refine TS_seq ?_
    refine TS_region ?_
    refine VS_pure (P_move rfl) rfl rfl rfl ?_
    refine VS_pure (P_len_str rfl st9) rfl rfl rfl ?_
    refine VS_pure (df (P_gtr rfl rfl) (by first | assumption | omega | decide | exact fun hx => hx (by assumption))) rfl rfl rfl ?_
    refine VS_nil ?_
    refine QS_then ?_
    refine TS_false rfl ?_
    refine TS_skip ?_
    refine QS_then ?_
    refine TS_seq ?_
    refine TS_region ?_
    refine VS_pure (P_assign rfl) rfl rfl rfl ?_
    refine VS_nil ?_
    refine QS_then ?_
    refine TS_seq ?_
    refine TS_region ?_
    refine VS_pure (P_assign rfl) rfl rfl rfl ?_
    refine VS_pure (P_assign rfl) rfl rfl rfl ?_
    refine VS_nil ?_
    refine QS_then ?_
    refine TS_seq ?_
    refine TS_seq ?_
    refine TS_region ?_
    refine VS_pure (P_move rfl) rfl rfl rfl ?_
    refine VS_step (S_range st9 rfl rfl (fun b2 => ?_)) rfl
    refine VS_nil ?_
    refine QS_then ?_
    refine TS_block ?_
    refine TS_nilOwn 30 4 ?_
    refine TS_loop (fun y : (Nat × Nat × Bool) × List Wrd × Option Addr × Nat => [(0, .string (bs s)), (3, .pointer (some ⟨b1, 0, none⟩)), (4, .slice y.2.2.1 y.2.1.length y.2.2.2), (5, .int .i64 (y.1.2.1 : Nat)), (6, .bool y.1.2.2), (21, .pointer (some ⟨b2, 0, none⟩))])
      (fun y => [own 30 4 y.2.2.1 y.2.1.length y.2.2.2 (wsV y.2.1), iter b2 s y.1.1, cel b1 [.int .i64 0, .int .i64 0] 25])
      (fun y => y.1.1 ≤ s.length ∧ y.1.2.1 ≤ s.length ∧ y.2.1.length ≤ y.1.1 ∧ goI s y.1.1 y.1.2.1 y.1.2.2 y.2.1 = goI s 0 0 false []) (fun y => s.length - y.1.1) ((0, 0, false), [], none, 0)
      ⟨rfl, rfl, rfl, rfl, rfl, rfl, trivial⟩ (Pick.refl _) ⟨Nat.zero_le _, Nat.zero_le _, Nat.zero_le _, rfl⟩ ?_
    rintro ⟨⟨p, skip, rem⟩, acc, A, c⟩ ⟨hp, hsk, hacc, he⟩
    simp only at hp hsk hacc he ⊢
    generalize goI s 0 0 false [] = FIN at *
    by_cases hlt : p < s.length
    · have hdp := dec_pos s p
      have hdl := dec_le hlt
      have hdq := decode_eq s p
      rw [goI, if_pos hlt] at he
      refine TS_seq ?_
      refine TS_region ?_
      refine VS_step (S_nextD rfl (by first | assumption | omega) (by assumption) (.there (.here)) rfl ?_) rfl
      refine VS_pure (P_extract rfl rfl) rfl rfl rfl ?_
      refine VS_nil ?_
      refine QS_then ?_
      refine TS_seq ?_
      refine TS_true rfl ?_
      refine TS_skip ?_
      refine QS_then ?_
      refine TS_block ?_
      refine TS_seq ?_
      refine TS_region ?_
      refine VS_pure (P_extract rfl rfl) rfl rfl rfl ?_
      refine VS_pure (P_extract rfl rfl) rfl rfl rfl ?_
      refine VS_pure (P_assign rfl) rfl rfl rfl ?_
      refine VS_pure (P_assign rfl) rfl rfl rfl ?_
      refine VS_nil ?_
      refine QS_then ?_
      refine TS_seq ?_
      refine TS_region ?_
      refine VS_pure (P_assign rfl) rfl rfl rfl ?_
      refine VS_nil ?_
      refine QS_then ?_
      refine TS_seq ?_
      refine TS_seq ?_
      refine TS_cut3 (fun y : Unit => [(0, .string (bs s)), (3, .pointer (some ⟨b1, 0, none⟩)), (4, .slice A acc.length c), (5, .int .i64 (skip : Nat)), (6, .bool rem), (7, .int .i64 (p : Nat)), (8, .int .i32 ((dec s p).1 : Nat)), (9, .bool (rn s p).isNone), (21, .pointer (some ⟨b2, 0, none⟩))])
        (fun y => [own 30 4 A acc.length c (wsV acc), iter b2 s (p + (dec s p).2), cel b1 [.int .i64 0, .int .i64 0] 25]) (fun _ => True) ?_ ?_
      · have hsl := stray_iff (s := s) (p := p)
        have hd0 := dec_drop s p
        generalize dec s p = r at *
        obtain ⟨x, k⟩ := r
        simp only at hdp hdl hsl ⊢
        by_cases hx : x = 65533
        · refine TS_region ?_
          refine VS_pure (P_move rfl) rfl rfl rfl ?_
          refine VS_pure (dt (P_eql rfl rfl) (by first | assumption | rfl | omega | decide)) rfl rfl rfl ?_
          refine VS_nil ?_
          refine QS_then ?_
          refine TS_true rfl ?_
          refine TS_seq ?_
          refine TS_region ?_
          refine VS_pure (P_move rfl) rfl rfl rfl ?_
          refine VS_pure (P_move rfl) rfl rfl rfl ?_
          refine VS_pure (P_sslice_l _ st9 rfl rfl rfl (by omega)) rfl rfl rfl ?_
          have F : ∀ m', Le m m' → CS Tryd.prog 14 [.string (bs (s.drop p))] m' [] (Gives (.tuple [.int .i32 (x : Nat), .int .i64 (k : Nat)].toArray)) := fun m' hm => by
            have := decodeR_ok (t := s.drop p) (hT.mono hm) (by simp; omega)
            rw [hd0] at this
            exact this
          refine VS_step (S_callR cl14 rfl (fun m' hm he => (F m' hm)) rfl ?_) rfl
          rintro _ rfl
          by_cases hk : k = 1
          · have hn : (rn s p).isNone = true := by rw [hsl.2 ⟨hx, hk⟩]; rfl
            rw [hn]
            refine VS_pure (P_move rfl) rfl rfl rfl ?_
            refine VS_pure (P_extract rfl rfl) rfl rfl rfl ?_
            refine VS_pure (P_extract rfl rfl) rfl rfl rfl ?_
            refine VS_pure (P_assign rfl) rfl rfl rfl ?_
            refine VS_pure (P_assign rfl) rfl rfl rfl ?_
            refine VS_nil ?_
            refine QS_then ?_
            refine TS_region ?_
            refine VS_pure (P_move rfl) rfl rfl rfl ?_
            refine VS_pure (dt (P_eql rfl rfl) (by first | assumption | rfl | omega | decide)) rfl rfl rfl ?_
            refine VS_pure (P_assign rfl) rfl rfl rfl ?_
            refine VS_nil ?_
            exact QS_round () ⟨rfl, rfl, rfl, rfl, rfl, rfl, rfl, rfl, rfl, trivial⟩ (Pick.refl _) trivial Nat.zero_lt_one
          · have hn : (rn s p).isNone = false := by cases hr : rn s p with | none => exact absurd (hsl.1 hr).2 hk | some _ => rfl
            rw [hn]
            refine VS_pure (P_move rfl) rfl rfl rfl ?_
            refine VS_pure (P_extract rfl rfl) rfl rfl rfl ?_
            refine VS_pure (P_extract rfl rfl) rfl rfl rfl ?_
            refine VS_pure (P_assign rfl) rfl rfl rfl ?_
            refine VS_pure (P_assign rfl) rfl rfl rfl ?_
            refine VS_nil ?_
            refine QS_then ?_
            refine TS_region ?_
            refine VS_pure (P_move rfl) rfl rfl rfl ?_
            refine VS_pure (df (P_eql rfl rfl) (by first | assumption | omega | decide | exact fun hx => hx (by assumption))) rfl rfl rfl ?_
            refine VS_pure (P_assign rfl) rfl rfl rfl ?_
            refine VS_nil ?_
            exact QS_round () ⟨rfl, rfl, rfl, rfl, rfl, rfl, rfl, rfl, rfl, trivial⟩ (Pick.refl _) trivial Nat.zero_lt_one
        · have hn : (rn s p).isNone = false := by cases hr : rn s p with | none => exact absurd (hsl.1 hr).1 hx | some _ => rfl
          rw [hn]
          refine TS_region ?_
          refine VS_pure (P_move rfl) rfl rfl rfl ?_
          refine VS_pure (df (P_eql rfl rfl) (by first | assumption | omega | decide | exact fun hx => hx (by assumption))) rfl rfl rfl ?_
          refine VS_nil ?_
          refine QS_then ?_
          refine TS_false rfl ?_
          refine TS_skip ?_
          exact QS_round () ⟨rfl, rfl, rfl, rfl, rfl, rfl, rfl, rfl, rfl, trivial⟩ (Pick.refl _) trivial Nat.zero_lt_one
      · rintro _ _
        by_cases hps : p < skip
        · rw [if_pos hps] at he
          refine TS_block ?_
          refine TS_seq ?_
          refine TS_region ?_
          refine VS_pure (P_move rfl) rfl rfl rfl ?_
          refine VS_pure (P_move rfl) rfl rfl rfl ?_
          refine VS_pure (dt (P_lss rfl rfl) (by first | assumption | rfl | omega | decide)) rfl rfl rfl ?_
          refine VS_pure (P_assign rfl) rfl rfl rfl ?_
          refine VS_nil ?_
          refine QS_then ?_
          refine TS_true rfl ?_
          refine TS_exit ?_
          refine QS_block_out rfl ?_
          refine QS_block_here ?_
          exact QS_round ((p + (dec s p).2, skip, rem), acc, A, c) ⟨rfl, rfl, rfl, rfl, rfl, rfl, trivial⟩ (Pick.refl _) ⟨hdl, hsk, by simp only; omega, he⟩ (by simp only; omega)
        · rw [if_neg hps] at he
          cases hr : rn s p with
          | none =>
            rw [hr] at he
            simp only at he
            subst he
            refine TS_block ?_
            refine TS_seq ?_
            refine TS_region ?_
            refine VS_pure (P_move rfl) rfl rfl rfl ?_
            refine VS_pure (P_move rfl) rfl rfl rfl ?_
            refine VS_pure (df (P_lss rfl rfl) (by first | assumption | omega | decide | exact fun hx => hx (by assumption))) rfl rfl rfl ?_
            refine VS_pure (P_assign rfl) rfl rfl rfl ?_
            refine VS_nil ?_
            refine QS_then ?_
            refine TS_false rfl ?_
            refine TS_seq ?_
            refine TS_region ?_
            refine VS_pure (P_move rfl) rfl rfl rfl ?_
            refine VS_pure (P_assign rfl) rfl rfl rfl ?_
            refine VS_nil ?_
            refine QS_then ?_
            refine TS_true rfl ?_
            refine TS_seq ?_
            refine TS_region ?_
            refine VS_pure (P_move rfl) rfl rfl rfl ?_
            refine VS_pure (P_build zl25 pl25 rfl rfl) rfl rfl rfl ?_
            refine VS_pure (P_assign rfl) rfl rfl rfl ?_
            refine VS_step (S_storeAgg ag25 rfl rfl rfl (.there (.there (.here))) rfl rfl ?_) rfl
            refine VS_nil ?_
            refine QS_then ?_
            refine TS_ret ?_
            refine QS_block_ret ?_
            refine QS_block_ret ?_
            refine QS_round_ret ?_
            refine QS_block_ret ?_
            refine QS_then_ret ?_
            exact QS_ret [.slice none 0 0, faultV 110 p] ⟨rfl, ⟨b1, _, _, _, rfl, .there (.there .here), .inr ⟨ag25, rfl⟩⟩, trivial⟩ [] (Pick.nil _) ⟨rfl, rfl⟩
          | some r =>
            obtain ⟨x, k⟩ := r
            have hpos := rn_pos hr
            rw [hr] at he
            rw [dec_some hr] at hdp hdl he ⊢
            simp only at he hdp hdl ⊢
            cases rem with
            | true =>
              rw [if_pos rfl] at he
              by_cases h10 : x = 10
              · rw [decide_eq_false (by omega)] at he
                refine TS_block ?_
                refine TS_seq ?_
                refine TS_region ?_
                refine VS_pure (P_move rfl) rfl rfl rfl ?_
                refine VS_pure (P_move rfl) rfl rfl rfl ?_
                refine VS_pure (df (P_lss rfl rfl) (by first | assumption | omega | decide | exact fun hx => hx (by assumption))) rfl rfl rfl ?_
                refine VS_pure (P_assign rfl) rfl rfl rfl ?_
                refine VS_nil ?_
                refine QS_then ?_
                refine TS_false rfl ?_
                refine TS_seq ?_
                refine TS_region ?_
                refine VS_pure (P_move rfl) rfl rfl rfl ?_
                refine VS_pure (P_assign rfl) rfl rfl rfl ?_
                refine VS_nil ?_
                refine QS_then ?_
                refine TS_false rfl ?_
                refine TS_seq ?_
                refine TS_region ?_
                refine VS_pure (P_move rfl) rfl rfl rfl ?_
                refine VS_pure (P_assign rfl) rfl rfl rfl ?_
                refine VS_nil ?_
                refine QS_then ?_
                refine TS_true rfl ?_
                refine TS_region ?_
                refine VS_pure (P_move rfl) rfl rfl rfl ?_
                refine VS_pure (df (P_neq rfl rfl) (by first | assumption | omega | decide | exact fun hx => hx (by assumption))) rfl rfl rfl ?_
                refine VS_pure (P_assign rfl) rfl rfl rfl ?_
                refine VS_nil ?_
                refine QS_block ?_
                refine QS_block ?_
                exact QS_round ((p + k, skip, false), acc, A, c) ⟨rfl, rfl, rfl, rfl, rfl, rfl, trivial⟩ (Pick.refl _) ⟨by simp only; omega, hsk, by simp only; omega, he⟩ (by simp only; omega)
              · rw [decide_eq_true h10] at he
                refine TS_block ?_
                refine TS_seq ?_
                refine TS_region ?_
                refine VS_pure (P_move rfl) rfl rfl rfl ?_
                refine VS_pure (P_move rfl) rfl rfl rfl ?_
                refine VS_pure (df (P_lss rfl rfl) (by first | assumption | omega | decide | exact fun hx => hx (by assumption))) rfl rfl rfl ?_
                refine VS_pure (P_assign rfl) rfl rfl rfl ?_
                refine VS_nil ?_
                refine QS_then ?_
                refine TS_false rfl ?_
                refine TS_seq ?_
                refine TS_region ?_
                refine VS_pure (P_move rfl) rfl rfl rfl ?_
                refine VS_pure (P_assign rfl) rfl rfl rfl ?_
                refine VS_nil ?_
                refine QS_then ?_
                refine TS_false rfl ?_
                refine TS_seq ?_
                refine TS_region ?_
                refine VS_pure (P_move rfl) rfl rfl rfl ?_
                refine VS_pure (P_assign rfl) rfl rfl rfl ?_
                refine VS_nil ?_
                refine QS_then ?_
                refine TS_true rfl ?_
                refine TS_region ?_
                refine VS_pure (P_move rfl) rfl rfl rfl ?_
                refine VS_pure (dt (P_neq rfl rfl) (by first | assumption | rfl | omega | decide)) rfl rfl rfl ?_
                refine VS_pure (P_assign rfl) rfl rfl rfl ?_
                refine VS_nil ?_
                refine QS_block ?_
                refine QS_block ?_
                exact QS_round ((p + k, skip, true), acc, A, c) ⟨rfl, rfl, rfl, rfl, rfl, rfl, trivial⟩ (Pick.refl _) ⟨by simp only; omega, hsk, by simp only; omega, he⟩ (by simp only; omega)
            | false =>
              rw [if_neg (by simp)] at he
              by_cases hsp : isSp x = true
              · simp only [stepI, if_pos hsp] at he
                have hx4 : x = 32 ∨ x = 10 ∨ x = 13 ∨ x = 9 := of_decide_eq_true hsp
                refine TS_block ?_
                refine TS_seq ?_
                refine TS_region ?_
                refine VS_pure (P_move rfl) rfl rfl rfl ?_
                refine VS_pure (P_move rfl) rfl rfl rfl ?_
                refine VS_pure (df (P_lss rfl rfl) (by first | assumption | omega | decide | exact fun hx => hx (by assumption))) rfl rfl rfl ?_
                refine VS_pure (P_assign rfl) rfl rfl rfl ?_
                refine VS_nil ?_
                refine QS_then ?_
                refine TS_false rfl ?_
                refine TS_seq ?_
                refine TS_region ?_
                refine VS_pure (P_move rfl) rfl rfl rfl ?_
                refine VS_pure (P_assign rfl) rfl rfl rfl ?_
                refine VS_nil ?_
                refine QS_then ?_
                refine TS_false rfl ?_
                refine TS_seq ?_
                refine TS_region ?_
                refine VS_pure (P_move rfl) rfl rfl rfl ?_
                refine VS_pure (P_assign rfl) rfl rfl rfl ?_
                refine VS_nil ?_
                refine QS_then ?_
                refine TS_false rfl ?_
                refine TS_seq ?_
                refine TS_region ?_
                refine VS_pure (P_move rfl) rfl rfl rfl ?_
                refine VS_if (P_eql rfl rfl) rfl rfl rfl (fun hc1 => ?_) (fun hc1 => ?_)
                refine VS_pure (P_move rfl) rfl rfl rfl ?_
                refine VS_skip rfl rfl rfl ?_
                refine VS_skip rfl rfl rfl ?_
                refine VS_pure (P_pick_t rfl rfl) rfl rfl rfl ?_
                refine VS_pure (P_move rfl) rfl rfl rfl ?_
                refine VS_skip rfl rfl rfl ?_
                refine VS_skip rfl rfl rfl ?_
                refine VS_pure (P_pick_t rfl rfl) rfl rfl rfl ?_
                refine VS_pure (P_move rfl) rfl rfl rfl ?_
                refine VS_skip rfl rfl rfl ?_
                refine VS_skip rfl rfl rfl ?_
                refine VS_pure (P_pick_t rfl rfl) rfl rfl rfl ?_
                refine VS_pure (P_assign rfl) rfl rfl rfl ?_
                refine VS_nil ?_
                refine QS_then ?_
                refine TS_true rfl ?_
                refine TS_skip ?_
                refine QS_block ?_
                refine QS_block ?_
                (exact QS_round ((p + k, skip, false), acc, A, c) ⟨rfl, rfl, rfl, rfl, rfl, rfl, trivial⟩ (Pick.refl _) ⟨by simp only; omega, hsk, by simp only; omega, he⟩ (by simp only; omega))
                refine VS_pure (P_move rfl) rfl rfl rfl ?_
                refine VS_pure (P_move rfl) rfl rfl rfl ?_
                refine VS_if (P_eql rfl rfl) rfl rfl rfl (fun hc2 => ?_) (fun hc2 => ?_)
                refine VS_pure (P_pick_f rfl rfl) rfl rfl rfl ?_
                refine VS_pure (P_move rfl) rfl rfl rfl ?_
                refine VS_skip rfl rfl rfl ?_
                refine VS_skip rfl rfl rfl ?_
                refine VS_pure (P_pick_t rfl rfl) rfl rfl rfl ?_
                refine VS_pure (P_move rfl) rfl rfl rfl ?_
                refine VS_skip rfl rfl rfl ?_
                refine VS_skip rfl rfl rfl ?_
                refine VS_pure (P_pick_t rfl rfl) rfl rfl rfl ?_
                refine VS_pure (P_assign rfl) rfl rfl rfl ?_
                refine VS_nil ?_
                refine QS_then ?_
                refine TS_true rfl ?_
                refine TS_skip ?_
                refine QS_block ?_
                refine QS_block ?_
                (exact QS_round ((p + k, skip, false), acc, A, c) ⟨rfl, rfl, rfl, rfl, rfl, rfl, trivial⟩ (Pick.refl _) ⟨by simp only; omega, hsk, by simp only; omega, he⟩ (by simp only; omega))
                refine VS_pure (P_pick_f rfl rfl) rfl rfl rfl ?_
                refine VS_pure (P_move rfl) rfl rfl rfl ?_
                refine VS_pure (P_move rfl) rfl rfl rfl ?_
                refine VS_if (P_eql rfl rfl) rfl rfl rfl (fun hc3 => ?_) (fun hc3 => ?_)
                refine VS_pure (P_pick_f rfl rfl) rfl rfl rfl ?_
                refine VS_pure (P_move rfl) rfl rfl rfl ?_
                refine VS_skip rfl rfl rfl ?_
                refine VS_skip rfl rfl rfl ?_
                refine VS_pure (P_pick_t rfl rfl) rfl rfl rfl ?_
                refine VS_pure (P_assign rfl) rfl rfl rfl ?_
                refine VS_nil ?_
                refine QS_then ?_
                refine TS_true rfl ?_
                refine TS_skip ?_
                refine QS_block ?_
                refine QS_block ?_
                (exact QS_round ((p + k, skip, false), acc, A, c) ⟨rfl, rfl, rfl, rfl, rfl, rfl, trivial⟩ (Pick.refl _) ⟨by simp only; omega, hsk, by simp only; omega, he⟩ (by simp only; omega))
                refine VS_pure (P_pick_f rfl rfl) rfl rfl rfl ?_
                refine VS_pure (P_move rfl) rfl rfl rfl ?_
                refine VS_pure (P_move rfl) rfl rfl rfl ?_
                refine VS_pure (dt (P_eql rfl rfl) (by first | assumption | rfl | omega | decide)) rfl rfl rfl ?_
                refine VS_pure (P_pick_f rfl rfl) rfl rfl rfl ?_
                refine VS_pure (P_assign rfl) rfl rfl rfl ?_
                refine VS_nil ?_
                refine QS_then ?_
                refine TS_true rfl ?_
                refine TS_skip ?_
                refine QS_block ?_
                refine QS_block ?_
                (exact QS_round ((p + k, skip, false), acc, A, c) ⟨rfl, rfl, rfl, rfl, rfl, rfl, trivial⟩ (Pick.refl _) ⟨by simp only; omega, hsk, by simp only; omega, he⟩ (by simp only; omega))
              · have hx4 : ¬ (x = 32 ∨ x = 10 ∨ x = 13 ∨ x = 9) := fun h => hsp (decide_eq_true h)
                by_cases h35 : x = 35
                · simp only [stepI, if_neg hsp, if_pos h35] at he
                  refine TS_block ?_
                  refine TS_seq ?_
                  refine TS_region ?_
                  refine VS_pure (P_move rfl) rfl rfl rfl ?_
                  refine VS_pure (P_move rfl) rfl rfl rfl ?_
                  refine VS_pure (df (P_lss rfl rfl) (by first | assumption | omega | decide | exact fun hx => hx (by assumption))) rfl rfl rfl ?_
                  refine VS_pure (P_assign rfl) rfl rfl rfl ?_
                  refine VS_nil ?_
                  refine QS_then ?_
                  refine TS_false rfl ?_
                  refine TS_seq ?_
                  refine TS_region ?_
                  refine VS_pure (P_move rfl) rfl rfl rfl ?_
                  refine VS_pure (P_assign rfl) rfl rfl rfl ?_
                  refine VS_nil ?_
                  refine QS_then ?_
                  refine TS_false rfl ?_
                  refine TS_seq ?_
                  refine TS_region ?_
                  refine VS_pure (P_move rfl) rfl rfl rfl ?_
                  refine VS_pure (P_assign rfl) rfl rfl rfl ?_
                  refine VS_nil ?_
                  refine QS_then ?_
                  refine TS_false rfl ?_
                  refine TS_seq ?_
                  refine TS_region ?_
                  refine VS_pure (P_move rfl) rfl rfl rfl ?_
                  refine VS_pure (df (P_eql rfl rfl) (by first | assumption | omega | decide | exact fun hx => hx (by assumption))) rfl rfl rfl ?_
                  refine VS_pure (P_move rfl) rfl rfl rfl ?_
                  refine VS_pure (P_move rfl) rfl rfl rfl ?_
                  refine VS_pure (df (P_eql rfl rfl) (by first | assumption | omega | decide | exact fun hx => hx (by assumption))) rfl rfl rfl ?_
                  refine VS_pure (P_pick_f rfl rfl) rfl rfl rfl ?_
                  refine VS_pure (P_move rfl) rfl rfl rfl ?_
                  refine VS_pure (P_move rfl) rfl rfl rfl ?_
                  refine VS_pure (df (P_eql rfl rfl) (by first | assumption | omega | decide | exact fun hx => hx (by assumption))) rfl rfl rfl ?_
                  refine VS_pure (P_pick_f rfl rfl) rfl rfl rfl ?_
                  refine VS_pure (P_move rfl) rfl rfl rfl ?_
                  refine VS_pure (P_move rfl) rfl rfl rfl ?_
                  refine VS_pure (df (P_eql rfl rfl) (by first | assumption | omega | decide | exact fun hx => hx (by assumption))) rfl rfl rfl ?_
                  refine VS_pure (P_pick_f rfl rfl) rfl rfl rfl ?_
                  refine VS_pure (P_assign rfl) rfl rfl rfl ?_
                  refine VS_nil ?_
                  refine QS_then ?_
                  refine TS_false rfl ?_
                  refine TS_seq ?_
                  refine TS_region ?_
                  refine VS_pure (P_move rfl) rfl rfl rfl ?_
                  refine VS_pure (dt (P_eql rfl rfl) (by first | assumption | rfl | omega | decide)) rfl rfl rfl ?_
                  refine VS_pure (P_assign rfl) rfl rfl rfl ?_
                  refine VS_nil ?_
                  refine QS_then ?_
                  refine TS_true rfl ?_
                  refine TS_region ?_
                  refine VS_pure (P_assign rfl) rfl rfl rfl ?_
                  refine VS_nil ?_
                  refine QS_block ?_
                  refine QS_block ?_
                  exact QS_round ((p + k, skip, true), acc, A, c) ⟨rfl, rfl, rfl, rfl, rfl, rfl, trivial⟩ (Pick.refl _) ⟨by simp only; omega, hsk, by simp only; omega, he⟩ (by simp only; omega)
                · cases hl : letterP x with
                  | true =>
                    simp only [stepI, if_neg hsp, if_neg h35, if_pos hl] at he
                    have hne := name_eq (s := s) (p := p) hp
                    have hnl := (nameGo_tiles s p 0).len hp
                    rw [← hne] at hnl
                    simp only at hnl
                    refine TS_block ?_
                    refine TS_seq ?_
                    refine TS_region ?_
                    refine VS_pure (P_move rfl) rfl rfl rfl ?_
                    refine VS_pure (P_move rfl) rfl rfl rfl ?_
                    refine VS_pure (df (P_lss rfl rfl) (by first | assumption | omega | decide | exact fun hx => hx (by assumption))) rfl rfl rfl ?_
                    refine VS_pure (P_assign rfl) rfl rfl rfl ?_
                    refine VS_nil ?_
                    refine QS_then ?_
                    refine TS_false rfl ?_
                    refine TS_seq ?_
                    refine TS_region ?_
                    refine VS_pure (P_move rfl) rfl rfl rfl ?_
                    refine VS_pure (P_assign rfl) rfl rfl rfl ?_
                    refine VS_nil ?_
                    refine QS_then ?_
                    refine TS_false rfl ?_
                    refine TS_seq ?_
                    refine TS_region ?_
                    refine VS_pure (P_move rfl) rfl rfl rfl ?_
                    refine VS_pure (P_assign rfl) rfl rfl rfl ?_
                    refine VS_nil ?_
                    refine QS_then ?_
                    refine TS_false rfl ?_
                    refine TS_seq ?_
                    refine TS_region ?_
                    refine VS_pure (P_move rfl) rfl rfl rfl ?_
                    refine VS_pure (df (P_eql rfl rfl) (by first | assumption | omega | decide | exact fun hx => hx (by assumption))) rfl rfl rfl ?_
                    refine VS_pure (P_move rfl) rfl rfl rfl ?_
                    refine VS_pure (P_move rfl) rfl rfl rfl ?_
                    refine VS_pure (df (P_eql rfl rfl) (by first | assumption | omega | decide | exact fun hx => hx (by assumption))) rfl rfl rfl ?_
                    refine VS_pure (P_pick_f rfl rfl) rfl rfl rfl ?_
                    refine VS_pure (P_move rfl) rfl rfl rfl ?_
                    refine VS_pure (P_move rfl) rfl rfl rfl ?_
                    refine VS_pure (df (P_eql rfl rfl) (by first | assumption | omega | decide | exact fun hx => hx (by assumption))) rfl rfl rfl ?_
                    refine VS_pure (P_pick_f rfl rfl) rfl rfl rfl ?_
                    refine VS_pure (P_move rfl) rfl rfl rfl ?_
                    refine VS_pure (P_move rfl) rfl rfl rfl ?_
                    refine VS_pure (df (P_eql rfl rfl) (by first | assumption | omega | decide | exact fun hx => hx (by assumption))) rfl rfl rfl ?_
                    refine VS_pure (P_pick_f rfl rfl) rfl rfl rfl ?_
                    refine VS_pure (P_assign rfl) rfl rfl rfl ?_
                    refine VS_nil ?_
                    refine QS_then ?_
                    refine TS_false rfl ?_
                    refine TS_seq ?_
                    refine TS_region ?_
                    refine VS_pure (P_move rfl) rfl rfl rfl ?_
                    refine VS_pure (df (P_eql rfl rfl) (by first | assumption | omega | decide | exact fun hx => hx (by assumption))) rfl rfl rfl ?_
                    refine VS_pure (P_assign rfl) rfl rfl rfl ?_
                    refine VS_nil ?_
                    refine QS_then ?_
                    refine TS_false rfl ?_
                    refine TS_seq ?_
                    refine TS_region ?_
                    refine VS_pure (P_move rfl) rfl rfl rfl ?_
                    refine VS_step (S_callR cl15 rfl (fun m' hm he => (letter_ok x)) rfl ?_) rfl
                    rintro _ rfl
                    rw [hl]
                    refine VS_pure (P_assign rfl) rfl rfl rfl ?_
                    refine VS_nil ?_
                    refine QS_then ?_
                    refine TS_true rfl ?_
                    refine TS_seq ?_
                    refine TS_region ?_
                    refine VS_pure (P_move rfl) rfl rfl rfl ?_
                    refine VS_pure (P_move rfl) rfl rfl rfl ?_
                    refine VS_pure (P_sslice_l _ st9 rfl rfl rfl (by omega)) rfl rfl rfl ?_
                    refine VS_step (S_callR cl16 rfl (fun m' hm he => (length_ok (t := s.drop p) (by simp; omega))) rfl ?_) rfl
                    rintro _ rfl
                    generalize lengthGo (s.drop p) 0 0 = r at *
                    obtain ⟨q, k2⟩ := r
                    simp only [stepN] at he hnl
                    by_cases hbad : 24 < k2 ∨ 40 < p + q - p
                    · rw [if_pos hbad] at he
                      simp only at he
                      subst he
                      refine VS_pure (P_move rfl) rfl rfl rfl ?_
                      refine VS_pure (P_extract rfl rfl) rfl rfl rfl ?_
                      refine VS_pure (P_extract rfl rfl) rfl rfl rfl ?_
                      refine VS_pure (P_assign rfl) rfl rfl rfl ?_
                      refine VS_pure (P_assign rfl) rfl rfl rfl ?_
                      refine VS_nil ?_
                      refine QS_then ?_
                      refine TS_seq ?_
                      refine TS_seq ?_
                      refine TS_region ?_
                      refine VS_pure (P_move rfl) rfl rfl rfl ?_
                      refine VS_if (P_gtr rfl rfl) rfl rfl rfl (fun hc1 => ?_) (fun hc1 => ?_)
                      refine VS_pure (P_move rfl) rfl rfl rfl ?_
                      refine VS_skip rfl rfl rfl ?_
                      refine VS_skip rfl rfl rfl ?_
                      refine VS_pure (P_pick_t rfl rfl) rfl rfl rfl ?_
                      refine VS_nil ?_
                      refine QS_then ?_
                      refine TS_true rfl ?_
                      refine TS_seq ?_
                      refine TS_region ?_
                      refine VS_pure (P_move rfl) rfl rfl rfl ?_
                      refine VS_pure (P_build zl25 pl25 rfl rfl) rfl rfl rfl ?_
                      refine VS_pure (P_assign rfl) rfl rfl rfl ?_
                      refine VS_step (S_storeAgg ag25 rfl rfl rfl (.there (.there (.here))) rfl rfl ?_) rfl
                      refine VS_nil ?_
                      refine QS_then ?_
                      refine TS_ret ?_
                      refine QS_then_ret ?_
                      refine QS_block_ret ?_
                      refine QS_block_ret ?_
                      refine QS_round_ret ?_
                      refine QS_block_ret ?_
                      refine QS_then_ret ?_
                      (exact QS_ret [.slice none 0 0, faultV 3 p] ⟨rfl, ⟨b1, _, _, _, rfl, .there (.there .here), .inr ⟨ag25, rfl⟩⟩, trivial⟩ [] (Pick.nil _) ⟨rfl, rfl⟩)
                      refine VS_pure (P_move rfl) rfl rfl rfl ?_
                      refine VS_pure (P_move rfl) rfl rfl rfl ?_
                      refine VS_pure (dt (P_gtr rfl rfl) (by first | assumption | rfl | omega | decide)) rfl rfl rfl ?_
                      refine VS_pure (P_pick_f rfl rfl) rfl rfl rfl ?_
                      refine VS_nil ?_
                      refine QS_then ?_
                      refine TS_true rfl ?_
                      refine TS_seq ?_
                      refine TS_region ?_
                      refine VS_pure (P_move rfl) rfl rfl rfl ?_
                      refine VS_pure (P_build zl25 pl25 rfl rfl) rfl rfl rfl ?_
                      refine VS_pure (P_assign rfl) rfl rfl rfl ?_
                      refine VS_step (S_storeAgg ag25 rfl rfl rfl (.there (.there (.here))) rfl rfl ?_) rfl
                      refine VS_nil ?_
                      refine QS_then ?_
                      refine TS_ret ?_
                      refine QS_then_ret ?_
                      refine QS_block_ret ?_
                      refine QS_block_ret ?_
                      refine QS_round_ret ?_
                      refine QS_block_ret ?_
                      refine QS_then_ret ?_
                      (exact QS_ret [.slice none 0 0, faultV 3 p] ⟨rfl, ⟨b1, _, _, _, rfl, .there (.there .here), .inr ⟨ag25, rfl⟩⟩, trivial⟩ [] (Pick.nil _) ⟨rfl, rfl⟩)
                    · rw [if_neg hbad] at he
                      simp only at he
                      refine VS_pure (P_move rfl) rfl rfl rfl ?_
                      refine VS_pure (P_extract rfl rfl) rfl rfl rfl ?_
                      refine VS_pure (P_extract rfl rfl) rfl rfl rfl ?_
                      refine VS_pure (P_assign rfl) rfl rfl rfl ?_
                      refine VS_pure (P_assign rfl) rfl rfl rfl ?_
                      refine VS_nil ?_
                      refine QS_then ?_
                      refine TS_seq ?_
                      refine TS_seq ?_
                      refine TS_region ?_
                      refine VS_pure (P_move rfl) rfl rfl rfl ?_
                      refine VS_pure (df (P_gtr rfl rfl) (by first | assumption | omega | decide | exact fun hx => hx (by assumption))) rfl rfl rfl ?_
                      refine VS_pure (P_move rfl) rfl rfl rfl ?_
                      refine VS_pure (P_move rfl) rfl rfl rfl ?_
                      refine VS_pure (df (P_gtr rfl rfl) (by first | assumption | omega | decide | exact fun hx => hx (by assumption))) rfl rfl rfl ?_
                      refine VS_pure (P_pick_f rfl rfl) rfl rfl rfl ?_
                      refine VS_nil ?_
                      refine QS_then ?_
                      refine TS_false rfl ?_
                      refine TS_skip ?_
                      refine QS_then ?_
                      refine TS_seq ?_
                      refine TS_region ?_
                      refine VS_pure (P_move rfl) rfl rfl rfl ?_
                      refine VS_pure (P_move rfl) rfl rfl rfl ?_
                      refine VS_pure (P_move rfl) rfl rfl rfl ?_
                      refine VS_pure (P_move rfl) rfl rfl rfl ?_
                      refine VS_pure (P_move rfl) rfl rfl rfl ?_
                      refine VS_pure (P_addN rfl rfl (by omega)) rfl rfl rfl ?_
                      refine VS_pure (P_sslice_lh _ _ st9 rfl rfl rfl rfl rfl (by omega) (by omega)) rfl rfl rfl ?_
                      refine VS_pure (P_move rfl) rfl rfl rfl ?_
                      refine VS_pure (P_build zl30 pl30 rfl rfl) rfl rfl rfl ?_
                      refine VS_step (S_buildSlice sl22 rfl rfl rfl rfl (fun b3 => ?_)) rfl
                      refine VS_step (S_append sl22 rfl rfl rfl rfl (.here) (fun _ _ => (.there (.here))) rfl rfl (by first | omega | (simp only [maxLen]; omega)) (by omega) rfl (fun A1 c1 => ?_)) rfl
                      refine VS_pure (P_assign rfl) rfl rfl rfl ?_
                      refine VS_nil ?_
                      refine QS_then ?_
                      refine TS_region ?_
                      refine VS_pure (P_move rfl) rfl rfl rfl ?_
                      refine VS_pure (P_move rfl) rfl rfl rfl ?_
                      refine VS_pure (P_addN rfl rfl (by omega)) rfl rfl rfl ?_
                      refine VS_pure (P_assign rfl) rfl rfl rfl ?_
                      refine VS_nil ?_
                      refine QS_block ?_
                      refine QS_block ?_
                      exact QS_round ((p + k, p + q, false), acc ++ [⟨1, seg s p (p + q), 0, p⟩], A1, c1) ⟨rfl, rfl, by simp only [len_snoc]; rfl, rfl, rfl, rfl, trivial⟩ (by simp only [own_snoc]; exact Pick.drop) ⟨by simp only; omega, by simp only; omega, by simp only [len_snoc]; omega, he⟩ (by simp only; omega)
                  | false =>
                    cases hd : digitP x with
                    | true =>
                      have hx8 := digit_lt hd
                      have hk1 : k = 1 := by omega
                      subst hk1
                      have hxb : x = by_ s p := by omega
                      simp only [stepI, if_neg hsp, if_neg h35, hl, hd, Bool.false_eq_true, if_false, if_true] at he
                      refine TS_block ?_
                      refine TS_seq ?_
                      refine TS_region ?_
                      refine VS_pure (P_move rfl) rfl rfl rfl ?_
                      refine VS_pure (P_move rfl) rfl rfl rfl ?_
                      refine VS_pure (df (P_lss rfl rfl) (by first | assumption | omega | decide | exact fun hx => hx (by assumption))) rfl rfl rfl ?_
                      refine VS_pure (P_assign rfl) rfl rfl rfl ?_
                      refine VS_nil ?_
                      refine QS_then ?_
                      refine TS_false rfl ?_
                      refine TS_seq ?_
                      refine TS_region ?_
                      refine VS_pure (P_move rfl) rfl rfl rfl ?_
                      refine VS_pure (P_assign rfl) rfl rfl rfl ?_
                      refine VS_nil ?_
                      refine QS_then ?_
                      refine TS_false rfl ?_
                      refine TS_seq ?_
                      refine TS_region ?_
                      refine VS_pure (P_move rfl) rfl rfl rfl ?_
                      refine VS_pure (P_assign rfl) rfl rfl rfl ?_
                      refine VS_nil ?_
                      refine QS_then ?_
                      refine TS_false rfl ?_
                      refine TS_seq ?_
                      refine TS_region ?_
                      refine VS_pure (P_move rfl) rfl rfl rfl ?_
                      refine VS_pure (df (P_eql rfl rfl) (by first | assumption | omega | decide | exact fun hx => hx (by assumption))) rfl rfl rfl ?_
                      refine VS_pure (P_move rfl) rfl rfl rfl ?_
                      refine VS_pure (P_move rfl) rfl rfl rfl ?_
                      refine VS_pure (df (P_eql rfl rfl) (by first | assumption | omega | decide | exact fun hx => hx (by assumption))) rfl rfl rfl ?_
                      refine VS_pure (P_pick_f rfl rfl) rfl rfl rfl ?_
                      refine VS_pure (P_move rfl) rfl rfl rfl ?_
                      refine VS_pure (P_move rfl) rfl rfl rfl ?_
                      refine VS_pure (df (P_eql rfl rfl) (by first | assumption | omega | decide | exact fun hx => hx (by assumption))) rfl rfl rfl ?_
                      refine VS_pure (P_pick_f rfl rfl) rfl rfl rfl ?_
                      refine VS_pure (P_move rfl) rfl rfl rfl ?_
                      refine VS_pure (P_move rfl) rfl rfl rfl ?_
                      refine VS_pure (df (P_eql rfl rfl) (by first | assumption | omega | decide | exact fun hx => hx (by assumption))) rfl rfl rfl ?_
                      refine VS_pure (P_pick_f rfl rfl) rfl rfl rfl ?_
                      refine VS_pure (P_assign rfl) rfl rfl rfl ?_
                      refine VS_nil ?_
                      refine QS_then ?_
                      refine TS_false rfl ?_
                      refine TS_seq ?_
                      refine TS_region ?_
                      refine VS_pure (P_move rfl) rfl rfl rfl ?_
                      refine VS_pure (df (P_eql rfl rfl) (by first | assumption | omega | decide | exact fun hx => hx (by assumption))) rfl rfl rfl ?_
                      refine VS_pure (P_assign rfl) rfl rfl rfl ?_
                      refine VS_nil ?_
                      refine QS_then ?_
                      refine TS_false rfl ?_
                      refine TS_seq ?_
                      refine TS_region ?_
                      refine VS_pure (P_move rfl) rfl rfl rfl ?_
                      refine VS_step (S_callR cl15 rfl (fun m' hm he => (letter_ok x)) rfl ?_) rfl
                      rintro _ rfl
                      rw [hl]
                      refine VS_pure (P_assign rfl) rfl rfl rfl ?_
                      refine VS_nil ?_
                      refine QS_then ?_
                      refine TS_false rfl ?_
                      refine TS_seq ?_
                      refine TS_region ?_
                      refine VS_pure (P_move rfl) rfl rfl rfl ?_
                      refine VS_step (S_callR cl17 rfl (fun m' hm he => (digit_ok x)) rfl ?_) rfl
                      rintro _ rfl
                      rw [hd]
                      refine VS_pure (P_assign rfl) rfl rfl rfl ?_
                      refine VS_nil ?_
                      refine QS_then ?_
                      refine TS_true rfl ?_
                      refine TS_seq ?_
                      refine TS_region ?_
                      refine VS_pure (P_assign rfl) rfl rfl rfl ?_
                      refine VS_nil ?_
                      refine QS_then ?_
                      refine TS_seq ?_
                      refine TS_seq ?_
                      refine TS_region ?_
                      refine VS_pure (P_move rfl) rfl rfl rfl ?_
                      refine VS_pure (P_assign rfl) rfl rfl rfl ?_
                      refine VS_nil ?_
                      refine QS_then ?_
                      refine TS_block ?_
                      refine TS_loop (fun y : Nat × Nat => [(0, .string (bs s)), (3, .pointer (some ⟨b1, 0, none⟩)), (4, .slice A acc.length c), (5, .int .i64 (y.1 : Nat)), (6, .bool false), (7, .int .i64 (p : Nat)), (8, .int .i32 (x : Nat)), (14, .int .i64 (y.2 : Nat)), (21, .pointer (some ⟨b2, 0, none⟩))])
                        (fun _ => [own 30 4 A acc.length c (wsV acc), iter b2 s (p + 1), cel b1 [.int .i64 0, .int .i64 0] 25]) (fun y => p ≤ y.1 ∧ y.1 ≤ s.length ∧ y.2 ≤ 1000 ∧ digGo s y.1 y.2 = digGo s p 0) (fun y => s.length - y.1) (p, 0)
                        ⟨rfl, rfl, rfl, rfl, rfl, rfl, rfl, rfl, rfl, trivial⟩ (Pick.refl _) ⟨Nat.le_refl _, hp, Nat.zero_le _, rfl⟩ ?_
                      rintro ⟨q, n⟩ ⟨hpq, hq, hn, hdg⟩
                      simp only at hpq hq hn hdg ⊢
                      have hbq := by_lt s q
                      have fin : ¬ (q < s.length ∧ digitP (by_ s q) = true) → digGo s p 0 = (q, n) := fun h => by rw [← hdg, digGo, if_neg h]
                      by_cases hql : q < s.length
                      · cases hdq2 : digitP (by_ s q) with
                        | true =>
                          have hb2 : 48 ≤ by_ s q ∧ by_ s q ≤ 57 := of_decide_eq_true hdq2
                          rw [digGo, if_pos ⟨hql, hdq2⟩] at hdg
                          have hmin : ((min (n * 10 + (by_ s q - 48)) 1000 : Nat) : Int) = min ((n : Int) * 10 + ((by_ s q - 48 : Nat) : Int)) 1000 := by omega
                          refine TS_seq ?_
                          refine TS_seq ?_
                          refine TS_region ?_
                          refine VS_pure (P_move rfl) rfl rfl rfl ?_
                          refine VS_pure (P_move rfl) rfl rfl rfl ?_
                          refine VS_pure (P_len_str rfl st9) rfl rfl rfl ?_
                          refine VS_pure (dt (P_lss rfl rfl) (by first | assumption | rfl | omega | decide)) rfl rfl rfl ?_
                          refine VS_pure (P_move rfl) rfl rfl rfl ?_
                          refine VS_pure (P_move rfl) rfl rfl rfl ?_
                          refine VS_pure (P_move rfl) rfl rfl rfl ?_
                          refine VS_pure (P_sindexN rfl rfl st9 (by omega)) rfl rfl rfl ?_
                          refine VS_pure (P_convN us5 ik21 rfl (w32 (by omega) (by omega))) rfl rfl rfl ?_
                          refine VS_step (S_callR cl17 rfl (fun m' hm he => (digit_ok (by_ s q))) rfl ?_) rfl
                          rintro _ rfl
                          rw [hdq2]
                          refine VS_pure (P_pick_t rfl rfl) rfl rfl rfl ?_
                          refine VS_nil ?_
                          refine QS_then ?_
                          refine TS_true rfl ?_
                          refine TS_skip ?_
                          refine QS_then ?_
                          refine TS_seq ?_
                          refine TS_block ?_
                          refine TS_region ?_
                          refine VS_pure (P_move rfl) rfl rfl rfl ?_
                          refine VS_pure (P_mul rfl rfl (w64 (by omega) (by omega))) rfl rfl rfl ?_
                          refine VS_pure (P_move rfl) rfl rfl rfl ?_
                          refine VS_pure (P_move rfl) rfl rfl rfl ?_
                          refine VS_pure (P_sindexN rfl rfl st9 (by omega)) rfl rfl rfl ?_
                          refine VS_pure ((P_sub rfl rfl (show IntKind.u8.wrap ((by_ s q : Nat) - 48) = ((by_ s q - 48 : Nat) : Int) by rw [wu8 (by omega) (by omega)]; omega))) rfl rfl rfl ?_
                          refine VS_pure (P_convN us5 ik3 rfl (w64 (by omega) (by omega))) rfl rfl rfl ?_
                          refine VS_pure (P_add rfl rfl (w64 (by omega) (by omega))) rfl rfl rfl ?_
                          refine VS_pure (P_min2N rfl rfl) rfl rfl rfl ?_
                          refine VS_pure (P_assign rfl) rfl rfl rfl ?_
                          refine VS_nil ?_
                          refine QS_block ?_
                          refine QS_then ?_
                          refine TS_region ?_
                          refine VS_pure (P_move rfl) rfl rfl rfl ?_
                          refine VS_pure (P_add rfl rfl (w64 (by omega) (by omega))) rfl rfl rfl ?_
                          refine VS_pure (P_assign rfl) rfl rfl rfl ?_
                          refine VS_nil ?_
                          exact QS_round (q + 1, min (n * 10 + (by_ s q - 48)) 1000) ⟨rfl, rfl, rfl, rfl, rfl, rfl, rfl, by rw [hmin]; rfl, rfl, trivial⟩ (Pick.refl _) ⟨by simp only; omega, by simp only; omega, by simp only; omega, hdg⟩ (by simp only; omega)
                        | false =>
                          have hf := fin (by rw [hdq2]; simp)
                          rw [hf] at he
                          simp only [stepD] at he
                          by_cases hz : by_ s p = 48 ∧ p + 1 < q
                          · rw [if_pos hz] at he
                            simp only at he
                            subst he
                            refine TS_seq ?_
                            refine TS_seq ?_
                            refine TS_region ?_
                            refine VS_pure (P_move rfl) rfl rfl rfl ?_
                            refine VS_pure (P_move rfl) rfl rfl rfl ?_
                            refine VS_pure (P_len_str rfl st9) rfl rfl rfl ?_
                            refine VS_pure (dt (P_lss rfl rfl) (by first | assumption | rfl | omega | decide)) rfl rfl rfl ?_
                            refine VS_pure (P_move rfl) rfl rfl rfl ?_
                            refine VS_pure (P_move rfl) rfl rfl rfl ?_
                            refine VS_pure (P_move rfl) rfl rfl rfl ?_
                            refine VS_pure (P_sindexN rfl rfl st9 (by omega)) rfl rfl rfl ?_
                            refine VS_pure (P_convN us5 ik21 rfl (w32 (by omega) (by omega))) rfl rfl rfl ?_
                            refine VS_step (S_callR cl17 rfl (fun m' hm he => (digit_ok (by_ s q))) rfl ?_) rfl
                            rintro _ rfl
                            rw [hdq2]
                            refine VS_pure (P_pick_t rfl rfl) rfl rfl rfl ?_
                            refine VS_nil ?_
                            refine QS_then ?_
                            refine TS_false rfl ?_
                            refine TS_exit ?_
                            refine QS_then_exit ?_
                            refine QS_round_exit ?_
                            refine QS_block_here ?_
                            refine QS_then ?_
                            refine TS_seq ?_
                            refine TS_block ?_
                            refine TS_seq ?_
                            refine TS_region ?_
                            refine VS_pure (P_move rfl) rfl rfl rfl ?_
                            refine VS_pure (dt (P_eql rfl rfl) (by first | assumption | rfl | omega | decide)) rfl rfl rfl ?_
                            refine VS_pure (P_move rfl) rfl rfl rfl ?_
                            refine VS_pure (P_move rfl) rfl rfl rfl ?_
                            refine VS_pure (P_move rfl) rfl rfl rfl ?_
                            refine VS_pure (P_add rfl rfl (w64 (by omega) (by omega))) rfl rfl rfl ?_
                            refine VS_pure (dt (P_gtr rfl rfl) (by first | assumption | rfl | omega | decide)) rfl rfl rfl ?_
                            refine VS_pure (P_pick_t rfl rfl) rfl rfl rfl ?_
                            refine VS_pure (P_assign rfl) rfl rfl rfl ?_
                            refine VS_nil ?_
                            refine QS_then ?_
                            refine TS_true rfl ?_
                            refine TS_seq ?_
                            refine TS_region ?_
                            refine VS_pure (P_move rfl) rfl rfl rfl ?_
                            refine VS_pure (P_build zl25 pl25 rfl rfl) rfl rfl rfl ?_
                            refine VS_pure (P_assign rfl) rfl rfl rfl ?_
                            refine VS_step (S_storeAgg ag25 rfl rfl rfl (.there (.there (.here))) rfl rfl ?_) rfl
                            refine VS_nil ?_
                            refine QS_then ?_
                            refine TS_ret ?_
                            refine QS_block_ret ?_
                            refine QS_then_ret ?_
                            refine QS_block_ret ?_
                            refine QS_block_ret ?_
                            refine QS_round_ret ?_
                            refine QS_block_ret ?_
                            refine QS_then_ret ?_
                            exact QS_ret [.slice none 0 0, faultV 110 p] ⟨rfl, ⟨b1, _, _, _, rfl, .there (.there .here), .inr ⟨ag25, rfl⟩⟩, trivial⟩ [] (Pick.nil _) ⟨rfl, rfl⟩
                          · rw [if_neg hz] at he
                            by_cases h9 : 999 < n
                            · rw [if_pos h9] at he
                              simp only at he
                              subst he
                              refine TS_seq ?_
                              refine TS_seq ?_
                              refine TS_region ?_
                              refine VS_pure (P_move rfl) rfl rfl rfl ?_
                              refine VS_pure (P_move rfl) rfl rfl rfl ?_
                              refine VS_pure (P_len_str rfl st9) rfl rfl rfl ?_
                              refine VS_pure (dt (P_lss rfl rfl) (by first | assumption | rfl | omega | decide)) rfl rfl rfl ?_
                              refine VS_pure (P_move rfl) rfl rfl rfl ?_
                              refine VS_pure (P_move rfl) rfl rfl rfl ?_
                              refine VS_pure (P_move rfl) rfl rfl rfl ?_
                              refine VS_pure (P_sindexN rfl rfl st9 (by omega)) rfl rfl rfl ?_
                              refine VS_pure (P_convN us5 ik21 rfl (w32 (by omega) (by omega))) rfl rfl rfl ?_
                              refine VS_step (S_callR cl17 rfl (fun m' hm he => (digit_ok (by_ s q))) rfl ?_) rfl
                              rintro _ rfl
                              rw [hdq2]
                              refine VS_pure (P_pick_t rfl rfl) rfl rfl rfl ?_
                              refine VS_nil ?_
                              refine QS_then ?_
                              refine TS_false rfl ?_
                              refine TS_exit ?_
                              refine QS_then_exit ?_
                              refine QS_round_exit ?_
                              refine QS_block_here ?_
                              refine QS_then ?_
                              refine TS_seq ?_
                              refine TS_block ?_
                              refine TS_seq ?_
                              refine TS_region ?_
                              refine VS_pure (P_move rfl) rfl rfl rfl ?_
                              refine VS_if (P_eql rfl rfl) rfl rfl rfl (fun hc1 => ?_) (fun hc1 => ?_)
                              refine VS_pure (P_move rfl) rfl rfl rfl ?_
                              refine VS_pure (P_move rfl) rfl rfl rfl ?_
                              refine VS_pure (P_move rfl) rfl rfl rfl ?_
                              refine VS_pure (P_add rfl rfl (w64 (by omega) (by omega))) rfl rfl rfl ?_
                              refine VS_pure (df (P_gtr rfl rfl) (by first | assumption | omega | decide | exact fun hx => hx (by assumption))) rfl rfl rfl ?_
                              refine VS_pure (P_pick_t rfl rfl) rfl rfl rfl ?_
                              refine VS_pure (P_assign rfl) rfl rfl rfl ?_
                              refine VS_nil ?_
                              refine QS_then ?_
                              refine TS_false rfl ?_
                              refine TS_seq ?_
                              refine TS_region ?_
                              refine VS_pure (P_move rfl) rfl rfl rfl ?_
                              refine VS_pure (dt (P_gtr rfl rfl) (by first | assumption | rfl | omega | decide)) rfl rfl rfl ?_
                              refine VS_pure (P_assign rfl) rfl rfl rfl ?_
                              refine VS_nil ?_
                              refine QS_then ?_
                              refine TS_true rfl ?_
                              refine TS_seq ?_
                              refine TS_region ?_
                              refine VS_pure (P_move rfl) rfl rfl rfl ?_
                              refine VS_pure (P_build zl25 pl25 rfl rfl) rfl rfl rfl ?_
                              refine VS_pure (P_assign rfl) rfl rfl rfl ?_
                              refine VS_step (S_storeAgg ag25 rfl rfl rfl (.there (.there (.here))) rfl rfl ?_) rfl
                              refine VS_nil ?_
                              refine QS_then ?_
                              refine TS_ret ?_
                              refine QS_block_ret ?_
                              refine QS_then_ret ?_
                              refine QS_block_ret ?_
                              refine QS_block_ret ?_
                              refine QS_round_ret ?_
                              refine QS_block_ret ?_
                              refine QS_then_ret ?_
                              (exact QS_ret [.slice none 0 0, faultV 3 p] ⟨rfl, ⟨b1, _, _, _, rfl, .there (.there .here), .inr ⟨ag25, rfl⟩⟩, trivial⟩ [] (Pick.nil _) ⟨rfl, rfl⟩)
                              refine VS_pure (P_move rfl) rfl rfl rfl ?_
                              refine VS_skip rfl rfl rfl ?_
                              refine VS_skip rfl rfl rfl ?_
                              refine VS_skip rfl rfl rfl ?_
                              refine VS_skip rfl rfl rfl ?_
                              refine VS_pure (P_pick_f rfl rfl) rfl rfl rfl ?_
                              refine VS_pure (P_assign rfl) rfl rfl rfl ?_
                              refine VS_nil ?_
                              refine QS_then ?_
                              refine TS_false rfl ?_
                              refine TS_seq ?_
                              refine TS_region ?_
                              refine VS_pure (P_move rfl) rfl rfl rfl ?_
                              refine VS_pure (dt (P_gtr rfl rfl) (by first | assumption | rfl | omega | decide)) rfl rfl rfl ?_
                              refine VS_pure (P_assign rfl) rfl rfl rfl ?_
                              refine VS_nil ?_
                              refine QS_then ?_
                              refine TS_true rfl ?_
                              refine TS_seq ?_
                              refine TS_region ?_
                              refine VS_pure (P_move rfl) rfl rfl rfl ?_
                              refine VS_pure (P_build zl25 pl25 rfl rfl) rfl rfl rfl ?_
                              refine VS_pure (P_assign rfl) rfl rfl rfl ?_
                              refine VS_step (S_storeAgg ag25 rfl rfl rfl (.there (.there (.here))) rfl rfl ?_) rfl
                              refine VS_nil ?_
                              refine QS_then ?_
                              refine TS_ret ?_
                              refine QS_block_ret ?_
                              refine QS_then_ret ?_
                              refine QS_block_ret ?_
                              refine QS_block_ret ?_
                              refine QS_round_ret ?_
                              refine QS_block_ret ?_
                              refine QS_then_ret ?_
                              (exact QS_ret [.slice none 0 0, faultV 3 p] ⟨rfl, ⟨b1, _, _, _, rfl, .there (.there .here), .inr ⟨ag25, rfl⟩⟩, trivial⟩ [] (Pick.nil _) ⟨rfl, rfl⟩)
                            · rw [if_neg h9] at he
                              simp only at he
                              refine TS_seq ?_
                              refine TS_seq ?_
                              refine TS_region ?_
                              refine VS_pure (P_move rfl) rfl rfl rfl ?_
                              refine VS_pure (P_move rfl) rfl rfl rfl ?_
                              refine VS_pure (P_len_str rfl st9) rfl rfl rfl ?_
                              refine VS_pure (dt (P_lss rfl rfl) (by first | assumption | rfl | omega | decide)) rfl rfl rfl ?_
                              refine VS_pure (P_move rfl) rfl rfl rfl ?_
                              refine VS_pure (P_move rfl) rfl rfl rfl ?_
                              refine VS_pure (P_move rfl) rfl rfl rfl ?_
                              refine VS_pure (P_sindexN rfl rfl st9 (by omega)) rfl rfl rfl ?_
                              refine VS_pure (P_convN us5 ik21 rfl (w32 (by omega) (by omega))) rfl rfl rfl ?_
                              refine VS_step (S_callR cl17 rfl (fun m' hm he => (digit_ok (by_ s q))) rfl ?_) rfl
                              rintro _ rfl
                              rw [hdq2]
                              refine VS_pure (P_pick_t rfl rfl) rfl rfl rfl ?_
                              refine VS_nil ?_
                              refine QS_then ?_
                              refine TS_false rfl ?_
                              refine TS_exit ?_
                              refine QS_then_exit ?_
                              refine QS_round_exit ?_
                              refine QS_block_here ?_
                              refine QS_then ?_
                              refine TS_seq ?_
                              refine TS_block ?_
                              refine TS_seq ?_
                              refine TS_region ?_
                              refine VS_pure (P_move rfl) rfl rfl rfl ?_
                              refine VS_if (P_eql rfl rfl) rfl rfl rfl (fun hc1 => ?_) (fun hc1 => ?_)
                              refine VS_pure (P_move rfl) rfl rfl rfl ?_
                              refine VS_pure (P_move rfl) rfl rfl rfl ?_
                              refine VS_pure (P_move rfl) rfl rfl rfl ?_
                              refine VS_pure (P_add rfl rfl (w64 (by omega) (by omega))) rfl rfl rfl ?_
                              refine VS_pure (df (P_gtr rfl rfl) (by first | assumption | omega | decide | exact fun hx => hx (by assumption))) rfl rfl rfl ?_
                              refine VS_pure (P_pick_t rfl rfl) rfl rfl rfl ?_
                              refine VS_pure (P_assign rfl) rfl rfl rfl ?_
                              refine VS_nil ?_
                              refine QS_then ?_
                              refine TS_false rfl ?_
                              refine TS_seq ?_
                              refine TS_region ?_
                              refine VS_pure (P_move rfl) rfl rfl rfl ?_
                              refine VS_pure (df (P_gtr rfl rfl) (by first | assumption | omega | decide | exact fun hx => hx (by assumption))) rfl rfl rfl ?_
                              refine VS_pure (P_assign rfl) rfl rfl rfl ?_
                              refine VS_nil ?_
                              refine QS_then ?_
                              refine TS_false rfl ?_
                              refine TS_skip ?_
                              refine QS_block ?_
                              refine QS_then ?_
                              refine TS_region ?_
                              refine VS_pure (P_move rfl) rfl rfl rfl ?_
                              refine VS_pure (P_move rfl) rfl rfl rfl ?_
                              refine VS_pure (P_move rfl) rfl rfl rfl ?_
                              refine VS_pure (P_build zl30 pl30 rfl rfl) rfl rfl rfl ?_
                              refine VS_step (S_buildSlice sl22 rfl rfl rfl rfl (fun b3 => ?_)) rfl
                              refine VS_step (S_append sl22 rfl rfl rfl rfl (.here) (fun _ _ => (.there (.here))) rfl rfl (by first | omega | (simp only [maxLen]; omega)) (by omega) rfl (fun A1 c1 => ?_)) rfl
                              refine VS_pure (P_assign rfl) rfl rfl rfl ?_
                              refine VS_nil ?_
                              refine QS_block ?_
                              refine QS_block ?_
                              (exact QS_round ((p + 1, q, false), acc ++ [⟨2, [], n, p⟩], A1, c1) ⟨rfl, rfl, by simp only [len_snoc]; rfl, rfl, rfl, rfl, trivial⟩ (by simp only [own_snoc]; exact Pick.drop) ⟨by simp only; omega, by simp only; omega, by simp only [len_snoc]; omega, he⟩ (by simp only; omega))
                              refine VS_pure (P_move rfl) rfl rfl rfl ?_
                              refine VS_skip rfl rfl rfl ?_
                              refine VS_skip rfl rfl rfl ?_
                              refine VS_skip rfl rfl rfl ?_
                              refine VS_skip rfl rfl rfl ?_
                              refine VS_pure (P_pick_f rfl rfl) rfl rfl rfl ?_
                              refine VS_pure (P_assign rfl) rfl rfl rfl ?_
                              refine VS_nil ?_
                              refine QS_then ?_
                              refine TS_false rfl ?_
                              refine TS_seq ?_
                              refine TS_region ?_
                              refine VS_pure (P_move rfl) rfl rfl rfl ?_
                              refine VS_pure (df (P_gtr rfl rfl) (by first | assumption | omega | decide | exact fun hx => hx (by assumption))) rfl rfl rfl ?_
                              refine VS_pure (P_assign rfl) rfl rfl rfl ?_
                              refine VS_nil ?_
                              refine QS_then ?_
                              refine TS_false rfl ?_
                              refine TS_skip ?_
                              refine QS_block ?_
                              refine QS_then ?_
                              refine TS_region ?_
                              refine VS_pure (P_move rfl) rfl rfl rfl ?_
                              refine VS_pure (P_move rfl) rfl rfl rfl ?_
                              refine VS_pure (P_move rfl) rfl rfl rfl ?_
                              refine VS_pure (P_build zl30 pl30 rfl rfl) rfl rfl rfl ?_
                              refine VS_step (S_buildSlice sl22 rfl rfl rfl rfl (fun b3 => ?_)) rfl
                              refine VS_step (S_append sl22 rfl rfl rfl rfl (.here) (fun _ _ => (.there (.here))) rfl rfl (by first | omega | (simp only [maxLen]; omega)) (by omega) rfl (fun A1 c1 => ?_)) rfl
                              refine VS_pure (P_assign rfl) rfl rfl rfl ?_
                              refine VS_nil ?_
                              refine QS_block ?_
                              refine QS_block ?_
                              (exact QS_round ((p + 1, q, false), acc ++ [⟨2, [], n, p⟩], A1, c1) ⟨rfl, rfl, by simp only [len_snoc]; rfl, rfl, rfl, rfl, trivial⟩ (by simp only [own_snoc]; exact Pick.drop) ⟨by simp only; omega, by simp only; omega, by simp only [len_snoc]; omega, he⟩ (by simp only; omega))
                      · have hf := fin (by omega)
                        rw [hf] at he
                        simp only [stepD] at he
                        by_cases hz : by_ s p = 48 ∧ p + 1 < q
                        · rw [if_pos hz] at he
                          simp only at he
                          subst he
                          refine TS_seq ?_
                          refine TS_seq ?_
                          refine TS_region ?_
                          refine VS_pure (P_move rfl) rfl rfl rfl ?_
                          refine VS_pure (P_move rfl) rfl rfl rfl ?_
                          refine VS_pure (P_len_str rfl st9) rfl rfl rfl ?_
                          refine VS_pure (df (P_lss rfl rfl) (by first | assumption | omega | decide | exact fun hx => hx (by assumption))) rfl rfl rfl ?_
                          refine VS_pure (P_move rfl) rfl rfl rfl ?_
                          refine VS_skip rfl rfl rfl ?_
                          refine VS_skip rfl rfl rfl ?_
                          refine VS_skip rfl rfl rfl ?_
                          refine VS_skip rfl rfl rfl ?_
                          refine VS_skip rfl rfl rfl ?_
                          refine VS_pure (P_pick_f rfl rfl) rfl rfl rfl ?_
                          refine VS_nil ?_
                          refine QS_then ?_
                          refine TS_false rfl ?_
                          refine TS_exit ?_
                          refine QS_then_exit ?_
                          refine QS_round_exit ?_
                          refine QS_block_here ?_
                          refine QS_then ?_
                          refine TS_seq ?_
                          refine TS_block ?_
                          refine TS_seq ?_
                          refine TS_region ?_
                          refine VS_pure (P_move rfl) rfl rfl rfl ?_
                          refine VS_pure (dt (P_eql rfl rfl) (by first | assumption | rfl | omega | decide)) rfl rfl rfl ?_
                          refine VS_pure (P_move rfl) rfl rfl rfl ?_
                          refine VS_pure (P_move rfl) rfl rfl rfl ?_
                          refine VS_pure (P_move rfl) rfl rfl rfl ?_
                          refine VS_pure (P_add rfl rfl (w64 (by omega) (by omega))) rfl rfl rfl ?_
                          refine VS_pure (dt (P_gtr rfl rfl) (by first | assumption | rfl | omega | decide)) rfl rfl rfl ?_
                          refine VS_pure (P_pick_t rfl rfl) rfl rfl rfl ?_
                          refine VS_pure (P_assign rfl) rfl rfl rfl ?_
                          refine VS_nil ?_
                          refine QS_then ?_
                          refine TS_true rfl ?_
                          refine TS_seq ?_
                          refine TS_region ?_
                          refine VS_pure (P_move rfl) rfl rfl rfl ?_
                          refine VS_pure (P_build zl25 pl25 rfl rfl) rfl rfl rfl ?_
                          refine VS_pure (P_assign rfl) rfl rfl rfl ?_
                          refine VS_step (S_storeAgg ag25 rfl rfl rfl (.there (.there (.here))) rfl rfl ?_) rfl
                          refine VS_nil ?_
                          refine QS_then ?_
                          refine TS_ret ?_
                          refine QS_block_ret ?_
                          refine QS_then_ret ?_
                          refine QS_block_ret ?_
                          refine QS_block_ret ?_
                          refine QS_round_ret ?_
                          refine QS_block_ret ?_
                          refine QS_then_ret ?_
                          exact QS_ret [.slice none 0 0, faultV 110 p] ⟨rfl, ⟨b1, _, _, _, rfl, .there (.there .here), .inr ⟨ag25, rfl⟩⟩, trivial⟩ [] (Pick.nil _) ⟨rfl, rfl⟩
                        · rw [if_neg hz] at he
                          by_cases h9 : 999 < n
                          · rw [if_pos h9] at he
                            simp only at he
                            subst he
                            refine TS_seq ?_
                            refine TS_seq ?_
                            refine TS_region ?_
                            refine VS_pure (P_move rfl) rfl rfl rfl ?_
                            refine VS_pure (P_move rfl) rfl rfl rfl ?_
                            refine VS_pure (P_len_str rfl st9) rfl rfl rfl ?_
                            refine VS_pure (df (P_lss rfl rfl) (by first | assumption | omega | decide | exact fun hx => hx (by assumption))) rfl rfl rfl ?_
                            refine VS_pure (P_move rfl) rfl rfl rfl ?_
                            refine VS_skip rfl rfl rfl ?_
                            refine VS_skip rfl rfl rfl ?_
                            refine VS_skip rfl rfl rfl ?_
                            refine VS_skip rfl rfl rfl ?_
                            refine VS_skip rfl rfl rfl ?_
                            refine VS_pure (P_pick_f rfl rfl) rfl rfl rfl ?_
                            refine VS_nil ?_
                            refine QS_then ?_
                            refine TS_false rfl ?_
                            refine TS_exit ?_
                            refine QS_then_exit ?_
                            refine QS_round_exit ?_
                            refine QS_block_here ?_
                            refine QS_then ?_
                            refine TS_seq ?_
                            refine TS_block ?_
                            refine TS_seq ?_
                            refine TS_region ?_
                            refine VS_pure (P_move rfl) rfl rfl rfl ?_
                            refine VS_if (P_eql rfl rfl) rfl rfl rfl (fun hc1 => ?_) (fun hc1 => ?_)
                            refine VS_pure (P_move rfl) rfl rfl rfl ?_
                            refine VS_pure (P_move rfl) rfl rfl rfl ?_
                            refine VS_pure (P_move rfl) rfl rfl rfl ?_
                            refine VS_pure (P_add rfl rfl (w64 (by omega) (by omega))) rfl rfl rfl ?_
                            refine VS_pure (df (P_gtr rfl rfl) (by first | assumption | omega | decide | exact fun hx => hx (by assumption))) rfl rfl rfl ?_
                            refine VS_pure (P_pick_t rfl rfl) rfl rfl rfl ?_
                            refine VS_pure (P_assign rfl) rfl rfl rfl ?_
                            refine VS_nil ?_
                            refine QS_then ?_
                            refine TS_false rfl ?_
                            refine TS_seq ?_
                            refine TS_region ?_
                            refine VS_pure (P_move rfl) rfl rfl rfl ?_
                            refine VS_pure (dt (P_gtr rfl rfl) (by first | assumption | rfl | omega | decide)) rfl rfl rfl ?_
                            refine VS_pure (P_assign rfl) rfl rfl rfl ?_
                            refine VS_nil ?_
                            refine QS_then ?_
                            refine TS_true rfl ?_
                            refine TS_seq ?_
                            refine TS_region ?_
                            refine VS_pure (P_move rfl) rfl rfl rfl ?_
                            refine VS_pure (P_build zl25 pl25 rfl rfl) rfl rfl rfl ?_
                            refine VS_pure (P_assign rfl) rfl rfl rfl ?_
                            refine VS_step (S_storeAgg ag25 rfl rfl rfl (.there (.there (.here))) rfl rfl ?_) rfl
                            refine VS_nil ?_
                            refine QS_then ?_
                            refine TS_ret ?_
                            refine QS_block_ret ?_
                            refine QS_then_ret ?_
                            refine QS_block_ret ?_
                            refine QS_block_ret ?_
                            refine QS_round_ret ?_
                            refine QS_block_ret ?_
                            refine QS_then_ret ?_
                            (exact QS_ret [.slice none 0 0, faultV 3 p] ⟨rfl, ⟨b1, _, _, _, rfl, .there (.there .here), .inr ⟨ag25, rfl⟩⟩, trivial⟩ [] (Pick.nil _) ⟨rfl, rfl⟩)
                            refine VS_pure (P_move rfl) rfl rfl rfl ?_
                            refine VS_skip rfl rfl rfl ?_
                            refine VS_skip rfl rfl rfl ?_
                            refine VS_skip rfl rfl rfl ?_
                            refine VS_skip rfl rfl rfl ?_
                            refine VS_pure (P_pick_f rfl rfl) rfl rfl rfl ?_
                            refine VS_pure (P_assign rfl) rfl rfl rfl ?_
                            refine VS_nil ?_
                            refine QS_then ?_
                            refine TS_false rfl ?_
                            refine TS_seq ?_
                            refine TS_region ?_
                            refine VS_pure (P_move rfl) rfl rfl rfl ?_
                            refine VS_pure (dt (P_gtr rfl rfl) (by first | assumption | rfl | omega | decide)) rfl rfl rfl ?_
                            refine VS_pure (P_assign rfl) rfl rfl rfl ?_
                            refine VS_nil ?_
                            refine QS_then ?_
                            refine TS_true rfl ?_
                            refine TS_seq ?_
                            refine TS_region ?_
                            refine VS_pure (P_move rfl) rfl rfl rfl ?_
                            refine VS_pure (P_build zl25 pl25 rfl rfl) rfl rfl rfl ?_
                            refine VS_pure (P_assign rfl) rfl rfl rfl ?_
                            refine VS_step (S_storeAgg ag25 rfl rfl rfl (.there (.there (.here))) rfl rfl ?_) rfl
                            refine VS_nil ?_
                            refine QS_then ?_
                            refine TS_ret ?_
                            refine QS_block_ret ?_
                            refine QS_then_ret ?_
                            refine QS_block_ret ?_
                            refine QS_block_ret ?_
                            refine QS_round_ret ?_
                            refine QS_block_ret ?_
                            refine QS_then_ret ?_
                            (exact QS_ret [.slice none 0 0, faultV 3 p] ⟨rfl, ⟨b1, _, _, _, rfl, .there (.there .here), .inr ⟨ag25, rfl⟩⟩, trivial⟩ [] (Pick.nil _) ⟨rfl, rfl⟩)
                          · rw [if_neg h9] at he
                            simp only at he
                            refine TS_seq ?_
                            refine TS_seq ?_
                            refine TS_region ?_
                            refine VS_pure (P_move rfl) rfl rfl rfl ?_
                            refine VS_pure (P_move rfl) rfl rfl rfl ?_
                            refine VS_pure (P_len_str rfl st9) rfl rfl rfl ?_
                            refine VS_pure (df (P_lss rfl rfl) (by first | assumption | omega | decide | exact fun hx => hx (by assumption))) rfl rfl rfl ?_
                            refine VS_pure (P_move rfl) rfl rfl rfl ?_
                            refine VS_skip rfl rfl rfl ?_
                            refine VS_skip rfl rfl rfl ?_
                            refine VS_skip rfl rfl rfl ?_
                            refine VS_skip rfl rfl rfl ?_
                            refine VS_skip rfl rfl rfl ?_
                            refine VS_pure (P_pick_f rfl rfl) rfl rfl rfl ?_
                            refine VS_nil ?_
                            refine QS_then ?_
                            refine TS_false rfl ?_
                            refine TS_exit ?_
                            refine QS_then_exit ?_
                            refine QS_round_exit ?_
                            refine QS_block_here ?_
                            refine QS_then ?_
                            refine TS_seq ?_
                            refine TS_block ?_
                            refine TS_seq ?_
                            refine TS_region ?_
                            refine VS_pure (P_move rfl) rfl rfl rfl ?_
                            refine VS_if (P_eql rfl rfl) rfl rfl rfl (fun hc1 => ?_) (fun hc1 => ?_)
                            refine VS_pure (P_move rfl) rfl rfl rfl ?_
                            refine VS_pure (P_move rfl) rfl rfl rfl ?_
                            refine VS_pure (P_move rfl) rfl rfl rfl ?_
                            refine VS_pure (P_add rfl rfl (w64 (by omega) (by omega))) rfl rfl rfl ?_
                            refine VS_pure (df (P_gtr rfl rfl) (by first | assumption | omega | decide | exact fun hx => hx (by assumption))) rfl rfl rfl ?_
                            refine VS_pure (P_pick_t rfl rfl) rfl rfl rfl ?_
                            refine VS_pure (P_assign rfl) rfl rfl rfl ?_
                            refine VS_nil ?_
                            refine QS_then ?_
                            refine TS_false rfl ?_
                            refine TS_seq ?_
                            refine TS_region ?_
                            refine VS_pure (P_move rfl) rfl rfl rfl ?_
                            refine VS_pure (df (P_gtr rfl rfl) (by first | assumption | omega | decide | exact fun hx => hx (by assumption))) rfl rfl rfl ?_
                            refine VS_pure (P_assign rfl) rfl rfl rfl ?_
                            refine VS_nil ?_
                            refine QS_then ?_
                            refine TS_false rfl ?_
                            refine TS_skip ?_
                            refine QS_block ?_
                            refine QS_then ?_
                            refine TS_region ?_
                            refine VS_pure (P_move rfl) rfl rfl rfl ?_
                            refine VS_pure (P_move rfl) rfl rfl rfl ?_
                            refine VS_pure (P_move rfl) rfl rfl rfl ?_
                            refine VS_pure (P_build zl30 pl30 rfl rfl) rfl rfl rfl ?_
                            refine VS_step (S_buildSlice sl22 rfl rfl rfl rfl (fun b3 => ?_)) rfl
                            refine VS_step (S_append sl22 rfl rfl rfl rfl (.here) (fun _ _ => (.there (.here))) rfl rfl (by first | omega | (simp only [maxLen]; omega)) (by omega) rfl (fun A1 c1 => ?_)) rfl
                            refine VS_pure (P_assign rfl) rfl rfl rfl ?_
                            refine VS_nil ?_
                            refine QS_block ?_
                            refine QS_block ?_
                            (exact QS_round ((p + 1, q, false), acc ++ [⟨2, [], n, p⟩], A1, c1) ⟨rfl, rfl, by simp only [len_snoc]; rfl, rfl, rfl, rfl, trivial⟩ (by simp only [own_snoc]; exact Pick.drop) ⟨by simp only; omega, by simp only; omega, by simp only [len_snoc]; omega, he⟩ (by simp only; omega))
                            refine VS_pure (P_move rfl) rfl rfl rfl ?_
                            refine VS_skip rfl rfl rfl ?_
                            refine VS_skip rfl rfl rfl ?_
                            refine VS_skip rfl rfl rfl ?_
                            refine VS_skip rfl rfl rfl ?_
                            refine VS_pure (P_pick_f rfl rfl) rfl rfl rfl ?_
                            refine VS_pure (P_assign rfl) rfl rfl rfl ?_
                            refine VS_nil ?_
                            refine QS_then ?_
                            refine TS_false rfl ?_
                            refine TS_seq ?_
                            refine TS_region ?_
                            refine VS_pure (P_move rfl) rfl rfl rfl ?_
                            refine VS_pure (df (P_gtr rfl rfl) (by first | assumption | omega | decide | exact fun hx => hx (by assumption))) rfl rfl rfl ?_
                            refine VS_pure (P_assign rfl) rfl rfl rfl ?_
                            refine VS_nil ?_
                            refine QS_then ?_
                            refine TS_false rfl ?_
                            refine TS_skip ?_
                            refine QS_block ?_
                            refine QS_then ?_
                            refine TS_region ?_
                            refine VS_pure (P_move rfl) rfl rfl rfl ?_
                            refine VS_pure (P_move rfl) rfl rfl rfl ?_
                            refine VS_pure (P_move rfl) rfl rfl rfl ?_
                            refine VS_pure (P_build zl30 pl30 rfl rfl) rfl rfl rfl ?_
                            refine VS_step (S_buildSlice sl22 rfl rfl rfl rfl (fun b3 => ?_)) rfl
                            refine VS_step (S_append sl22 rfl rfl rfl rfl (.here) (fun _ _ => (.there (.here))) rfl rfl (by first | omega | (simp only [maxLen]; omega)) (by omega) rfl (fun A1 c1 => ?_)) rfl
                            refine VS_pure (P_assign rfl) rfl rfl rfl ?_
                            refine VS_nil ?_
                            refine QS_block ?_
                            refine QS_block ?_
                            (exact QS_round ((p + 1, q, false), acc ++ [⟨2, [], n, p⟩], A1, c1) ⟨rfl, rfl, by simp only [len_snoc]; rfl, rfl, rfl, rfl, trivial⟩ (by simp only [own_snoc]; exact Pick.drop) ⟨by simp only; omega, by simp only; omega, by simp only [len_snoc]; omega, he⟩ (by simp only; omega))
                    | false =>
                      simp only [stepI, if_neg hsp, if_neg h35, hl, hd, Bool.false_eq_true, if_false] at he
                      refine TS_block ?_
                      refine TS_seq ?_
                      refine TS_region ?_
                      refine VS_pure (P_move rfl) rfl rfl rfl ?_
                      refine VS_pure (P_move rfl) rfl rfl rfl ?_
                      refine VS_pure (df (P_lss rfl rfl) (by first | assumption | omega | decide | exact fun hx => hx (by assumption))) rfl rfl rfl ?_
                      refine VS_pure (P_assign rfl) rfl rfl rfl ?_
                      refine VS_nil ?_
                      refine QS_then ?_
                      refine TS_false rfl ?_
                      refine TS_seq ?_
                      refine TS_region ?_
                      refine VS_pure (P_move rfl) rfl rfl rfl ?_
                      refine VS_pure (P_assign rfl) rfl rfl rfl ?_
                      refine VS_nil ?_
                      refine QS_then ?_
                      refine TS_false rfl ?_
                      refine TS_seq ?_
                      refine TS_region ?_
                      refine VS_pure (P_move rfl) rfl rfl rfl ?_
                      refine VS_pure (P_assign rfl) rfl rfl rfl ?_
                      refine VS_nil ?_
                      refine QS_then ?_
                      refine TS_false rfl ?_
                      refine TS_seq ?_
                      refine TS_region ?_
                      refine VS_pure (P_move rfl) rfl rfl rfl ?_
                      refine VS_pure (df (P_eql rfl rfl) (by first | assumption | omega | decide | exact fun hx => hx (by assumption))) rfl rfl rfl ?_
                      refine VS_pure (P_move rfl) rfl rfl rfl ?_
                      refine VS_pure (P_move rfl) rfl rfl rfl ?_
                      refine VS_pure (df (P_eql rfl rfl) (by first | assumption | omega | decide | exact fun hx => hx (by assumption))) rfl rfl rfl ?_
                      refine VS_pure (P_pick_f rfl rfl) rfl rfl rfl ?_
                      refine VS_pure (P_move rfl) rfl rfl rfl ?_
                      refine VS_pure (P_move rfl) rfl rfl rfl ?_
                      refine VS_pure (df (P_eql rfl rfl) (by first | assumption | omega | decide | exact fun hx => hx (by assumption))) rfl rfl rfl ?_
                      refine VS_pure (P_pick_f rfl rfl) rfl rfl rfl ?_
                      refine VS_pure (P_move rfl) rfl rfl rfl ?_
                      refine VS_pure (P_move rfl) rfl rfl rfl ?_
                      refine VS_pure (df (P_eql rfl rfl) (by first | assumption | omega | decide | exact fun hx => hx (by assumption))) rfl rfl rfl ?_
                      refine VS_pure (P_pick_f rfl rfl) rfl rfl rfl ?_
                      refine VS_pure (P_assign rfl) rfl rfl rfl ?_
                      refine VS_nil ?_
                      refine QS_then ?_
                      refine TS_false rfl ?_
                      refine TS_seq ?_
                      refine TS_region ?_
                      refine VS_pure (P_move rfl) rfl rfl rfl ?_
                      refine VS_pure (df (P_eql rfl rfl) (by first | assumption | omega | decide | exact fun hx => hx (by assumption))) rfl rfl rfl ?_
                      refine VS_pure (P_assign rfl) rfl rfl rfl ?_
                      refine VS_nil ?_
                      refine QS_then ?_
                      refine TS_false rfl ?_
                      refine TS_seq ?_
                      refine TS_region ?_
                      refine VS_pure (P_move rfl) rfl rfl rfl ?_
                      refine VS_step (S_callR cl15 rfl (fun m' hm he => (letter_ok x)) rfl ?_) rfl
                      rintro _ rfl
                      rw [hl]
                      refine VS_pure (P_assign rfl) rfl rfl rfl ?_
                      refine VS_nil ?_
                      refine QS_then ?_
                      refine TS_false rfl ?_
                      refine TS_seq ?_
                      refine TS_region ?_
                      refine VS_pure (P_move rfl) rfl rfl rfl ?_
                      refine VS_step (S_callR cl17 rfl (fun m' hm he => (digit_ok x)) rfl ?_) rfl
                      rintro _ rfl
                      rw [hd]
                      refine VS_pure (P_assign rfl) rfl rfl rfl ?_
                      refine VS_nil ?_
                      refine QS_then ?_
                      refine TS_false rfl ?_
                      refine TS_seq ?_
                      refine TS_region ?_
                      refine VS_pure (P_move rfl) rfl rfl rfl ?_
                      refine VS_pure (P_move rfl) rfl rfl rfl ?_
                      refine VS_pure (P_sslice_l _ st9 rfl rfl rfl (by omega)) rfl rfl rfl ?_
                      refine VS_step (S_callR cl18 rfl (fun m' hm he => (mark_ok (t := s.drop p))) rfl ?_) rfl
                      rintro _ rfl
                      unfold stepM at he
                      cases hmk : markP (s.drop p) with
                      | none =>
                        rw [hmk] at he
                        simp only at he
                        subst he
                        simp only [Option.getD_none]
                        refine VS_pure (P_assign rfl) rfl rfl rfl ?_
                        refine VS_nil ?_
                        refine QS_then ?_
                        refine TS_seq ?_
                        refine TS_seq ?_
                        refine TS_region ?_
                        refine VS_pure (P_move rfl) rfl rfl rfl ?_
                        refine VS_pure (dt (P_seql rfl rfl) (by first | assumption | rfl | omega | decide)) rfl rfl rfl ?_
                        refine VS_nil ?_
                        refine QS_then ?_
                        refine TS_true rfl ?_
                        refine TS_seq ?_
                        refine TS_region ?_
                        refine VS_pure (P_move rfl) rfl rfl rfl ?_
                        refine VS_pure (P_build zl25 pl25 rfl rfl) rfl rfl rfl ?_
                        refine VS_pure (P_assign rfl) rfl rfl rfl ?_
                        refine VS_step (S_storeAgg ag25 rfl rfl rfl (.there (.there (.here))) rfl rfl ?_) rfl
                        refine VS_nil ?_
                        refine QS_then ?_
                        refine TS_ret ?_
                        refine QS_then_ret ?_
                        refine QS_block_ret ?_
                        refine QS_block_ret ?_
                        refine QS_round_ret ?_
                        refine QS_block_ret ?_
                        refine QS_then_ret ?_
                        exact QS_ret [.slice none 0 0, faultV 110 p] ⟨rfl, ⟨b1, _, _, _, rfl, .there (.there .here), .inr ⟨ag25, rfl⟩⟩, trivial⟩ [] (Pick.nil _) ⟨rfl, rfl⟩
                      | some mk =>
                        rw [hmk] at he
                        have hst : stepR s p = .next (p + mk.length) [⟨3, mk, 0, p⟩] := by
                          unfold stepR
                          rw [hr]
                          simp only [if_neg hsp, if_neg h35, hl, hd, Bool.false_eq_true, if_false]
                          unfold stepM
                          rw [hmk]
                        obtain ⟨g1, g2⟩ := stepR_next hlt hst
                        have g3 := g2.len hp
                        have hne : ¬ mk = [] := by rintro rfl; simp at g1
                        simp only at he
                        simp only [Option.getD_some]
                        refine VS_pure (P_assign rfl) rfl rfl rfl ?_
                        refine VS_nil ?_
                        refine QS_then ?_
                        refine TS_seq ?_
                        refine TS_seq ?_
                        refine TS_region ?_
                        refine VS_pure (P_move rfl) rfl rfl rfl ?_
                        refine VS_pure ((df (P_seql rfl rfl) hne)) rfl rfl rfl ?_
                        refine VS_nil ?_
                        refine QS_then ?_
                        refine TS_false rfl ?_
                        refine TS_skip ?_
                        refine QS_then ?_
                        refine TS_seq ?_
                        refine TS_region ?_
                        refine VS_pure (P_move rfl) rfl rfl rfl ?_
                        refine VS_pure (P_move rfl) rfl rfl rfl ?_
                        refine VS_pure (P_move rfl) rfl rfl rfl ?_
                        refine VS_pure (P_build zl30 pl30 rfl rfl) rfl rfl rfl ?_
                        refine VS_step (S_buildSlice sl22 rfl rfl rfl rfl (fun b3 => ?_)) rfl
                        refine VS_step (S_append sl22 rfl rfl rfl rfl (.here) (fun _ _ => (.there (.here))) rfl rfl (by first | omega | (simp only [maxLen]; omega)) (by omega) rfl (fun A1 c1 => ?_)) rfl
                        refine VS_pure (P_assign rfl) rfl rfl rfl ?_
                        refine VS_nil ?_
                        refine QS_then ?_
                        refine TS_region ?_
                        refine VS_pure (P_move rfl) rfl rfl rfl ?_
                        refine VS_pure (P_move rfl) rfl rfl rfl ?_
                        refine VS_pure (P_len_str rfl st9) rfl rfl rfl ?_
                        refine VS_pure (P_addN rfl rfl (by omega)) rfl rfl rfl ?_
                        refine VS_pure (P_assign rfl) rfl rfl rfl ?_
                        refine VS_nil ?_
                        refine QS_block ?_
                        refine QS_block ?_
                        exact QS_round ((p + k, p + mk.length, false), acc ++ [⟨3, mk, 0, p⟩], A1, c1) ⟨rfl, rfl, by simp only [len_snoc]; rfl, rfl, rfl, rfl, trivial⟩ (by simp only [own_snoc]; exact Pick.drop) ⟨by simp only; omega, by simp only; omega, by simp only [len_snoc]; omega, he⟩ (by simp only; omega)
    · rw [goI_end hlt] at he
      subst he
      refine TS_seq ?_
      refine TS_region ?_
      refine VS_step (S_nextEnd rfl (by first | assumption | omega) (.there (.here)) rfl ?_) rfl
      refine VS_pure (P_extract rfl rfl) rfl rfl rfl ?_
      refine VS_nil ?_
      refine QS_then ?_
      refine TS_seq ?_
      refine TS_false rfl ?_
      refine TS_exit ?_
      refine QS_then_exit ?_
      refine QS_round_exit ?_
      refine QS_block_here ?_
      refine QS_then ?_
      refine TS_seq ?_
      refine TS_region ?_
      refine VS_pure (P_move rfl) rfl rfl rfl ?_
      refine VS_pure (P_move rfl) rfl rfl rfl ?_
      refine VS_pure (P_len_str rfl st9) rfl rfl rfl ?_
      refine VS_pure (P_build zl30 pl30 rfl rfl) rfl rfl rfl ?_
      refine VS_step (S_buildSlice sl22 rfl rfl rfl rfl (fun b3 => ?_)) rfl
      refine VS_step (S_append sl22 rfl rfl rfl rfl (.here) (fun _ _ => (.there (.here))) rfl rfl (by first | omega | (simp only [maxLen]; omega)) (by omega) rfl (fun A1 c1 => ?_)) rfl
      refine VS_pure (P_build zl25 pl25 rfl rfl) rfl rfl rfl ?_
      refine VS_pure (P_assign rfl) rfl rfl rfl ?_
      refine VS_step (S_storeAgg ag25 rfl rfl rfl (.there (.there (.there (.here)))) rfl rfl ?_) rfl
      refine VS_nil ?_
      refine QS_then ?_
      refine TS_ret ?_
      refine QS_ret [.slice A1 (acc.length + 1) c1, faultV 0 0] ⟨rfl, ⟨b1, _, _, _, rfl, .there (.there (.there .here)), .inr ⟨ag25, rfl⟩⟩, trivial⟩ [own 30 4 A1 (acc.length + 1) c1 (wsV acc ++ wV ⟨0, [], 0, s.length⟩)] (Pick.cons (.there .here) (Pick.nil _)) ⟨A1, c1, ?_, ?_⟩
      · simp [tup]
      · rw [wsV_snoc]; simp
end Go.Proofs.YtigfdclopkagmaaDoor
