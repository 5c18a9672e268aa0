/- A part of the proof: contracts of functions of the program. No condition. -/
import Derived.Test.YtbghonkgflolaaaDoorKdU
namespace Go.Proofs.YtbghonkgflolaaaDoor
open Go.Eng Wd Kd
set_option maxRecDepth 100000
theorem get_entK (l : List (List UInt8)) (s : List UInt8) : (getM (entK l) s).getD (.bool false) = .bool (decide (s ∈ l)) := by
  unfold getM
  by_cases h : s ∈ l
  · obtain ⟨j, hj⟩ := findM_some l 0 h
    simp [hj, h]
  · simp [findM_none l 0 h, h]
theorem put_entK {l : List (List UInt8)} {s : List UInt8} (h : s ∉ l) : putM (entK l) s (.bool true) = entK (l ++ [s]) := by
  unfold putM
  rw [findM_none l 0 h]
  simp [entK]
def faultV (e a : Int) : Value := .agg [.int .i64 e, .int .i64 a].toArray
set_option maxHeartbeats 64000000 in
theorem Check5 {m : Mp} {A : Option Addr} {cap : Nat} {cards : List CardT} (hT : Tabs m) (hc : CardsR m A cards.length cards) (hb : cards.length ≤ 240 → ∀ (i : Nat) (h : i < cards.length), cards[i].name.length ≤ 2000 ∧ cardW cards[i] ≤ 3999) :
    CS Tryd.prog 5 [.slice A cards.length cap] m [] (fun v L' => L' = [] ∧ ∃ e a, v = faultV e a ∧ CheckPost cards e a) := by
  obtain ⟨-, hml, vs, hrd, hvl, hel⟩ := hc
  unfold maxLen at hml
  refine CS_of [.cell 2 26] Tryd.func5 rfl rfl rfl ?_
  by_cases h240 : cards.length ≤ 240
  rotate_left
  · refine TS_seq ?_
    refine TS_region ?_
    refine VS_step (S_alloc zl26 rfl (fun b1 => ?_)) rfl
    refine VS_nil ?_
    refine QS_then ?_
    refine TS_seq ?_
    refine TS_seq ?_
    refine TS_region ?_
    refine VS_pure (P_move rfl) rfl rfl rfl ?_
    refine VS_pure (P_len il22 rfl) rfl rfl rfl ?_
    refine VS_pure (dt (P_gtr rfl rfl) (by omega)) rfl rfl rfl ?_
    refine VS_nil ?_
    refine QS_then ?_
    refine TS_true rfl ?_
    refine TS_seq ?_
    refine TS_region ?_
    refine VS_pure (P_build zl26 pl26 rfl rfl) rfl rfl rfl ?_
    refine VS_step (S_storeAgg ag26 rfl rfl rfl (.here) rfl rfl ?_) rfl
    refine VS_nil ?_
    refine QS_then ?_
    refine TS_ret ?_
    refine QS_then_ret ?_
    exact QS_ret [_] ⟨⟨b1, _, _, _, rfl, .here, .inr ⟨rfl, rfl⟩⟩, trivial⟩ [] (Pick.nil _) ⟨rfl, 3, 0, rfl, .inl ⟨by omega, rfl, rfl⟩⟩
  have hb := hb h240
  refine TS_seq ?_
  refine TS_region ?_
  refine VS_step (S_alloc zl26 rfl (fun b1 => ?_)) rfl
  refine VS_nil ?_
  refine QS_then ?_
  refine TS_seq ?_
  refine TS_seq ?_
  refine TS_region ?_
  refine VS_pure (P_move rfl) rfl rfl rfl ?_
  refine VS_pure (P_len il22 rfl) rfl rfl rfl ?_
  refine VS_pure (df (P_gtr rfl rfl) (by omega)) rfl rfl rfl ?_
  refine VS_nil ?_
  refine QS_then ?_
  refine TS_false rfl ?_
  refine TS_skip ?_
  refine QS_then ?_
  refine TS_seq ?_
  refine TS_region ?_
  refine VS_step (S_makeMap rfl (fun b2 => ?_)) rfl
  refine VS_pure (P_assign rfl) rfl rfl rfl ?_
  refine VS_nil ?_
  refine QS_then ?_
  refine TS_seq ?_
  refine TS_seq ?_
  refine TS_region ?_
  refine VS_pure (P_move rfl) rfl rfl rfl ?_
  refine VS_pure (P_len il22 rfl) rfl rfl rfl ?_
  refine VS_pure (P_move rfl) rfl rfl rfl ?_
  refine VS_nil ?_
  refine QS_then ?_
  refine TS_block ?_
  refine TS_loop (α := Nat) (fun i => [(0, .slice A cards.length cap), (2, .pointer (some ⟨b1, 0, none⟩)), (3, .map (some b2)), (16, .slice A cards.length cap), (17, .int .i64 (cards.length : Nat)), (18, .int .i64 (i : Nat))]) (fun i => [smap b2 (esU (unitsOf (cards.take i))), cel b1 [.int .i64 0, .int .i64 0] 26]) (fun i => i ≤ cards.length) (fun i => cards.length - i) 0 ⟨rfl, rfl, rfl, rfl, rfl, rfl, trivial⟩ (Pick.refl _) (Nat.zero_le _) ?_
  rintro i hi
  try dsimp only
  by_cases hlt : i < cards.length
  · have hA : A.isSome = true := hrd.isSome (by omega)
    have hx := hel i hlt
    have hat := hrd.elem (i * 12) 12
    have hst := unitsOf_take hlt
    generalize cards[i] = x at hx hst
    generalize (vs.drop (i * 12)).take 12 = cs at hx hat
    obtain ⟨PA, la, ca, PB, lb, cb, PD, ld, cd, rfl, -⟩ := hx
    generalize hus' : unitsOf (cards.take (i + 1)) = us' at hst
    generalize unitsOf (cards.take i) = us at hst
    have hgu := getM_esU (s := x.name) (l := us)
    cases hu : uOf us x.name with
    | none =>
      rw [hu] at hgu
      have e : us' = us ++ [(x.name, x.unit)] := by rw [hst, addU, if_neg (by rw [hu]; simp)]
      have hput := putM_esU (s := x.name) (l := us) (b := x.unit) hu
      rw [← e] at hput
      refine TS_seq ?_
      refine TS_region ?_
      refine VS_pure (dt (P_lss rfl rfl) (by omega)) rfl rfl rfl ?_
      refine VS_nil ?_
      refine QS_then ?_
      refine TS_seq ?_
      refine TS_true rfl ?_
      refine TS_skip ?_
      refine QS_then ?_
      refine TS_seq ?_
      refine TS_block ?_
      refine TS_seq ?_
      refine TS_region ?_
      refine VS_pure (P_indexAddrN ez22 rfl rfl hA (by omega)) rfl rfl rfl ?_
      refine VS_read (S_loadAt ag31 rfl rfl hat) rfl rfl rfl ?_
      refine VS_step (S_alloc zl31 rfl (fun b3 => ?_)) rfl
      refine VS_step (S_storeAgg ag31 rfl rfl rfl (.here) rfl rfl ?_) rfl
      refine VS_nil ?_
      refine QS_then ?_
      refine TS_seq ?_
      refine TS_region ?_
      refine VS_pure (P_move rfl) rfl rfl rfl ?_
      refine VS_pure (P_fieldAddr0 fo31_0 rfl) rfl rfl rfl ?_
      refine VS_read (S_loadB sg9 rfl (.here) rfl) rfl rfl rfl ?_
      refine VS_read (S_lookup2 ms35 rfl rfl (.there (.here)) mz35) rfl rfl rfl ?_
      rw [hgu]
      refine VS_pure (P_move rfl) rfl rfl rfl ?_
      refine VS_pure (P_extract rfl rfl) rfl rfl rfl ?_
      refine VS_pure (P_extract rfl rfl) rfl rfl rfl ?_
      refine VS_pure (P_assign rfl) rfl rfl rfl ?_
      refine VS_pure (P_assign rfl) rfl rfl rfl ?_
      refine VS_nil ?_
      refine QS_then ?_
      refine TS_seq ?_
      refine TS_region ?_
      refine VS_pure (P_move rfl) rfl rfl rfl ?_
      refine VS_pure (P_not rfl) rfl rfl rfl ?_
      refine VS_nil ?_
      refine QS_then ?_
      refine TS_true rfl ?_
      refine TS_region ?_
      refine VS_pure (P_move rfl) rfl rfl rfl ?_
      refine VS_pure (P_fieldAddr0 fo31_0 rfl) rfl rfl rfl ?_
      refine VS_read (S_loadB sg9 rfl (.here) rfl) rfl rfl rfl ?_
      refine VS_pure (P_fieldAddr0 fo31_1 rfl) rfl rfl rfl ?_
      refine VS_read (S_loadB sg4 rfl (.here) rfl) rfl rfl rfl ?_
      refine VS_step (S_mapUpdate ms35 rfl rfl rfl (.there (.here)) ?_) rfl
      refine VS_nil ?_
      refine QS_block ?_
      refine QS_then ?_
      refine TS_region ?_
      refine VS_pure (P_add rfl rfl (w64 (by omega) (by omega))) rfl rfl rfl ?_
      refine VS_pure (P_move rfl) rfl rfl rfl ?_
      refine VS_nil ?_
      rw [hput]
      exact QS_round (i + 1) ⟨rfl, rfl, rfl, rfl, rfl, rfl, trivial⟩ (by rw [hus']; exact .cons (.there .here) (.cons (.there .here) (.nil _))) hlt (by omega)
    | some u =>
      rw [hu] at hgu
      have e : us' = us := by rw [hst, addU, if_pos (by rw [hu]; simp)]
      subst e
      refine TS_seq ?_
      refine TS_region ?_
      refine VS_pure (dt (P_lss rfl rfl) (by omega)) rfl rfl rfl ?_
      refine VS_nil ?_
      refine QS_then ?_
      refine TS_seq ?_
      refine TS_true rfl ?_
      refine TS_skip ?_
      refine QS_then ?_
      refine TS_seq ?_
      refine TS_block ?_
      refine TS_seq ?_
      refine TS_region ?_
      refine VS_pure (P_indexAddrN ez22 rfl rfl hA (by omega)) rfl rfl rfl ?_
      refine VS_read (S_loadAt ag31 rfl rfl hat) rfl rfl rfl ?_
      refine VS_step (S_alloc zl31 rfl (fun b3 => ?_)) rfl
      refine VS_step (S_storeAgg ag31 rfl rfl rfl (.here) rfl rfl ?_) rfl
      refine VS_nil ?_
      refine QS_then ?_
      refine TS_seq ?_
      refine TS_region ?_
      refine VS_pure (P_move rfl) rfl rfl rfl ?_
      refine VS_pure (P_fieldAddr0 fo31_0 rfl) rfl rfl rfl ?_
      refine VS_read (S_loadB sg9 rfl (.here) rfl) rfl rfl rfl ?_
      refine VS_read (S_lookup2 ms35 rfl rfl (.there (.here)) mz35) rfl rfl rfl ?_
      rw [hgu]
      refine VS_pure (P_move rfl) rfl rfl rfl ?_
      refine VS_pure (P_extract rfl rfl) rfl rfl rfl ?_
      refine VS_pure (P_extract rfl rfl) rfl rfl rfl ?_
      refine VS_pure (P_assign rfl) rfl rfl rfl ?_
      refine VS_pure (P_assign rfl) rfl rfl rfl ?_
      refine VS_nil ?_
      refine QS_then ?_
      refine TS_seq ?_
      refine TS_region ?_
      refine VS_pure (P_move rfl) rfl rfl rfl ?_
      refine VS_pure (P_not rfl) rfl rfl rfl ?_
      refine VS_nil ?_
      refine QS_then ?_
      refine TS_false rfl ?_
      refine TS_skip ?_
      refine QS_block ?_
      refine QS_then ?_
      refine TS_region ?_
      refine VS_pure (P_add rfl rfl (w64 (by omega) (by omega))) rfl rfl rfl ?_
      refine VS_pure (P_move rfl) rfl rfl rfl ?_
      refine VS_nil ?_
      exact QS_round (i + 1) ⟨rfl, rfl, rfl, rfl, rfl, rfl, trivial⟩ (by rw [hus']; exact .cons (.there .here) (.cons (.there .here) (.nil _))) hlt (by omega)
  have hi2 : i = cards.length := by omega
  subst hi2
  rw [List.take_length]
  have hus := uOf_units cards
  generalize unitsOf cards = us at hus
  refine TS_seq ?_
  refine TS_region ?_
  refine VS_pure (df (P_lss rfl rfl) (by omega)) rfl rfl rfl ?_
  refine VS_nil ?_
  refine QS_then ?_
  refine TS_seq ?_
  refine TS_false rfl ?_
  refine TS_exit ?_
  refine QS_then_exit ?_
  refine QS_round_exit ?_
  refine QS_block_here ?_
  refine QS_then ?_
  refine TS_seq ?_
  refine TS_region ?_
  refine VS_step (S_makeMap rfl (fun b3 => ?_)) rfl
  refine VS_pure (P_assign rfl) rfl rfl rfl ?_
  refine VS_nil ?_
  refine QS_then ?_
  refine TS_seq ?_
  refine TS_seq ?_
  refine TS_region ?_
  refine VS_pure (P_move rfl) rfl rfl rfl ?_
  refine VS_pure (P_len il22 rfl) rfl rfl rfl ?_
  refine VS_pure (P_move rfl) rfl rfl rfl ?_
  refine VS_nil ?_
  refine QS_then ?_
  refine TS_block ?_
  refine TS_loop (α := Nat) (fun i => [(0, .slice A cards.length cap), (2, .pointer (some ⟨b1, 0, none⟩)), (3, .map (some b2)), (8, .map (some b3)), (39, .int .i64 (cards.length : Nat)), (40, .int .i64 (i : Nat))]) (fun i => [smap b3 (entK (namesC (cards.take i))), smap b2 (esU us), cel b1 [.int .i64 0, .int .i64 0] 26]) (fun i => i ≤ cards.length ∧ ∀ (j : Nat) (h : j < cards.length), j < i → okAt cards j h) (fun i => cards.length - i) 0 ⟨rfl, rfl, rfl, rfl, rfl, rfl, trivial⟩ (Pick.refl _) ⟨Nat.zero_le _, fun _ _ h => by cases h⟩ ?_
  clear hi hlt
  rintro i ⟨hi, hdone⟩
  try dsimp only at hi hdone
  try dsimp only
  by_cases hlt : i < cards.length
  rotate_left
  · refine TS_seq ?_
    refine TS_region ?_
    refine VS_pure (df (P_lss rfl rfl) (by omega)) rfl rfl rfl ?_
    refine VS_nil ?_
    refine QS_then ?_
    refine TS_seq ?_
    refine TS_false rfl ?_
    refine TS_exit ?_
    refine QS_then_exit ?_
    refine QS_round_exit ?_
    refine QS_block_here ?_
    refine QS_then ?_
    refine TS_seq ?_
    refine TS_region ?_
    refine VS_pure (P_build zl26 pl26 rfl rfl) rfl rfl rfl ?_
    refine VS_step (S_storeAgg ag26 rfl rfl rfl (.there (.there (.here))) rfl rfl ?_) rfl
    refine VS_nil ?_
    refine QS_then ?_
    refine TS_ret ?_
    exact QS_ret [_] ⟨⟨b1, _, _, _, rfl, .there (.there .here), .inr ⟨rfl, rfl⟩⟩, trivial⟩ [] (Pick.nil _) ⟨rfl, 0, 0, rfl, .inr ⟨h240, .inl ⟨rfl, rfl, fun j h => hdone j h (by omega)⟩⟩⟩
  have hA : A.isSome = true := hrd.isSome (by omega)
  have hx := hel i hlt
  have hat := hrd.elem (i * 12) 12
  have hst := namesC_take hlt
  have hbi := hb i hlt
  have hex : ∀ (e : Int), ((e = 101 ∧ cards[i].name ∈ namesC (cards.take i)) ∨ (e = 130 ∧ cards[i].name ∉ namesC (cards.take i) ∧ ¬ mayP (uC cards) cards[i])) → CheckPost cards e cards[i].at_ := fun e h =>
    .inr ⟨h240, .inr ⟨i, hlt, fun j hj => hdone j (by omega) hj, rfl, h⟩⟩
  have hnext : cards[i].name ∉ namesC (cards.take i) → mayP (uC cards) cards[i] → ∀ (j : Nat) (h : j < cards.length), j < i + 1 → okAt cards j h := fun h1 h2 j h hj => by
    by_cases hji : j < i
    · exact hdone j h hji
    · obtain rfl : j = i := by omega
      exact ⟨h1, h2⟩
  generalize cards[i] = x at hx hst hbi hex hnext
  generalize (vs.drop (i * 12)).take 12 = cs at hx hat
  have hx0 := hx
  have hat0 := hat
  obtain ⟨PA, la, ca, PB, lb, cb, PD, ld, cd, rfl, -⟩ := hx
  generalize hns' : namesC (cards.take (i + 1)) = ns' at hst
  generalize namesC (cards.take i) = ns at hst hex hnext ⊢
  have hgu := get_entK ns x.name
  by_cases hin : x.name ∈ ns
  · rw [decide_eq_true hin] at hgu
    refine TS_seq ?_
    refine TS_region ?_
    refine VS_pure (dt (P_lss rfl rfl) (by omega)) rfl rfl rfl ?_
    refine VS_nil ?_
    refine QS_then ?_
    refine TS_seq ?_
    refine TS_true rfl ?_
    refine TS_skip ?_
    refine QS_then ?_
    refine TS_seq ?_
    refine TS_block ?_
    refine TS_seq ?_
    refine TS_region ?_
    refine VS_pure (P_move rfl) rfl rfl rfl ?_
    refine VS_pure (P_assign rfl) rfl rfl rfl ?_
    refine VS_nil ?_
    refine QS_then ?_
    refine TS_seq ?_
    refine TS_region ?_
    refine VS_pure (P_move rfl) rfl rfl rfl ?_
    refine VS_pure (P_move rfl) rfl rfl rfl ?_
    refine VS_pure (P_indexAddrN ez22 rfl rfl hA (by omega)) rfl rfl rfl ?_
    refine VS_pure (P_assign rfl) rfl rfl rfl ?_
    refine VS_nil ?_
    refine QS_then ?_
    refine TS_seq ?_
    refine TS_block ?_
    refine TS_seq ?_
    refine TS_region ?_
    refine VS_pure (P_move rfl) rfl rfl rfl ?_
    refine VS_pure (P_move rfl) rfl rfl rfl ?_
    refine VS_pure (P_nilCheck rfl) rfl rfl rfl ?_
    refine VS_pure (P_fieldAddr fo31_0 rfl) rfl rfl rfl ?_
    refine VS_read (S_load sg9 rfl (hat0.at_ rfl)) rfl rfl rfl ?_
    refine VS_read (S_lookup ms35 rfl rfl (.here) mz35) rfl rfl rfl ?_
    rw [hgu]
    refine VS_pure (P_assign rfl) rfl rfl rfl ?_
    refine VS_nil ?_
    refine QS_then ?_
    refine TS_true rfl ?_
    refine TS_seq ?_
    refine TS_region ?_
    refine VS_pure (P_move rfl) rfl rfl rfl ?_
    refine VS_pure (P_nilCheck rfl) rfl rfl rfl ?_
    refine VS_pure (P_fieldAddr fo31_11 rfl) rfl rfl rfl ?_
    refine VS_read (S_load sg3 rfl (hat0.at_ rfl)) rfl rfl rfl ?_
    refine VS_pure (P_build zl26 pl26 rfl rfl) rfl rfl rfl ?_
    refine VS_step (S_storeAgg ag26 rfl rfl rfl (.there (.there (.here))) rfl rfl ?_) rfl
    refine VS_nil ?_
    refine QS_then ?_
    refine TS_ret ?_
    refine QS_block_ret ?_
    refine QS_then_ret ?_
    refine QS_block_ret ?_
    refine QS_then_ret ?_
    refine QS_round_ret ?_
    refine QS_block_ret ?_
    refine QS_then_ret ?_
    exact QS_ret [_] ⟨⟨b1, _, _, _, rfl, .there (.there .here), .inr ⟨rfl, rfl⟩⟩, trivial⟩ [] (Pick.nil _) ⟨rfl, 101, x.at_, rfl, hex _ (.inl ⟨rfl, hin⟩)⟩
  rw [decide_eq_false hin] at hgu
  have hput := put_entK hin
  rw [← hst] at hput
  refine TS_seq ?_
  refine TS_region ?_
  refine VS_pure (dt (P_lss rfl rfl) (by omega)) rfl rfl rfl ?_
  refine VS_nil ?_
  refine QS_then ?_
  refine TS_seq ?_
  refine TS_true rfl ?_
  refine TS_skip ?_
  refine QS_then ?_
  refine TS_seq ?_
  refine TS_block ?_
  refine TS_seq ?_
  refine TS_region ?_
  refine VS_pure (P_move rfl) rfl rfl rfl ?_
  refine VS_pure (P_assign rfl) rfl rfl rfl ?_
  refine VS_nil ?_
  refine QS_then ?_
  refine TS_seq ?_
  refine TS_region ?_
  refine VS_pure (P_move rfl) rfl rfl rfl ?_
  refine VS_pure (P_move rfl) rfl rfl rfl ?_
  refine VS_pure (P_indexAddrN ez22 rfl rfl hA (by omega)) rfl rfl rfl ?_
  refine VS_pure (P_assign rfl) rfl rfl rfl ?_
  refine VS_nil ?_
  refine QS_then ?_
  refine TS_seq ?_
  refine TS_block ?_
  refine TS_seq ?_
  refine TS_region ?_
  refine VS_pure (P_move rfl) rfl rfl rfl ?_
  refine VS_pure (P_move rfl) rfl rfl rfl ?_
  refine VS_pure (P_nilCheck rfl) rfl rfl rfl ?_
  refine VS_pure (P_fieldAddr fo31_0 rfl) rfl rfl rfl ?_
  refine VS_read (S_load sg9 rfl (hat0.at_ rfl)) rfl rfl rfl ?_
  refine VS_read (S_lookup ms35 rfl rfl (.here) mz35) rfl rfl rfl ?_
  rw [hgu]
  refine VS_pure (P_assign rfl) rfl rfl rfl ?_
  refine VS_nil ?_
  refine QS_then ?_
  refine TS_false rfl ?_
  refine TS_seq ?_
  refine TS_region ?_
  refine VS_pure (P_move rfl) rfl rfl rfl ?_
  refine VS_pure (P_move rfl) rfl rfl rfl ?_
  refine VS_step ((S_call cl9 rfl (fun m1 hm1 he => may9 (hT.mono hm1) (hx0.mono hm1) (hat0.mono hm1) (MapAt.of (he _ (.tail _ (.head _)))) hbi.1 hbi.2) rfl ?_)) rfl
  rintro _ _ ⟨rfl, r, rfl, hr⟩
  rw [hus] at hr
  cases r with
  | false =>
    refine VS_pure (P_not rfl) rfl rfl rfl ?_
    refine VS_pure (P_assign rfl) rfl rfl rfl ?_
    refine VS_nil ?_
    refine QS_then ?_
    refine TS_true rfl ?_
    refine TS_seq ?_
    refine TS_region ?_
    refine VS_pure (P_move rfl) rfl rfl rfl ?_
    refine VS_pure (P_nilCheck rfl) rfl rfl rfl ?_
    refine VS_pure (P_fieldAddr fo31_11 rfl) rfl rfl rfl ?_
    refine VS_read (S_load sg3 rfl (hat0.at_ rfl)) rfl rfl rfl ?_
    refine VS_pure (P_build zl26 pl26 rfl rfl) rfl rfl rfl ?_
    refine VS_step (S_storeAgg ag26 rfl rfl rfl (.there (.there (.here))) rfl rfl ?_) rfl
    refine VS_nil ?_
    refine QS_then ?_
    refine TS_ret ?_
    refine QS_block_ret ?_
    refine QS_then_ret ?_
    refine QS_block_ret ?_
    refine QS_then_ret ?_
    refine QS_round_ret ?_
    refine QS_block_ret ?_
    refine QS_then_ret ?_
    exact QS_ret [_] ⟨⟨b1, _, _, _, rfl, .there (.there .here), .inr ⟨rfl, rfl⟩⟩, trivial⟩ [] (Pick.nil _) ⟨rfl, 130, x.at_, rfl, hex _ (.inr ⟨rfl, hin, fun h => absurd (hr.2 h) (by decide)⟩)⟩
  | true =>
    refine VS_pure (P_not rfl) rfl rfl rfl ?_
    refine VS_pure (P_assign rfl) rfl rfl rfl ?_
    refine VS_nil ?_
    refine QS_then ?_
    refine TS_false rfl ?_
    refine TS_skip ?_
    refine QS_block ?_
    refine QS_then ?_
    refine TS_region ?_
    refine VS_pure (P_move rfl) rfl rfl rfl ?_
    refine VS_pure (P_move rfl) rfl rfl rfl ?_
    refine VS_pure (P_nilCheck rfl) rfl rfl rfl ?_
    refine VS_pure (P_fieldAddr fo31_0 rfl) rfl rfl rfl ?_
    refine VS_read (S_load sg9 rfl (hat0.at_ rfl)) rfl rfl rfl ?_
    refine VS_step (S_mapUpdate ms35 rfl rfl rfl (.here) ?_) rfl
    refine VS_nil ?_
    refine QS_block ?_
    refine QS_then ?_
    refine TS_region ?_
    refine VS_pure (P_add rfl rfl (w64 (by omega) (by omega))) rfl rfl rfl ?_
    refine VS_pure (P_move rfl) rfl rfl rfl ?_
    refine VS_nil ?_
    rw [hput]
    exact QS_round (i + 1) ⟨rfl, rfl, rfl, rfl, rfl, rfl, trivial⟩ (by rw [hns']; exact Pick.refl _) ⟨hlt, hnext hin (hr.1 rfl)⟩ (by omega)
end Go.Proofs.YtbghonkgflolaaaDoor
