/- A part of the proof: contracts of functions of the program. No condition. -/
import Derived.Test.YtccleakfgmcjpaaDoorDkW
import Derived.Test.YtccleakfgmcjpaaDoorDkQ
namespace Go.Proofs.YtccleakfgmcjpaaDoor
open Go.Eng Dk
set_option maxRecDepth 100000
theorem ix_count {s : List UInt8} {xs : List (List UInt8)} : (ix s xs).isSome = decide (((count s xs : Nat) : Int) > 0) := by
  by_cases h : s ∈ xs
  · rw [decide_eq_true (by rw [mem_count] at h; omega)]
    cases hi : ix s xs with
    | some i => rfl
    | none =>
      unfold ix at hi
      rw [List.findIdx?_eq_none_iff] at hi
      have := hi s h
      simp at this
  · rw [decide_eq_false (by rw [mem_count] at h; omega)]
    cases hi : ix s xs with
    | none => rfl
    | some i =>
      obtain ⟨h1, h2, _⟩ := ix_lt hi
      exact absurd (h2 ▸ List.getElem_mem h1) h
theorem snocR (rs : List Rea) (r : Rea) : (rs ++ [r]).length = rs.length + 1 ∧ (rs ++ [r]).flatMap reaC = rs.flatMap reaC ++ reaC r := by
  constructor
  · simp
  · rw [List.flatMap_append, List.flatMap_cons, List.flatMap_nil, List.append_nil]
set_option maxHeartbeats 32000000 in
theorem rCheck_ok {m : Mp} {bv : List Value} {b : BkT} (hb : BkR m bv b) (fm : List UInt8) {A : Option Addr} {c : Nat} {deck : List (List UInt8)} (hd : StrsR m A deck) (hdl : deck.length ≤ 300) (hcap : deck.length ≤ c) : CS Tryd.prog 10 [.agg bv.toArray, sV fm, .slice A deck.length c] m [] (CheckPost (checkP b fm deck)) := by
  have hb0 := hb
  obtain ⟨A0, c0, F0, k0, rfl, _⟩ := hb
  refine CS_of [.tmp 6, .tmp 7] Tryd.func10 rfl rfl rfl ?_
  refine TS_nilOwn 38 3 ?_
  refine TS_seq ?_
  refine TS_region ?_
  refine VS_step (S_box rfl rfl (fun b1 => ?_)) rfl
  refine VS_pure (P_assign rfl) rfl rfl rfl ?_
  refine VS_pure (P_assign rfl) rfl rfl rfl ?_
  refine VS_nil ?_
  refine QS_then ?_
  refine TS_seq ?_
  refine TS_region ?_
  refine VS_read (S_loadBA ag25 rfl (.here) rfl) rfl rfl rfl ?_
  refine VS_pure (P_move rfl) rfl rfl rfl ?_
  refine VS_step ((S_call cl27 rfl (fun m' hm he => rFormat_ok hm hb0 fm) rfl ?_)) rfl
  rintro _ _ ⟨rfl, ⟨hf, rfl⟩ | ⟨f, cs, hf, hfr, rfl⟩⟩
  · refine VS_pure (P_move rfl) rfl rfl rfl ?_
    refine VS_pure (P_extract rfl rfl) rfl rfl rfl ?_
    refine VS_pure (P_extract rfl rfl) rfl rfl rfl ?_
    refine VS_step (S_alloc zl51 rfl (fun b2 => ?_)) rfl
    refine VS_step (S_storeAgg ag51 rfl rfl rfl (.here) rfl rfl ?_) rfl
    refine VS_pure (P_assign rfl) rfl rfl rfl ?_
    refine VS_nil ?_
    refine QS_then ?_
    refine TS_seq ?_
    refine TS_seq ?_
    refine TS_region ?_
    refine VS_pure (P_move rfl) rfl rfl rfl ?_
    refine VS_pure (P_not rfl) rfl rfl rfl ?_
    refine VS_nil ?_
    refine QS_then ?_
    refine TS_true rfl ?_
    refine TS_seq ?_
    refine TS_region ?_
    refine VS_pure (P_assign rfl) rfl rfl rfl ?_
    refine VS_pure (P_assign rfl) rfl rfl rfl ?_
    refine VS_nil ?_
    refine QS_then ?_
    refine TS_ret ?_
    refine QS_then_ret ?_
    exact QS_ret [_, _] ⟨rfl, rfl, trivial⟩ [_] (.cons (.there (.there .here)) (.nil _)) ⟨none, 0, by unfold checkP; rw [hf]; rfl, by unfold checkP; rw [hf]; rfl⟩
  have hcp : checkP b fm deck = if (reasons b f deck).length = 0 then ([], 0) else (reasons b f deck, 292) := by unfold checkP; rw [hf]
  obtain ⟨A1, ca, B1, cb, rfl, hban, hsin⟩ := hfr
  refine VS_pure (P_move rfl) rfl rfl rfl ?_
  refine VS_pure (P_extract rfl rfl) rfl rfl rfl ?_
  refine VS_pure (P_extract rfl rfl) rfl rfl rfl ?_
  refine VS_step (S_alloc zl51 rfl (fun b2 => ?_)) rfl
  refine VS_step (S_storeAgg ag51 rfl rfl rfl (.here) rfl rfl ?_) rfl
  refine VS_pure (P_assign rfl) rfl rfl rfl ?_
  refine VS_nil ?_
  refine QS_then ?_
  refine TS_seq ?_
  refine TS_seq ?_
  refine TS_region ?_
  refine VS_pure (P_move rfl) rfl rfl rfl ?_
  refine VS_pure (P_not rfl) rfl rfl rfl ?_
  refine VS_nil ?_
  refine QS_then ?_
  refine TS_false rfl ?_
  refine TS_skip ?_
  refine QS_then ?_
  refine TS_seq ?_
  refine TS_region ?_
  refine VS_pure (P_assign rfl) rfl rfl rfl ?_
  refine VS_nil ?_
  refine QS_then ?_
  refine TS_seq ?_
  refine TS_seq ?_
  refine TS_cut3 (α := Option Addr × Nat) (fun y => [(2, .slice A deck.length c), (3, .pointer (some ⟨b1, 0, none⟩)), (7, .int .i64 0), (8, .pointer (some ⟨b2, 0, none⟩)), (10, .slice y.1 (addR [] ⟨1, [], deck.length⟩ (decide ((deck.length : Int) < f.least))).length y.2)]) (fun y => [own 38 3 y.1 (addR [] ⟨1, [], deck.length⟩ (decide ((deck.length : Int) < f.least))).length y.2 ((addR [] ⟨1, [], deck.length⟩ (decide ((deck.length : Int) < f.least))).flatMap reaC), cel b2 [sV f.name, iV f.least, iV f.most, iV f.copies, .slice A1 f.banned.length ca, .slice B1 f.single.length cb, iV f.at_] 51, cel b1 [.slice A0 b.cards.length c0, .slice F0 b.fmts.length k0] 25]) (fun _ => True) ?_ ?_
  · by_cases hL : (deck.length : Int) < f.least
    · rw [decide_eq_true hL]
      refine TS_region ?_
      refine VS_pure (P_move rfl) rfl rfl rfl ?_
      refine VS_pure (P_len il26 rfl) rfl rfl rfl ?_
      refine VS_pure (P_fieldAddr0 fo51_1 rfl) rfl rfl rfl ?_
      refine VS_read (S_loadB sg3 rfl (.here) rfl) rfl rfl rfl ?_
      refine VS_pure (dt (P_lss rfl rfl) (by assumption)) rfl rfl rfl ?_
      refine VS_nil ?_
      refine QS_then ?_
      refine TS_true rfl ?_
      refine TS_region ?_
      refine VS_pure (P_move rfl) rfl rfl rfl ?_
      refine VS_pure (P_move rfl) rfl rfl rfl ?_
      refine VS_pure (P_len il26 rfl) rfl rfl rfl ?_
      refine VS_pure (P_build zl38 pl38 rfl rfl) rfl rfl rfl ?_
      refine VS_step (S_buildSlice sl27 rfl rfl rfl rfl (fun b3 => ?_)) rfl
      refine VS_step (S_append sl27 rfl rfl rfl rfl (.here) (fun _ _ => (.there (.there (.there (.here))))) rfl rfl (by first | omega | (simp only [maxLen]; omega)) (by omega) rfl (fun A2 c1 => ?_)) rfl
      refine VS_pure (P_assign rfl) rfl rfl rfl ?_
      refine VS_nil ?_
      exact QS_round (A2, c1) ⟨rfl, rfl, rfl, rfl, rfl, trivial⟩ (.cons (.there (.there (.there .here))) (.cons (.there .here) (.cons (.there .here) (.nil _)))) trivial (by decide)
    · rw [decide_eq_false hL]
      refine TS_region ?_
      refine VS_pure (P_move rfl) rfl rfl rfl ?_
      refine VS_pure (P_len il26 rfl) rfl rfl rfl ?_
      refine VS_pure (P_fieldAddr0 fo51_1 rfl) rfl rfl rfl ?_
      refine VS_read (S_loadB sg3 rfl (.here) rfl) rfl rfl rfl ?_
      refine VS_pure (df (P_lss rfl rfl) (by assumption)) rfl rfl rfl ?_
      refine VS_nil ?_
      refine QS_then ?_
      refine TS_false rfl ?_
      refine TS_skip ?_
      exact QS_round (none, 0) ⟨rfl, rfl, rfl, rfl, rfl, trivial⟩ (.cons (.there (.there .here)) (.cons .here (.cons .here (.nil _)))) trivial (by decide)
  rintro ⟨A3, c3⟩ -
  dsimp only
  have hr1 : (addR [] ⟨1, [], deck.length⟩ (decide ((deck.length : Int) < f.least))).length ≤ 1 := addR_len
  have hb0' : base0 f deck.length = addR (addR [] ⟨1, [], deck.length⟩ (decide ((deck.length : Int) < f.least))) ⟨2, [], deck.length⟩ (decide ((deck.length : Int) > f.most) || decide ((deck.length : Int) > 60)) := rfl
  generalize addR [] ⟨1, [], deck.length⟩ (decide ((deck.length : Int) < f.least)) = rs1 at hr1 hb0' ⊢
  refine TS_seq ?_
  refine TS_seq ?_
  refine TS_cut3 (α := Option Addr × Nat) (fun y => [(2, .slice A deck.length c), (3, .pointer (some ⟨b1, 0, none⟩)), (7, .int .i64 0), (8, .pointer (some ⟨b2, 0, none⟩)), (10, .slice y.1 (base0 f deck.length).length y.2)]) (fun y => [own 38 3 y.1 (base0 f deck.length).length y.2 ((base0 f deck.length).flatMap reaC), cel b2 [sV f.name, iV f.least, iV f.most, iV f.copies, .slice A1 f.banned.length ca, .slice B1 f.single.length cb, iV f.at_] 51, cel b1 [.slice A0 b.cards.length c0, .slice F0 b.fmts.length k0] 25]) (fun _ => True) ?_ ?_
  · by_cases hM : (deck.length : Int) > f.most
    · rw [decide_eq_true hM, Bool.true_or] at hb0'
      refine TS_region ?_
      refine VS_pure (P_move rfl) rfl rfl rfl ?_
      refine VS_pure (P_len il26 rfl) rfl rfl rfl ?_
      refine VS_pure (P_fieldAddr0 fo51_2 rfl) rfl rfl rfl ?_
      refine VS_read (S_loadB sg3 rfl (.there (.here)) rfl) rfl rfl rfl ?_
      refine VS_pure (dt (P_gtr rfl rfl) (by assumption)) rfl rfl rfl ?_
      refine VS_pure (P_move rfl) rfl rfl rfl ?_
      iterate 3 (refine VS_skip rfl rfl rfl ?_)
      refine VS_pure (P_pick_t rfl rfl) rfl rfl rfl ?_
      refine VS_nil ?_
      refine QS_then ?_
      refine TS_true rfl ?_
      refine TS_region ?_
      refine VS_pure (P_move rfl) rfl rfl rfl ?_
      refine VS_pure (P_move rfl) rfl rfl rfl ?_
      refine VS_pure (P_len il26 rfl) rfl rfl rfl ?_
      refine VS_pure (P_build zl38 pl38 rfl rfl) rfl rfl rfl ?_
      refine VS_step (S_buildSlice sl27 rfl rfl rfl rfl (fun b3 => ?_)) rfl
      refine VS_step (S_append sl27 rfl rfl rfl rfl (.here) (fun _ _ => (.there (.here))) rfl rfl (by first | omega | (simp only [maxLen]; omega)) (by omega) rfl (fun A2 c1 => ?_)) rfl
      refine VS_pure (P_assign rfl) rfl rfl rfl ?_
      refine VS_nil ?_
      rw [hb0', show addR rs1 ⟨2, [], deck.length⟩ true = rs1 ++ [⟨2, [], deck.length⟩] from rfl, (snocR _ _).1, (snocR _ _).2]
      exact QS_round (A2, c1) ⟨rfl, rfl, rfl, rfl, rfl, trivial⟩ (.cons (.there .here) (.cons (.there .here) (.cons (.there .here) (.nil _)))) trivial (by decide)
    · rw [decide_eq_false hM, Bool.false_or] at hb0'
      by_cases h60 : (deck.length : Int) > 60
      · rw [decide_eq_true h60] at hb0'
        refine TS_region ?_
        refine VS_pure (P_move rfl) rfl rfl rfl ?_
        refine VS_pure (P_len il26 rfl) rfl rfl rfl ?_
        refine VS_pure (P_fieldAddr0 fo51_2 rfl) rfl rfl rfl ?_
        refine VS_read (S_loadB sg3 rfl (.there (.here)) rfl) rfl rfl rfl ?_
        refine VS_pure (df (P_gtr rfl rfl) (by assumption)) rfl rfl rfl ?_
        refine VS_pure (P_move rfl) rfl rfl rfl ?_
        refine VS_pure (P_move rfl) rfl rfl rfl ?_
        refine VS_pure (P_len il26 rfl) rfl rfl rfl ?_
        refine VS_pure (dt (P_gtr rfl rfl) (by assumption)) rfl rfl rfl ?_
        refine VS_pure (P_pick_f rfl rfl) rfl rfl rfl ?_
        refine VS_nil ?_
        refine QS_then ?_
        refine TS_true rfl ?_
        refine TS_region ?_
        refine VS_pure (P_move rfl) rfl rfl rfl ?_
        refine VS_pure (P_move rfl) rfl rfl rfl ?_
        refine VS_pure (P_len il26 rfl) rfl rfl rfl ?_
        refine VS_pure (P_build zl38 pl38 rfl rfl) rfl rfl rfl ?_
        refine VS_step (S_buildSlice sl27 rfl rfl rfl rfl (fun b3 => ?_)) rfl
        refine VS_step (S_append sl27 rfl rfl rfl rfl (.here) (fun _ _ => (.there (.here))) rfl rfl (by first | omega | (simp only [maxLen]; omega)) (by omega) rfl (fun A2 c1 => ?_)) rfl
        refine VS_pure (P_assign rfl) rfl rfl rfl ?_
        refine VS_nil ?_
        rw [hb0', show addR rs1 ⟨2, [], deck.length⟩ true = rs1 ++ [⟨2, [], deck.length⟩] from rfl, (snocR _ _).1, (snocR _ _).2]
        exact QS_round (A2, c1) ⟨rfl, rfl, rfl, rfl, rfl, trivial⟩ (.cons (.there .here) (.cons (.there .here) (.cons (.there .here) (.nil _)))) trivial (by decide)
      · rw [decide_eq_false h60] at hb0'
        refine TS_region ?_
        refine VS_pure (P_move rfl) rfl rfl rfl ?_
        refine VS_pure (P_len il26 rfl) rfl rfl rfl ?_
        refine VS_pure (P_fieldAddr0 fo51_2 rfl) rfl rfl rfl ?_
        refine VS_read (S_loadB sg3 rfl (.there (.here)) rfl) rfl rfl rfl ?_
        refine VS_pure (df (P_gtr rfl rfl) (by assumption)) rfl rfl rfl ?_
        refine VS_pure (P_move rfl) rfl rfl rfl ?_
        refine VS_pure (P_move rfl) rfl rfl rfl ?_
        refine VS_pure (P_len il26 rfl) rfl rfl rfl ?_
        refine VS_pure (df (P_gtr rfl rfl) (by assumption)) rfl rfl rfl ?_
        refine VS_pure (P_pick_f rfl rfl) rfl rfl rfl ?_
        refine VS_nil ?_
        refine QS_then ?_
        refine TS_false rfl ?_
        refine TS_skip ?_
        rw [hb0', show addR rs1 ⟨2, [], deck.length⟩ false = rs1 from rfl]
        exact QS_round (A3, c3) ⟨rfl, rfl, rfl, rfl, rfl, trivial⟩ (Pick.refl _) trivial (by decide)
  rintro ⟨A4, c4⟩ -
  dsimp only
  clear hb0' hr1
  refine TS_seq ?_
  refine TS_seq ?_
  refine TS_region ?_
  refine VS_pure (P_assign rfl) rfl rfl rfl ?_
  refine VS_nil ?_
  refine QS_then ?_
  refine TS_block ?_
  have hrs0 : (base0 f deck.length).length ≤ 2 := base0_len
  refine TS_loop4 (β := List Rea) (fun i A' c' rs => [(2, .slice A deck.length c), (3, .pointer (some ⟨b1, 0, none⟩)), (7, .int .i64 0), (8, .pointer (some ⟨b2, 0, none⟩)), (10, .slice A' rs.length c'), (11, .int .i64 (i : Nat))]) (fun i A' c' rs => [own 38 3 A' rs.length c' (rs.flatMap reaC), cel b2 [sV f.name, iV f.least, iV f.most, iV f.copies, .slice A1 f.banned.length ca, .slice B1 f.single.length cb, iV f.at_] 51, cel b1 [.slice A0 b.cards.length c0, .slice F0 b.fmts.length k0] 25]) (fun i rs => i ≤ deck.length ∧ rs = (firsts (deck.take i)).foldl (stepR b f deck) (base0 f deck.length)) (fun i => deck.length - i) 0 A4 c4 (base0 f deck.length) ⟨rfl, rfl, rfl, rfl, rfl, rfl, trivial⟩ (Pick.refl _) ⟨Nat.zero_le _, rfl⟩ ?_
  rintro i A' c' rs ⟨hi, hrs⟩
  try dsimp only at hrs ⊢
  have hrl : rs.length ≤ 902 := by
    rw [hrs]
    refine Nat.le_trans foldl_len ?_
    have := firsts_len (deck.take i)
    rw [List.length_take] at this
    omega
  by_cases hlt : i < deck.length
  · have hA : A.isSome = true := hd.1.isSome (by simp; omega)
    have hp1 : mc m ((sa A).add i) = some (sV deck[i]) := hd.1.at_ (by simp [hlt])
    have hct : ∀ m', Le m m' → CS Tryd.prog 28 [.slice (cutA A 0 c 1) i c, sV deck[i]] m' [] (Gives (.int .i64 (count deck[i] (deck.take i) : Nat))) := fun m' hm => by
      have h1 : Rd m' (cutA A 0 c 1) ((deck.take i).map sV) := by
        have := (hd.1.mono hm).cut (l := 0) (mm := c) (sz := 1) i (by omega)
        rwa [Nat.mul_one, Nat.zero_mul, List.drop_zero, ← List.map_take] at this
      have h2 := count_ok (c := c) (xs := deck.take i) ⟨h1, by rw [List.length_take]; omega⟩ deck[i]
      rwa [List.length_take, Nat.min_eq_left (by omega)] at h2
    have hk := count_le (s := deck[i]) (l := deck)
    have hseen : count deck[i] (deck.take i) = 0 ↔ deck[i] ∉ deck.take i := by rw [mem_count]; omega
    have hnext : ((firsts (deck.take (i + 1))).foldl (stepR b f deck) (base0 f deck.length)) = if deck[i] ∈ deck.take i then rs else stepR b f deck rs deck[i] := by
      rw [firsts_take hlt]
      by_cases h : deck[i] ∈ deck.take i
      · rw [if_pos h, if_pos (mem_firsts.2 h), hrs]
      · rw [if_neg h, if_neg (fun e => h (mem_firsts.1 e)), hrs, List.foldl_append]
        rfl
    have hkc : ∀ m', Le m m' → CS Tryd.prog 28 [.slice A deck.length c, sV deck[i]] m' [] (Gives (.int .i64 (count deck[i] deck : Nat))) := fun m' hm => count_ok (hd.mono hm) deck[i]
    have hst0 : stepR b f deck rs deck[i] = stepR b f deck rs deck[i] := rfl
    conv at hst0 => rhs; unfold stepR
    generalize deck[i] = nm at hp1 hct hk hseen hnext hkc hst0
    by_cases hs : nm ∈ deck.take i
    · rw [if_pos hs] at hnext
      have h0 : ¬ count nm (deck.take i) = 0 := fun e => hseen.1 e hs
      generalize count nm (deck.take i) = q at hct h0
      refine TS_seq ?_
      refine TS_seq ?_
      refine TS_region ?_
      refine VS_pure (P_move rfl) rfl rfl rfl ?_
      refine VS_pure (P_move rfl) rfl rfl rfl ?_
      refine VS_pure (P_len il26 rfl) rfl rfl rfl ?_
      refine VS_pure (dt (P_lss rfl rfl) (by omega)) rfl rfl rfl ?_
      refine VS_nil ?_
      refine QS_then ?_
      refine TS_true rfl ?_
      refine TS_skip ?_
      refine QS_then ?_
      refine TS_seq ?_
      refine TS_block ?_
      refine TS_seq ?_
      refine TS_region ?_
      refine VS_pure (P_move rfl) rfl rfl rfl ?_
      refine VS_pure (P_move rfl) rfl rfl rfl ?_
      refine VS_pure (P_indexAddr1N ez26 rfl rfl hA (by omega)) rfl rfl rfl ?_
      refine VS_read (S_load sg9 rfl hp1) rfl rfl rfl ?_
      refine VS_pure (P_assign rfl) rfl rfl rfl ?_
      refine VS_nil ?_
      refine QS_then ?_
      refine TS_seq ?_
      refine TS_seq ?_
      refine TS_region ?_
      refine VS_pure (P_move rfl) rfl rfl rfl ?_
      refine VS_pure (P_move rfl) rfl rfl rfl ?_
      refine VS_pure (P_slice_h _ ez26 rfl rfl rfl (by omega)) rfl rfl rfl ?_
      refine VS_pure (P_move rfl) rfl rfl rfl ?_
      refine VS_step (S_callR cl28 rfl (fun m' hm he => (hct _ hm)) rfl ?_) rfl
      rintro _ rfl
      refine VS_pure (dt (P_gtr rfl rfl) (by omega)) rfl rfl rfl ?_
      refine VS_nil ?_
      refine QS_then ?_
      refine TS_true rfl ?_
      refine TS_exit ?_
      refine QS_then_exit ?_
      refine QS_block_here ?_
      refine QS_then ?_
      refine TS_region ?_
      refine VS_pure (P_move rfl) rfl rfl rfl ?_
      refine VS_pure (P_add rfl rfl (w64 (by omega) (by omega))) rfl rfl rfl ?_
      refine VS_pure (P_assign rfl) rfl rfl rfl ?_
      refine VS_nil ?_
      exact QS_round4 (Le.refl _) (i + 1) A' c' rs ⟨rfl, rfl, rfl, rfl, rfl, rfl, trivial⟩ (Pick.refl _) ⟨hlt, hnext.symm⟩ (by omega)
    rw [if_neg hs] at hnext
    rw [hseen.2 hs] at hct
    generalize count nm deck = k at hk hkc hst0
    generalize stepR b f deck rs nm = rsN at hnext hst0
    refine TS_seq ?_
    refine TS_seq ?_
    refine TS_region ?_
    refine VS_pure (P_move rfl) rfl rfl rfl ?_
    refine VS_pure (P_move rfl) rfl rfl rfl ?_
    refine VS_pure (P_len il26 rfl) rfl rfl rfl ?_
    refine VS_pure (dt (P_lss rfl rfl) (by omega)) rfl rfl rfl ?_
    refine VS_nil ?_
    refine QS_then ?_
    refine TS_true rfl ?_
    refine TS_skip ?_
    refine QS_then ?_
    refine TS_seq ?_
    refine TS_block ?_
    refine TS_seq ?_
    refine TS_region ?_
    refine VS_pure (P_move rfl) rfl rfl rfl ?_
    refine VS_pure (P_move rfl) rfl rfl rfl ?_
    refine VS_pure (P_indexAddr1N ez26 rfl rfl hA (by omega)) rfl rfl rfl ?_
    refine VS_read (S_load sg9 rfl hp1) rfl rfl rfl ?_
    refine VS_pure (P_assign rfl) rfl rfl rfl ?_
    refine VS_nil ?_
    refine QS_then ?_
    refine TS_seq ?_
    refine TS_seq ?_
    refine TS_region ?_
    refine VS_pure (P_move rfl) rfl rfl rfl ?_
    refine VS_pure (P_move rfl) rfl rfl rfl ?_
    refine VS_pure (P_slice_h _ ez26 rfl rfl rfl (by omega)) rfl rfl rfl ?_
    refine VS_pure (P_move rfl) rfl rfl rfl ?_
    refine VS_step (S_callR cl28 rfl (fun m' hm he => (hct _ hm)) rfl ?_) rfl
    rintro _ rfl
    refine VS_pure (df (P_gtr rfl rfl) (by omega)) rfl rfl rfl ?_
    refine VS_nil ?_
    refine QS_then ?_
    refine TS_false rfl ?_
    refine TS_skip ?_
    refine QS_then ?_
    refine TS_seq ?_
    refine TS_region ?_
    refine VS_pure (P_move rfl) rfl rfl rfl ?_
    refine VS_pure (P_move rfl) rfl rfl rfl ?_
    refine VS_step (S_callR cl28 rfl (fun m' hm he => (hkc _ hm)) rfl ?_) rfl
    rintro _ rfl
    refine VS_pure (P_assign rfl) rfl rfl rfl ?_
    refine VS_nil ?_
    refine QS_then ?_
    refine TS_seq ?_
    refine TS_region ?_
    refine VS_read (S_loadBA ag25 rfl (.there (.there (.here))) rfl) rfl rfl rfl ?_
    refine VS_pure (P_move rfl) rfl rfl rfl ?_
    refine VS_step (S_callR cl29 rfl (fun m' hm he => (rFind_ok (hb0.mono hm) nm)) rfl ?_) rfl
    rintro _ rfl
    cases hkn : (ix nm (names b)).isSome with
    | false =>
      rw [if_neg (by rw [hkn]; decide)] at hst0
      refine VS_pure (P_move rfl) rfl rfl rfl ?_
      refine VS_pure (P_extract rfl rfl) rfl rfl rfl ?_
      refine VS_pure (P_extract rfl rfl) rfl rfl rfl ?_
      refine VS_pure (P_assign rfl) rfl rfl rfl ?_
      refine VS_pure (P_assign rfl) rfl rfl rfl ?_
      refine VS_nil ?_
      refine QS_then ?_
      refine TS_seq ?_
      refine TS_seq ?_
      refine TS_region ?_
      refine VS_pure (P_move rfl) rfl rfl rfl ?_
      refine VS_pure (P_not rfl) rfl rfl rfl ?_
      refine VS_nil ?_
      refine QS_then ?_
      refine TS_true rfl ?_
      refine TS_seq ?_
      refine TS_region ?_
      iterate 3 (refine VS_pure (P_move rfl) rfl rfl rfl ?_)
      refine VS_pure (P_build zl38 pl38 rfl rfl) rfl rfl rfl ?_
      refine VS_step (S_buildSlice sl27 rfl rfl rfl rfl (fun b3 => ?_)) rfl
      refine VS_step (S_append sl27 rfl rfl rfl rfl (.here) (fun _ _ => (.there (.here))) rfl rfl (by first | omega | (simp only [maxLen]; omega)) (by omega) rfl (fun A2 c1 => ?_)) rfl
      refine VS_pure (P_assign rfl) rfl rfl rfl ?_
      refine VS_nil ?_
      refine QS_then ?_
      refine TS_exit ?_
      refine QS_then_exit ?_
      refine QS_block_here ?_
      refine QS_then ?_
      refine TS_region ?_
      refine VS_pure (P_move rfl) rfl rfl rfl ?_
      refine VS_pure (P_add rfl rfl (w64 (by omega) (by omega))) rfl rfl rfl ?_
      refine VS_pure (P_assign rfl) rfl rfl rfl ?_
      refine VS_nil ?_
      obtain ⟨e1, e2⟩ := snocR rs ⟨3, nm, k⟩
      rw [← hst0] at e1 e2
      rw [← e1]
      refine QS_round4 (Le.refl _) (i + 1) A2 c1 rsN ⟨rfl, rfl, rfl, rfl, rfl, rfl, trivial⟩ ?_ ⟨hlt, hnext.symm⟩ (by omega)
      rw [e2]
      exact .cons (.there .here) (.cons (.there .here) (.cons (.there .here) (.nil _)))
    | true =>
      rw [if_pos hkn] at hst0
      have C4 := fun m' (hm : Le m m') => count_ok (c := ca) (hban.mono hm) nm
      have C5 := fun m' (hm : Le m m') => count_ok (c := cb) (hsin.mono hm) nm
      have cl4 := count_le (s := nm) (l := f.banned)
      have cl5 := count_le (s := nm) (l := f.single)
      have hbb := hban.2
      have hss := hsin.2
      rw [ix_count (s := nm) (xs := f.banned), ix_count (s := nm) (xs := f.single)] at hst0
      generalize count nm f.banned = k4 at C4 hst0 cl4
      generalize count nm f.single = k5 at C5 hst0 cl5
      generalize h4 : addR rs ⟨4, nm, k⟩ (decide ((k4 : Int) > 0)) = rs4 at hst0
      generalize h5 : addR rs4 ⟨5, nm, k⟩ (decide ((k : Int) > 1) && decide ((k5 : Int) > 0)) = rs5 at hst0
      have hl4 : rs4.length ≤ rs.length + 1 := h4 ▸ addR_len
      have hl5 : rs5.length ≤ rs4.length + 1 := h5 ▸ addR_len
      refine VS_pure (P_move rfl) rfl rfl rfl ?_
      refine VS_pure (P_extract rfl rfl) rfl rfl rfl ?_
      refine VS_pure (P_extract rfl rfl) rfl rfl rfl ?_
      refine VS_pure (P_assign rfl) rfl rfl rfl ?_
      refine VS_pure (P_assign rfl) rfl rfl rfl ?_
      refine VS_nil ?_
      refine QS_then ?_
      refine TS_seq ?_
      refine TS_seq ?_
      refine TS_region ?_
      refine VS_pure (P_move rfl) rfl rfl rfl ?_
      refine VS_pure (P_not rfl) rfl rfl rfl ?_
      refine VS_nil ?_
      refine QS_then ?_
      refine TS_false rfl ?_
      refine TS_skip ?_
      refine QS_then ?_
      refine TS_seq ?_
      refine TS_seq ?_
      refine TS_cut3 (α := Option Addr × Nat) (fun y => [(2, .slice A deck.length c), (3, .pointer (some ⟨b1, 0, none⟩)), (7, .int .i64 0), (8, .pointer (some ⟨b2, 0, none⟩)), (10, .slice y.1 rs4.length y.2), (11, .int .i64 (i : Nat)), (12, sV nm), (13, .int .i64 (k : Nat))]) (fun y => [own 38 3 y.1 (rs4).length y.2 ((rs4).flatMap reaC), cel b2 [sV f.name, iV f.least, iV f.most, iV f.copies, .slice A1 f.banned.length ca, .slice B1 f.single.length cb, iV f.at_] 51, cel b1 [.slice A0 b.cards.length c0, .slice F0 b.fmts.length k0] 25]) (fun _ => True) ?_ ?_
      · refine TS_region ?_
        refine VS_pure (P_fieldAddr0 fo51_4 rfl) rfl rfl rfl ?_
        refine VS_read (S_loadB sg26 rfl (.there (.here)) rfl) rfl rfl rfl ?_
        refine VS_pure (P_move rfl) rfl rfl rfl ?_
        refine VS_step (S_callR cl28 rfl (fun m' hm he => (C4 _ hm)) rfl ?_) rfl
        rintro _ rfl
        by_cases h : (k4 : Int) > 0
        · rw [decide_eq_true h] at h4
          refine VS_pure (dt (P_gtr rfl rfl) (by assumption)) rfl rfl rfl ?_
          refine VS_nil ?_
          refine QS_then ?_
          refine TS_true rfl ?_
          refine TS_region ?_
          iterate 3 (refine VS_pure (P_move rfl) rfl rfl rfl ?_)
          refine VS_pure (P_build zl38 pl38 rfl rfl) rfl rfl rfl ?_
          refine VS_step (S_buildSlice sl27 rfl rfl rfl rfl (fun b3 => ?_)) rfl
          refine VS_step (S_append sl27 rfl rfl rfl rfl (.here) (fun _ _ => (.there (.here))) rfl rfl (by first | omega | (simp only [maxLen]; omega)) (by omega) rfl (fun A2 c1 => ?_)) rfl
          refine VS_pure (P_assign rfl) rfl rfl rfl ?_
          refine VS_nil ?_
          obtain ⟨e1, e2⟩ := snocR rs ⟨4, nm, k⟩
          rw [show rs ++ [⟨4, nm, k⟩] = rs4 from h4] at e1 e2
          rw [← e1]
          refine QS_round (A2, c1) ⟨rfl, rfl, rfl, rfl, rfl, rfl, rfl, rfl, trivial⟩ ?_ trivial (by decide)
          rw [e2]
          exact .cons (.there .here) (.cons (.there .here) (.cons (.there .here) (.nil _)))
        · rw [decide_eq_false h, show addR rs ⟨4, nm, k⟩ false = rs from rfl] at h4
          subst h4
          refine VS_pure (df (P_gtr rfl rfl) (by assumption)) rfl rfl rfl ?_
          refine VS_nil ?_
          refine QS_then ?_
          refine TS_false rfl ?_
          refine TS_skip ?_
          exact QS_round (A', c') ⟨rfl, rfl, rfl, rfl, rfl, rfl, rfl, rfl, trivial⟩ (Pick.refl _) trivial (by decide)
      rintro ⟨A5, c5⟩ -
      dsimp only
      refine TS_seq ?_
      refine TS_seq ?_
      refine TS_cut3 (α := Option Addr × Nat) (fun y => [(2, .slice A deck.length c), (3, .pointer (some ⟨b1, 0, none⟩)), (7, .int .i64 0), (8, .pointer (some ⟨b2, 0, none⟩)), (10, .slice y.1 rs5.length y.2), (11, .int .i64 (i : Nat)), (12, sV nm), (13, .int .i64 (k : Nat))]) (fun y => [own 38 3 y.1 (rs5).length y.2 ((rs5).flatMap reaC), cel b2 [sV f.name, iV f.least, iV f.most, iV f.copies, .slice A1 f.banned.length ca, .slice B1 f.single.length cb, iV f.at_] 51, cel b1 [.slice A0 b.cards.length c0, .slice F0 b.fmts.length k0] 25]) (fun _ => True) ?_ ?_
      · refine TS_region ?_
        refine VS_pure (P_fieldAddr0 fo51_5 rfl) rfl rfl rfl ?_
        refine VS_read (S_loadB sg26 rfl (.there (.here)) rfl) rfl rfl rfl ?_
        refine VS_pure (P_move rfl) rfl rfl rfl ?_
        refine VS_step (S_callR cl28 rfl (fun m' hm he => (C5 _ hm)) rfl ?_) rfl
        rintro _ rfl
        by_cases h1 : (k : Int) > 1
        · by_cases h : (k5 : Int) > 0
          · rw [decide_eq_true h1, decide_eq_true h, Bool.and_true] at h5
            refine VS_pure (dt (P_gtr rfl rfl) (by assumption)) rfl rfl rfl ?_
            refine VS_pure (P_move rfl) rfl rfl rfl ?_
            refine VS_pure (P_move rfl) rfl rfl rfl ?_
            refine VS_pure (dt (P_gtr rfl rfl) (by assumption)) rfl rfl rfl ?_
            refine VS_pure (P_pick_t rfl rfl) rfl rfl rfl ?_
            refine VS_nil ?_
            refine QS_then ?_
            refine TS_true rfl ?_
            refine TS_region ?_
            iterate 3 (refine VS_pure (P_move rfl) rfl rfl rfl ?_)
            refine VS_pure (P_build zl38 pl38 rfl rfl) rfl rfl rfl ?_
            refine VS_step (S_buildSlice sl27 rfl rfl rfl rfl (fun b3 => ?_)) rfl
            refine VS_step (S_append sl27 rfl rfl rfl rfl (.here) (fun _ _ => (.there (.here))) rfl rfl (by first | omega | (simp only [maxLen]; omega)) (by omega) rfl (fun A2 c1 => ?_)) rfl
            refine VS_pure (P_assign rfl) rfl rfl rfl ?_
            refine VS_nil ?_
            obtain ⟨e1, e2⟩ := snocR rs4 ⟨5, nm, k⟩
            rw [show rs4 ++ [⟨5, nm, k⟩] = rs5 from h5] at e1 e2
            rw [← e1]
            refine QS_round (A2, c1) ⟨rfl, rfl, rfl, rfl, rfl, rfl, rfl, rfl, trivial⟩ ?_ trivial (by decide)
            rw [e2]
            exact .cons (.there .here) (.cons (.there .here) (.cons (.there .here) (.nil _)))
          · rw [decide_eq_false h, Bool.and_false, show addR rs4 ⟨5, nm, k⟩ false = rs4 from rfl] at h5
            subst h5
            refine VS_pure (df (P_gtr rfl rfl) (by assumption)) rfl rfl rfl ?_
            refine VS_pure (P_move rfl) rfl rfl rfl ?_
            refine VS_skip rfl rfl rfl ?_
            refine VS_skip rfl rfl rfl ?_
            refine VS_pure (P_pick_f rfl rfl) rfl rfl rfl ?_
            refine VS_nil ?_
            refine QS_then ?_
            refine TS_false rfl ?_
            refine TS_skip ?_
            exact QS_round (A5, c5) ⟨rfl, rfl, rfl, rfl, rfl, rfl, rfl, rfl, trivial⟩ (Pick.refl _) trivial (by decide)
        · rw [decide_eq_false h1, Bool.false_and, show addR rs4 ⟨5, nm, k⟩ false = rs4 from rfl] at h5
          subst h5
          by_cases h : (k5 : Int) > 0
          · refine VS_pure (dt (P_gtr rfl rfl) (by assumption)) rfl rfl rfl ?_
            refine VS_pure (P_move rfl) rfl rfl rfl ?_
            refine VS_pure (P_move rfl) rfl rfl rfl ?_
            refine VS_pure (df (P_gtr rfl rfl) (by assumption)) rfl rfl rfl ?_
            refine VS_pure (P_pick_t rfl rfl) rfl rfl rfl ?_
            refine VS_nil ?_
            refine QS_then ?_
            refine TS_false rfl ?_
            refine TS_skip ?_
            exact QS_round (A5, c5) ⟨rfl, rfl, rfl, rfl, rfl, rfl, rfl, rfl, trivial⟩ (Pick.refl _) trivial (by decide)
          · refine VS_pure (df (P_gtr rfl rfl) (by assumption)) rfl rfl rfl ?_
            refine VS_pure (P_move rfl) rfl rfl rfl ?_
            refine VS_skip rfl rfl rfl ?_
            refine VS_skip rfl rfl rfl ?_
            refine VS_pure (P_pick_f rfl rfl) rfl rfl rfl ?_
            refine VS_nil ?_
            refine QS_then ?_
            refine TS_false rfl ?_
            refine TS_skip ?_
            exact QS_round (A5, c5) ⟨rfl, rfl, rfl, rfl, rfl, rfl, rfl, rfl, trivial⟩ (Pick.refl _) trivial (by decide)
      rintro ⟨A6, c6⟩ -
      dsimp only
      by_cases h6 : (k : Int) > f.copies
      · rw [decide_eq_true h6] at hst0
        refine TS_seq ?_
        refine TS_region ?_
        refine VS_pure (P_move rfl) rfl rfl rfl ?_
        refine VS_pure (P_fieldAddr0 fo51_3 rfl) rfl rfl rfl ?_
        refine VS_read (S_loadB sg3 rfl (.there (.here)) rfl) rfl rfl rfl ?_
        refine VS_pure (dt (P_gtr rfl rfl) (by assumption)) rfl rfl rfl ?_
        refine VS_nil ?_
        refine QS_then ?_
        refine TS_true rfl ?_
        refine TS_region ?_
        iterate 3 (refine VS_pure (P_move rfl) rfl rfl rfl ?_)
        refine VS_pure (P_build zl38 pl38 rfl rfl) rfl rfl rfl ?_
        refine VS_step (S_buildSlice sl27 rfl rfl rfl rfl (fun b3 => ?_)) rfl
        refine VS_step (S_append sl27 rfl rfl rfl rfl (.here) (fun _ _ => (.there (.here))) rfl rfl (by first | omega | (simp only [maxLen]; omega)) (by omega) rfl (fun A2 c1 => ?_)) rfl
        refine VS_pure (P_assign rfl) rfl rfl rfl ?_
        refine VS_nil ?_
        refine QS_block ?_
        refine QS_then ?_
        refine TS_region ?_
        refine VS_pure (P_move rfl) rfl rfl rfl ?_
        refine VS_pure (P_add rfl rfl (w64 (by omega) (by omega))) rfl rfl rfl ?_
        refine VS_pure (P_assign rfl) rfl rfl rfl ?_
        refine VS_nil ?_
        obtain ⟨e1, e2⟩ := snocR rs5 ⟨6, nm, k⟩
        rw [show rs5 ++ [⟨6, nm, k⟩] = rsN from hst0.symm] at e1 e2
        rw [← e1]
        refine QS_round4 (Le.refl _) (i + 1) A2 c1 rsN ⟨rfl, rfl, rfl, rfl, rfl, rfl, trivial⟩ ?_ ⟨hlt, hnext.symm⟩ (by omega)
        rw [e2]
        exact .cons (.there .here) (.cons (.there .here) (.cons (.there .here) (.nil _)))
      · rw [decide_eq_false h6, show addR rs5 ⟨6, nm, k⟩ false = rs5 from rfl] at hst0
        subst hst0
        refine TS_seq ?_
        refine TS_region ?_
        refine VS_pure (P_move rfl) rfl rfl rfl ?_
        refine VS_pure (P_fieldAddr0 fo51_3 rfl) rfl rfl rfl ?_
        refine VS_read (S_loadB sg3 rfl (.there (.here)) rfl) rfl rfl rfl ?_
        refine VS_pure (df (P_gtr rfl rfl) (by assumption)) rfl rfl rfl ?_
        refine VS_nil ?_
        refine QS_then ?_
        refine TS_false rfl ?_
        refine TS_skip ?_
        refine QS_block ?_
        refine QS_then ?_
        refine TS_region ?_
        refine VS_pure (P_move rfl) rfl rfl rfl ?_
        refine VS_pure (P_add rfl rfl (w64 (by omega) (by omega))) rfl rfl rfl ?_
        refine VS_pure (P_assign rfl) rfl rfl rfl ?_
        refine VS_nil ?_
        exact QS_round4 (Le.refl _) (i + 1) A6 c6 rsN ⟨rfl, rfl, rfl, rfl, rfl, rfl, trivial⟩ (Pick.refl _) ⟨hlt, hnext.symm⟩ (by omega)
  · have hall : rs = reasons b f deck := by
      rw [hrs, List.take_of_length_le (by omega)]
      rfl
    rw [← hall] at hcp
    by_cases hz : rs.length = 0
    · rw [if_pos hz] at hcp
      refine TS_nilOwn 38 3 ?_
      refine TS_seq ?_
      refine TS_seq ?_
      refine TS_region ?_
      refine VS_pure (P_move rfl) rfl rfl rfl ?_
      refine VS_pure (P_move rfl) rfl rfl rfl ?_
      refine VS_pure (P_len il26 rfl) rfl rfl rfl ?_
      refine VS_pure (df (P_lss rfl rfl) (by omega)) rfl rfl rfl ?_
      refine VS_nil ?_
      refine QS_then ?_
      refine TS_false rfl ?_
      refine TS_exit ?_
      refine QS_then_exit ?_
      refine QS_round4_exit ?_
      refine QS_block_here ?_
      refine QS_then ?_
      refine TS_seq ?_
      refine TS_seq ?_
      refine TS_region ?_
      refine VS_pure (P_move rfl) rfl rfl rfl ?_
      refine VS_pure (P_len il27 rfl) rfl rfl rfl ?_
      refine VS_pure (df (P_gtr rfl rfl) (by omega)) rfl rfl rfl ?_
      refine VS_nil ?_
      refine QS_then ?_
      refine TS_false rfl ?_
      refine TS_skip ?_
      refine QS_then ?_
      refine TS_seq ?_
      refine TS_region ?_
      refine VS_pure (P_assign rfl) rfl rfl rfl ?_
      refine VS_pure (P_assign rfl) rfl rfl rfl ?_
      refine VS_nil ?_
      refine QS_then ?_
      refine TS_ret ?_
      rw [hcp]
      exact QS_ret [_, _] ⟨rfl, rfl, trivial⟩ [_] (.cons .here (.nil _)) ⟨none, 0, rfl, rfl⟩
    · rw [if_neg hz] at hcp
      refine TS_seq ?_
      refine TS_seq ?_
      refine TS_region ?_
      refine VS_pure (P_move rfl) rfl rfl rfl ?_
      refine VS_pure (P_move rfl) rfl rfl rfl ?_
      refine VS_pure (P_len il26 rfl) rfl rfl rfl ?_
      refine VS_pure (df (P_lss rfl rfl) (by omega)) rfl rfl rfl ?_
      refine VS_nil ?_
      refine QS_then ?_
      refine TS_false rfl ?_
      refine TS_exit ?_
      refine QS_then_exit ?_
      refine QS_round4_exit ?_
      refine QS_block_here ?_
      refine QS_then ?_
      refine TS_seq ?_
      refine TS_seq ?_
      refine TS_region ?_
      refine VS_pure (P_move rfl) rfl rfl rfl ?_
      refine VS_pure (P_len il27 rfl) rfl rfl rfl ?_
      refine VS_pure (dt (P_gtr rfl rfl) (by omega)) rfl rfl rfl ?_
      refine VS_nil ?_
      refine QS_then ?_
      refine TS_true rfl ?_
      refine TS_seq ?_
      refine TS_region ?_
      refine VS_pure (P_move rfl) rfl rfl rfl ?_
      refine VS_pure (P_assign rfl) rfl rfl rfl ?_
      refine VS_pure (P_assign rfl) rfl rfl rfl ?_
      refine VS_nil ?_
      refine QS_then ?_
      refine TS_ret ?_
      refine QS_then_ret ?_
      rw [hcp]
      exact QS_ret [_, _] ⟨rfl, rfl, trivial⟩ [_] (.cons .here (.nil _)) ⟨A', c', rfl, rfl⟩
end Go.Proofs.YtccleakfgmcjpaaDoor
