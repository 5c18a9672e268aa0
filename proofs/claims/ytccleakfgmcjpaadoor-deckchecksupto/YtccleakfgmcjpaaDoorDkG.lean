/- A part of the proof: contracts of functions of the program. No condition. -/
import Derived.Test.YtccleakfgmcjpaaDoorDkF
namespace Go.Proofs.YtccleakfgmcjpaaDoor
open Go.Eng Dk
set_option maxRecDepth 100000
def CheckPost (r : List Rea × Int) (v : Value) (L' : List Ent) : Prop := ∃ A2 c2, v = .tuple [.slice A2 r.1.length c2, .int .i64 r.2].toArray ∧ L' = [own 38 3 A2 r.1.length c2 (r.1.flatMap reaC)]
theorem fmt_bound {m : Mp} {bv : List Value} {b : BkT} {f : FmtT} (hb : BkR m bv b) (hm : f ∈ b.fmts) : f.banned.length ≤ 8796093022208 ∧ f.single.length ≤ 8796093022208 := by
  obtain ⟨_, _, _, _, _, _, _, vs, _, _, h⟩ := hb
  obtain ⟨i, hi, rfl⟩ := List.getElem_of_mem hm
  obtain ⟨_, _, _, _, _, h1, h2⟩ := h i hi
  exact ⟨h1.2, h2.2⟩
set_option maxHeartbeats 32000000 in
theorem Check_ok {m : Mp} {bv : List Value} {b : BkT} (hb : BkR m bv b) (fm : List UInt8) {A : Option Addr} {c : Nat} {deck : List (List UInt8)} (hd : StrsR m A deck) (hdl : deck.length ≤ 300) : CS Tryd.prog 9 [.agg bv.toArray, sV fm, .slice A deck.length c] m [] (CheckPost (checkP b fm deck)) := by
  have hb0 := hb
  obtain ⟨A0, c0, F0, k0, rfl, _⟩ := hb
  refine CS_of [.cell 6 27, .tmp 7] Tryd.func9 rfl rfl rfl ?_
  refine TS_nilOwn 38 3 ?_
  refine TS_seq ?_
  refine TS_region ?_
  refine VS_step (S_box rfl rfl (fun b1 => ?_)) rfl
  refine VS_step (S_alloc zl27 rfl (fun b2 => ?_)) rfl
  refine VS_pure (P_assign rfl) rfl rfl rfl ?_
  refine VS_nil ?_
  refine QS_then ?_
  refine TS_seq ?_
  refine TS_region ?_
  refine VS_read (S_loadBA ag25 rfl (.there (.here)) rfl) rfl rfl rfl ?_
  refine VS_pure (P_move rfl) rfl rfl rfl ?_
  refine VS_step ((S_call cl22 rfl (fun m' hm he => Format_ok (hb0.mono hm) fm) rfl ?_)) rfl
  rintro _ _ (⟨hf, rfl, A1, ca, B1, cb, rfl⟩ | ⟨f, A1, ca, B1, cb, hf, hmem, rfl, rfl⟩)
  · refine VS_pure (P_move rfl) rfl rfl rfl ?_
    refine VS_pure (P_extract rfl rfl) rfl rfl rfl ?_
    refine VS_pure (P_extract rfl rfl) rfl rfl rfl ?_
    refine VS_step (S_alloc zl51 rfl (fun b3 => ?_)) rfl
    refine VS_step (S_storeAgg ag51 rfl rfl rfl (.here) rfl rfl ?_) rfl
    refine VS_pure (P_assign rfl) rfl rfl rfl ?_
    refine VS_nil ?_
    refine QS_then ?_
    refine TS_seq ?_
    refine TS_seq ?_
    refine TS_region ?_
    refine VS_pure (P_move rfl) rfl rfl rfl ?_
    refine VS_pure (P_not rfl) rfl rfl rfl ?_
    refine VS_nil ?_
    refine QS_then ?_
    refine TS_true rfl ?_
    refine TS_seq ?_
    refine TS_region ?_
    refine VS_step (S_store co27 rfl rfl rfl (.there (.here)) (.here) ?_) rfl
    refine VS_pure (P_assign rfl) rfl rfl rfl ?_
    refine VS_nil ?_
    refine QS_then ?_
    refine TS_ret ?_
    refine QS_then_ret ?_
    exact QS_ret [_, _] ⟨⟨_, _, _, _, rfl, .there .here, .inl ⟨sg27, rfl⟩⟩, rfl, trivial⟩ [_] (.cons (.there (.there (.there .here))) (.nil _)) ⟨none, 0, by unfold checkP; rw [hf]; rfl, by unfold checkP; rw [hf]; rfl⟩
  have hcp : checkP b fm deck = if (reasons b f deck).length = 0 then ([], 0) else (reasons b f deck, 292) := by unfold checkP; rw [hf]
  refine VS_pure (P_move rfl) rfl rfl rfl ?_
  refine VS_pure (P_extract rfl rfl) rfl rfl rfl ?_
  refine VS_pure (P_extract rfl rfl) rfl rfl rfl ?_
  refine VS_step (S_alloc zl51 rfl (fun b3 => ?_)) rfl
  refine VS_step (S_storeAgg ag51 rfl rfl rfl (.here) rfl rfl ?_) rfl
  refine VS_pure (P_assign rfl) rfl rfl rfl ?_
  refine VS_nil ?_
  refine QS_then ?_
  refine TS_seq ?_
  refine TS_seq ?_
  refine TS_region ?_
  refine VS_pure (P_move rfl) rfl rfl rfl ?_
  refine VS_pure (P_not rfl) rfl rfl rfl ?_
  refine VS_nil ?_
  refine QS_then ?_
  refine TS_false rfl ?_
  refine TS_skip ?_
  refine QS_then ?_
  refine TS_seq ?_
  refine TS_region ?_
  refine VS_pure (P_makeFunc rfl rfl) rfl rfl rfl ?_
  refine VS_pure (P_assign rfl) rfl rfl rfl ?_
  refine VS_nil ?_
  refine QS_then ?_
  refine TS_seq ?_
  refine TS_region ?_
  refine VS_pure (P_move rfl) rfl rfl rfl ?_
  refine VS_pure (P_len il26 rfl) rfl rfl rfl ?_
  refine VS_pure (P_assign rfl) rfl rfl rfl ?_
  refine VS_nil ?_
  refine QS_then ?_
  refine TS_seq ?_
  refine TS_cut (α := Option Addr × Nat) (fun _ => [(2, .slice A deck.length c), (3, .pointer (some ⟨b1, 0, none⟩)), (6, .pointer (some ⟨b2, 0, none⟩)), (7, .int .i64 0), (8, .pointer (some ⟨b3, 0, none⟩)), (10, .func (.func 23) [].toArray [.pointer (some ⟨b2, 0, none⟩)].toArray), (11, .int .i64 (deck.length : Nat))]) (fun y => [cel b2 [.slice y.1 (addR [] ⟨1, [], deck.length⟩ (decide ((deck.length : Int) < f.least))).length y.2] 27, own 38 3 y.1 (addR [] ⟨1, [], deck.length⟩ (decide ((deck.length : Int) < f.least))).length y.2 ((addR [] ⟨1, [], deck.length⟩ (decide ((deck.length : Int) < f.least))).flatMap reaC), cel b3 [sV f.name, iV f.least, iV f.most, iV f.copies, .slice A1 f.banned.length ca, .slice B1 f.single.length cb, iV f.at_] 51, own 9 1 A1 f.banned.length ca (f.banned.map sV), own 9 1 B1 f.single.length cb (f.single.map sV), cel b1 [.slice A0 b.cards.length c0, .slice F0 b.fmts.length k0] 25]) (fun _ => True) ?_ ?_
  · by_cases hL : (deck.length : Int) < f.least
    · rw [decide_eq_true hL]
      refine TS_region ?_
      iterate 3 (refine VS_pure (P_move rfl) rfl rfl rfl ?_)
      refine VS_pure (P_fieldAddr0 fo51_1 rfl) rfl rfl rfl ?_
      refine VS_read (S_loadB sg3 rfl (.here) rfl) rfl rfl rfl ?_
      refine VS_pure (dt (P_lss rfl rfl) (by assumption)) rfl rfl rfl ?_
      refine VS_step ((S_callVL (p := []) (q := [.pointer (some ⟨b2, 0, none⟩)]) cl23 rfl rfl (.cons (.there (.there (.there .here))) (.cons (.there (.there (.there (.there .here)))) .nil)) (fun m' hm he => tell_ok (rs := []) (by decide) ⟨1, [], deck.length⟩ true) rfl ?_)) rfl
      rintro _ _ ⟨rfl, A5, c5, rfl⟩
      refine VS_nil ?_
      exact QS_round (A5, c5) ⟨rfl, rfl, rfl, rfl, rfl, rfl, rfl, trivial⟩ (Pick.refl _) trivial (by decide)
    · rw [decide_eq_false hL]
      refine TS_region ?_
      iterate 3 (refine VS_pure (P_move rfl) rfl rfl rfl ?_)
      refine VS_pure (P_fieldAddr0 fo51_1 rfl) rfl rfl rfl ?_
      refine VS_read (S_loadB sg3 rfl (.here) rfl) rfl rfl rfl ?_
      refine VS_pure (df (P_lss rfl rfl) (by assumption)) rfl rfl rfl ?_
      refine VS_step ((S_callVL (p := []) (q := [.pointer (some ⟨b2, 0, none⟩)]) cl23 rfl rfl (.cons (.there (.there (.there .here))) (.cons (.there (.there (.there (.there .here)))) .nil)) (fun m' hm he => tell_ok (rs := []) (by decide) ⟨1, [], deck.length⟩ false) rfl ?_)) rfl
      rintro _ _ ⟨rfl, A5, c5, rfl⟩
      refine VS_nil ?_
      exact QS_round (A5, c5) ⟨rfl, rfl, rfl, rfl, rfl, rfl, rfl, trivial⟩ (Pick.refl _) trivial (by decide)
  rintro y -
  have hr1 : (addR [] ⟨1, [], deck.length⟩ (decide ((deck.length : Int) < f.least))).length ≤ 4000 := Nat.le_trans addR_len (by decide)
  have hb0' : base0 f deck.length = addR (addR [] ⟨1, [], deck.length⟩ (decide ((deck.length : Int) < f.least))) ⟨2, [], deck.length⟩ (decide ((deck.length : Int) > f.most) || decide ((deck.length : Int) > 60)) := rfl
  generalize addR [] ⟨1, [], deck.length⟩ (decide ((deck.length : Int) < f.least)) = rs1 at hr1 hb0' ⊢
  refine TS_seq ?_
  refine TS_cut (α := Option Addr × Nat) (fun _ => [(2, .slice A deck.length c), (3, .pointer (some ⟨b1, 0, none⟩)), (6, .pointer (some ⟨b2, 0, none⟩)), (7, .int .i64 0), (8, .pointer (some ⟨b3, 0, none⟩)), (10, .func (.func 23) [].toArray [.pointer (some ⟨b2, 0, none⟩)].toArray), (11, .int .i64 (deck.length : Nat))]) (fun y => [cel b2 [.slice y.1 (base0 f deck.length).length y.2] 27, own 38 3 y.1 (base0 f deck.length).length y.2 ((base0 f deck.length).flatMap reaC), cel b3 [sV f.name, iV f.least, iV f.most, iV f.copies, .slice A1 f.banned.length ca, .slice B1 f.single.length cb, iV f.at_] 51, own 9 1 A1 f.banned.length ca (f.banned.map sV), own 9 1 B1 f.single.length cb (f.single.map sV), cel b1 [.slice A0 b.cards.length c0, .slice F0 b.fmts.length k0] 25]) (fun _ => True) ?_ ?_
  · by_cases hM : (deck.length : Int) > f.most
    · rw [decide_eq_true hM, Bool.true_or] at hb0'
      refine TS_region ?_
      iterate 3 (refine VS_pure (P_move rfl) rfl rfl rfl ?_)
      refine VS_pure (P_fieldAddr0 fo51_2 rfl) rfl rfl rfl ?_
      refine VS_read (S_loadB sg3 rfl (.there (.there (.here))) rfl) rfl rfl rfl ?_
      refine VS_pure (dt (P_gtr rfl rfl) (by assumption)) rfl rfl rfl ?_
      refine VS_pure (P_move rfl) rfl rfl rfl ?_
      refine VS_skip rfl rfl rfl ?_
      refine VS_skip rfl rfl rfl ?_
      refine VS_pure (P_pick_t rfl rfl) rfl rfl rfl ?_
      refine VS_step ((S_callVL (p := []) (q := [.pointer (some ⟨b2, 0, none⟩)]) cl23 rfl rfl (.cons .here (.cons .here .nil)) (fun m' hm he => tell_ok hr1 ⟨2, [], deck.length⟩ true) rfl ?_)) rfl
      rintro _ _ ⟨rfl, A5, c5, rfl⟩
      refine VS_nil ?_
      rw [hb0']
      exact QS_round (A5, c5) ⟨rfl, rfl, rfl, rfl, rfl, rfl, rfl, trivial⟩ (Pick.refl _) trivial (by decide)
    · rw [decide_eq_false hM, Bool.false_or] at hb0'
      by_cases h60 : (deck.length : Int) > 60
      · rw [decide_eq_true h60] at hb0'
        refine TS_region ?_
        iterate 3 (refine VS_pure (P_move rfl) rfl rfl rfl ?_)
        refine VS_pure (P_fieldAddr0 fo51_2 rfl) rfl rfl rfl ?_
        refine VS_read (S_loadB sg3 rfl (.there (.there (.here))) rfl) rfl rfl rfl ?_
        refine VS_pure (df (P_gtr rfl rfl) (by assumption)) rfl rfl rfl ?_
        refine VS_pure (P_move rfl) rfl rfl rfl ?_
        refine VS_pure (P_move rfl) rfl rfl rfl ?_
        refine VS_pure (dt (P_gtr rfl rfl) (by assumption)) rfl rfl rfl ?_
        refine VS_pure (P_pick_f rfl rfl) rfl rfl rfl ?_
        refine VS_step ((S_callVL (p := []) (q := [.pointer (some ⟨b2, 0, none⟩)]) cl23 rfl rfl (.cons .here (.cons .here .nil)) (fun m' hm he => tell_ok hr1 ⟨2, [], deck.length⟩ true) rfl ?_)) rfl
        rintro _ _ ⟨rfl, A5, c5, rfl⟩
        refine VS_nil ?_
        rw [hb0']
        exact QS_round (A5, c5) ⟨rfl, rfl, rfl, rfl, rfl, rfl, rfl, trivial⟩ (Pick.refl _) trivial (by decide)
      · rw [decide_eq_false h60] at hb0'
        refine TS_region ?_
        iterate 3 (refine VS_pure (P_move rfl) rfl rfl rfl ?_)
        refine VS_pure (P_fieldAddr0 fo51_2 rfl) rfl rfl rfl ?_
        refine VS_read (S_loadB sg3 rfl (.there (.there (.here))) rfl) rfl rfl rfl ?_
        refine VS_pure (df (P_gtr rfl rfl) (by assumption)) rfl rfl rfl ?_
        refine VS_pure (P_move rfl) rfl rfl rfl ?_
        refine VS_pure (P_move rfl) rfl rfl rfl ?_
        refine VS_pure (df (P_gtr rfl rfl) (by assumption)) rfl rfl rfl ?_
        refine VS_pure (P_pick_f rfl rfl) rfl rfl rfl ?_
        refine VS_step ((S_callVL (p := []) (q := [.pointer (some ⟨b2, 0, none⟩)]) cl23 rfl rfl (.cons .here (.cons .here .nil)) (fun m' hm he => tell_ok hr1 ⟨2, [], deck.length⟩ false) rfl ?_)) rfl
        rintro _ _ ⟨rfl, A5, c5, rfl⟩
        refine VS_nil ?_
        rw [hb0']
        exact QS_round (A5, c5) ⟨rfl, rfl, rfl, rfl, rfl, rfl, rfl, trivial⟩ (Pick.refl _) trivial (by decide)
  rintro ⟨A6, c6⟩ -
  dsimp only
  refine TS_seq ?_
  refine TS_seq ?_
  refine TS_region ?_
  refine VS_pure (P_move rfl) rfl rfl rfl ?_
  refine VS_step ((S_call cl24 rfl (fun m' hm he => piles_ok (c := c) (hd.mono hm) hdl) rfl ?_)) rfl
  rintro _ _ ⟨ps, A2, c2, hps, rfl, rfl⟩
  have hrs0 : (base0 f deck.length).length ≤ 2 := base0_len
  have hpl : ps.length ≤ 300 := by
    have h1 : (ps.map (·.name)).length = (firsts deck).length := by rw [hps.1]
    rw [List.length_map] at h1
    have := firsts_len deck
    omega
  refine VS_pure (P_len il55 rfl) rfl rfl rfl ?_
  refine VS_pure (P_move rfl) rfl rfl rfl ?_
  refine VS_nil ?_
  refine QS_then ?_
  refine TS_block ?_
  refine TS_absorb .here (fun n1 hi1 hs1 hd1 => ?_)
  refine TS_absorb .here (fun n2 hi2 hs2 hd2 => ?_)
  refine TS_absorb (.there (.there .here)) (fun n3 hi3 hs3 hd3 => ?_)
  refine TS_absorb (.there (.there .here)) (fun n4 hi4 hs4 hd4 => ?_)
  refine TS_absorb (.there (.there .here)) (fun n5 hi5 hs5 hd5 => ?_)
  refine TS_absorb (.there (.there .here)) (fun n6 hi6 hs6 hd6 => ?_)
  have hle : Le m (uni (uni (uni (uni (uni (uni m n1) n2) n3) n4) n5) n6) := (uni_l m n1).trans ((uni_l _ n2).trans ((uni_l _ n3).trans ((uni_l _ n4).trans ((uni_l _ n5).trans (uni_l _ n6)))))
  have hptr : Rd (uni (uni (uni (uni (uni (uni m n1) n2) n3) n4) n5) n6) A2 (ps.map pptr) := (Eng.Own.rd hi1).mono ((uni_r hd1).trans ((uni_l _ n2).trans ((uni_l _ n3).trans ((uni_l _ n4).trans ((uni_l _ n5).trans (uni_l _ n6))))))
  have hpile : ∀ p ∈ ps, At (uni (uni (uni (uni (uni (uni m n1) n2) n3) n4) n5) n6) ⟨p.blk, 0, none⟩ [sV p.name, iV p.n] := fun p hp => (At.blk (show n2 p.blk = some (.cells _ 61 (0, 0)) from hi2.1 _ (List.mem_map.2 ⟨p, hp, rfl⟩))).mono ((uni_r hd2).trans ((uni_l _ n3).trans ((uni_l _ n4).trans ((uni_l _ n5).trans (uni_l _ n6)))))
  have hfm : At (uni (uni (uni (uni (uni (uni m n1) n2) n3) n4) n5) n6) ⟨b3, 0, none⟩ [sV f.name, iV f.least, iV f.most, iV f.copies, .slice A1 f.banned.length ca, .slice B1 f.single.length cb, iV f.at_] := (At.blk (show n3 b3 = some (.cells _ 51 (0, 0)) from hi3)).mono ((uni_r hd3).trans ((uni_l _ n4).trans ((uni_l _ n5).trans (uni_l _ n6))))
  obtain ⟨hbl1, hbl2⟩ := fmt_bound hb0 hmem
  have hban : StrsR (uni (uni (uni (uni (uni (uni m n1) n2) n3) n4) n5) n6) A1 f.banned := ⟨(Eng.Own.rd hi4).mono ((uni_r hd4).trans ((uni_l _ n5).trans (uni_l _ n6))), hbl1⟩
  have hsin : StrsR (uni (uni (uni (uni (uni (uni m n1) n2) n3) n4) n5) n6) B1 f.single := ⟨(Eng.Own.rd hi5).mono ((uni_r hd5).trans (uni_l _ n6)), hbl2⟩
  have hbk : At (uni (uni (uni (uni (uni (uni m n1) n2) n3) n4) n5) n6) ⟨b1, 0, none⟩ [.slice A0 b.cards.length c0, .slice F0 b.fmts.length k0] := (At.blk (show n6 b1 = some (.cells _ 25 (0, 0)) from hi6)).mono (uni_r hd6)
  have hbM := hb0.mono hle
  generalize uni (uni (uni (uni (uni (uni m n1) n2) n3) n4) n5) n6 = M at hle hptr hpile hfm hban hsin hbk hbM ⊢
  have hf1 : mc M ⟨b3, 3, none⟩ = some (iV f.copies) := hfm.at_ (o := 3) rfl
  have hf4 : mc M ⟨b3, 4, none⟩ = some (.slice A1 f.banned.length ca) := hfm.at_ (o := 4) rfl
  have hf5 : mc M ⟨b3, 5, none⟩ = some (.slice B1 f.single.length cb) := hfm.at_ (o := 5) rfl
  clear hfm
  clear hi1 hi2 hi3 hi4 hi5 hi6 hd1 hd2 hd3 hd4 hd5 hd6 hs1 hs2 hs3 hs4 hs5 hs6
  clear n1 n2 n3 n4 n5 n6 hb0' hr1
  refine TS_loop4 (β := List Rea) (fun i A' c' rs => [(2, .slice A deck.length c), (3, .pointer (some ⟨b1, 0, none⟩)), (6, .pointer (some ⟨b2, 0, none⟩)), (7, .int .i64 0), (8, .pointer (some ⟨b3, 0, none⟩)), (10, .func (.func 23) [].toArray [.pointer (some ⟨b2, 0, none⟩)].toArray), (11, .int .i64 (deck.length : Nat)), (46, .slice A2 ps.length c2), (47, .int .i64 (ps.length : Nat)), (48, .int .i64 (i : Nat))]) (fun i A' c' rs => [cel b2 [.slice A' rs.length c'] 27, own 38 3 A' rs.length c' (rs.flatMap reaC)]) (fun i rs => i ≤ ps.length ∧ rs = ((firsts deck).take i).foldl (stepR b f deck) (base0 f deck.length)) (fun i => ps.length - i) 0 A6 c6 (base0 f deck.length) ⟨rfl, rfl, rfl, rfl, rfl, rfl, rfl, rfl, rfl, rfl, trivial⟩ (.cons .here (.cons .here (.nil _))) ⟨Nat.zero_le _, rfl⟩ ?_
  rintro i A' c' rs ⟨hi, hrs⟩
  try dsimp only at hrs ⊢
  have hpl2 : ps.length = (firsts deck).length := by rw [← hps.1, List.length_map]
  have hrl : rs.length ≤ 2 + 3 * i := by
    rw [hrs]
    refine Nat.le_trans foldl_len ?_
    simp
    omega
  by_cases hlt : i < ps.length
  · have hA : A2.isSome = true := hptr.isSome (by simp; omega)
    have hp1 : mc M ((sa A2).add i) = some (pptr ps[i]) := hptr.at_ (by simp [hlt])
    have hpm := List.getElem_mem hlt
    have hp2 := hpile _ hpm
    have hk := hps.2 _ hpm
    have hnm : ps[i].name = (firsts deck)[i]'(by omega) := by
      have := congrArg (fun l => l[i]?) hps.1
      simpa [hlt, show i < (firsts deck).length by omega] using this
    have hnext : ((firsts deck).take (i + 1)).foldl (stepR b f deck) (base0 f deck.length) = stepR b f deck rs ps[i].name := by
      rw [List.take_add_one, List.getElem?_eq_getElem (by omega), Option.toList_some, List.foldl_append, ← hrs, hnm]
      rfl
    have hk2 : ps[i].n ≤ 300 := by rw [hk]; exact Nat.le_trans count_le hdl
    generalize ps[i] = p at hp1 hp2 hk hk2 hnext
    obtain ⟨nm, bl, k⟩ := p
    dsimp only at hp1 hp2 hk hk2 hnext
    unfold pptr at hp1
    dsimp only at hp1
    have hq0 : mc M ⟨bl, 0, none⟩ = some (sV nm) := hp2.at_ (o := 0) rfl
    have hq1 : mc M ⟨bl, 1, none⟩ = some (iV k) := hp2.at_ (o := 1) rfl
    clear hp2
    refine TS_seq ?_
    refine TS_region ?_
    refine VS_pure (dt (P_lss rfl rfl) (by omega)) rfl rfl rfl ?_
    refine VS_nil ?_
    refine QS_then ?_
    refine TS_seq ?_
    refine TS_true rfl ?_
    refine TS_skip ?_
    refine QS_then ?_
    refine TS_seq ?_
    refine TS_block ?_
    refine TS_seq ?_
    refine TS_region ?_
    refine VS_pure (P_indexAddr1N ez55 rfl rfl hA (by omega)) rfl rfl rfl ?_
    refine VS_read (S_load sg57 rfl hp1) rfl rfl rfl ?_
    refine VS_pure (P_assign rfl) rfl rfl rfl ?_
    refine VS_nil ?_
    refine QS_then ?_
    refine TS_seq ?_
    refine TS_seq ?_
    refine TS_draw (.step 1 .pure (.step 2 .pure (.step 3 .pure (.step 0 .read (.step 4 .read (.step 5 .kept (.step 6 .pure (.step 7 .pure (.step 8 .pure (.step 9 .pure (.step 10 .pure (.done)))))))))))) mixed (by kernel_rfl) (fun _ _ _ _ hq => hq) ?_
    refine VTS_pure rfl (P_move rfl) rfl rfl rfl ?_
    refine VTS_pure rfl (P_nilCheck rfl) rfl rfl rfl ?_
    refine VTS_pure rfl (P_fieldAddr0 fo61_0 rfl) rfl rfl rfl ?_
    refine VTS_read rfl (S_loadAt ag25 rfl rfl hbk) rfl rfl rfl ?_
    refine VTS_read rfl (S_load sg9 rfl hq0) rfl rfl rfl ?_
    refine VTS_kept rfl (S_callR cl25 rfl (fun m' hm he => (Find_ok (hbM.mono hm) nm)) rfl ?_) rfl
    rintro _ rfl
    cases hkn : (ix nm (names b)).isSome with
    | false =>
      refine VTS_pure rfl (P_move rfl) rfl rfl rfl ?_
      refine VTS_pure rfl (P_extract rfl rfl) rfl rfl rfl ?_
      refine VTS_pure rfl (P_extract rfl rfl) rfl rfl rfl ?_
      refine VTS_pure rfl (P_assign rfl) rfl rfl rfl ?_
      refine VTS_pure rfl (P_assign rfl) rfl rfl rfl ?_
      refine VTS_nil ?_
      refine QS_then ?_
      refine TS_seq ?_
      refine TS_region ?_
      refine VS_pure (P_move rfl) rfl rfl rfl ?_
      refine VS_pure (P_not rfl) rfl rfl rfl ?_
      refine VS_nil ?_
      refine QS_then ?_
      refine TS_true rfl ?_
      refine TS_seq ?_
      refine TS_draw (.step 0 .pure (.step 1 .pure (.step 2 .pure (.step 3 .pure (.step 5 .pure (.step 6 .pure (.step 7 .pure (.step 4 .read (.step 8 .read (.step 9 .wild (.done))))))))))) mixed (by kernel_rfl) (fun _ _ _ _ hq => hq) ?_
      refine VTS_pure rfl (P_move rfl) rfl rfl rfl ?_
      refine VTS_pure rfl (P_move rfl) rfl rfl rfl ?_
      refine VTS_pure rfl (P_nilCheck rfl) rfl rfl rfl ?_
      refine VTS_pure rfl (P_fieldAddr0 fo61_0 rfl) rfl rfl rfl ?_
      refine VTS_pure rfl (P_move rfl) rfl rfl rfl ?_
      refine VTS_pure rfl (P_nilCheck rfl) rfl rfl rfl ?_
      refine VTS_pure rfl (P_fieldAddr0 fo61_1 rfl) rfl rfl rfl ?_
      refine VTS_read rfl (S_load sg9 rfl hq0) rfl rfl rfl ?_
      refine VTS_read rfl (S_load sg3 rfl hq1) rfl rfl rfl ?_
      refine VTS_wild rfl rfl ((S_callVL (p := []) (q := [.pointer (some ⟨b2, 0, none⟩)]) cl23 rfl rfl (.cons .here (.cons .here .nil)) (fun m' hm he => tell_ok (rs := rs) (by omega) ⟨3, nm, k⟩ true) rfl ?_)) rfl
      rintro _ _ ⟨rfl, A5, c5, rfl⟩
      refine VTS_nil ?_
      refine QS_then ?_
      refine TS_exit ?_
      refine QS_then_exit ?_
      refine QS_block_here ?_
      refine QS_then ?_
      refine TS_region ?_
      refine VS_pure (P_add rfl rfl (w64 (by omega) (by omega))) rfl rfl rfl ?_
      refine VS_pure (P_move rfl) rfl rfl rfl ?_
      refine VS_nil ?_
      have hst : stepR b f deck rs nm = addR rs ⟨3, nm, k⟩ true := by
        unfold stepR
        rw [if_neg (by rw [hkn]; decide), ← hk]
        rfl
      refine QS_round4 (Le.refl _) (i + 1) A5 c5 (stepR b f deck rs nm) ⟨rfl, rfl, rfl, rfl, rfl, rfl, rfl, rfl, rfl, rfl, trivial⟩ ?_ ⟨hlt, hnext.symm⟩ (by omega)
      rw [hst]
      exact .cons .here (.cons .here (.nil _))
    | true =>
      have hst : stepR b f deck rs nm = addR (addR (addR rs ⟨4, nm, k⟩ (ix nm f.banned).isSome) ⟨5, nm, k⟩ (decide ((k : Int) > 1) && (ix nm f.single).isSome)) ⟨6, nm, k⟩ (decide ((k : Int) > f.copies)) := by
        unfold stepR
        rw [if_pos hkn, ← hk]
      have hl4 : (addR rs ⟨4, nm, k⟩ (ix nm f.banned).isSome).length ≤ rs.length + 1 := addR_len
      refine VTS_pure rfl (P_move rfl) rfl rfl rfl ?_
      refine VTS_pure rfl (P_extract rfl rfl) rfl rfl rfl ?_
      refine VTS_pure rfl (P_extract rfl rfl) rfl rfl rfl ?_
      refine VTS_pure rfl (P_assign rfl) rfl rfl rfl ?_
      refine VTS_pure rfl (P_assign rfl) rfl rfl rfl ?_
      refine VTS_nil ?_
      refine QS_then ?_
      refine TS_seq ?_
      refine TS_region ?_
      refine VS_pure (P_move rfl) rfl rfl rfl ?_
      refine VS_pure (P_not rfl) rfl rfl rfl ?_
      refine VS_nil ?_
      refine QS_then ?_
      refine TS_false rfl ?_
      refine TS_skip ?_
      refine QS_then ?_
      refine TS_seq ?_
      refine TS_draw (.step 0 .pure (.step 1 .pure (.step 2 .pure (.step 3 .pure (.step 5 .pure (.step 6 .pure (.step 7 .pure (.step 9 .pure (.step 11 .pure (.step 12 .pure (.step 13 .pure (.step 4 .read (.step 8 .read (.step 10 .read (.step 14 .read (.step 15 .kept (.step 16 .wild (.done)))))))))))))))))) mixed (by kernel_rfl) (fun _ _ _ _ hq => hq) ?_
      refine VTS_pure rfl (P_move rfl) rfl rfl rfl ?_
      refine VTS_pure rfl (P_move rfl) rfl rfl rfl ?_
      refine VTS_pure rfl (P_nilCheck rfl) rfl rfl rfl ?_
      refine VTS_pure rfl (P_fieldAddr0 fo61_0 rfl) rfl rfl rfl ?_
      refine VTS_pure rfl (P_move rfl) rfl rfl rfl ?_
      refine VTS_pure rfl (P_nilCheck rfl) rfl rfl rfl ?_
      refine VTS_pure rfl (P_fieldAddr0 fo61_1 rfl) rfl rfl rfl ?_
      refine VTS_pure rfl (P_fieldAddr0 fo51_4 rfl) rfl rfl rfl ?_
      refine VTS_pure rfl (P_move rfl) rfl rfl rfl ?_
      refine VTS_pure rfl (P_nilCheck rfl) rfl rfl rfl ?_
      refine VTS_pure rfl (P_fieldAddr0 fo61_0 rfl) rfl rfl rfl ?_
      refine VTS_read rfl (S_load sg9 rfl hq0) rfl rfl rfl ?_
      refine VTS_read rfl (S_load sg3 rfl hq1) rfl rfl rfl ?_
      refine VTS_read rfl (S_load sg26 rfl hf4) rfl rfl rfl ?_
      refine VTS_read rfl (S_load sg9 rfl hq0) rfl rfl rfl ?_
      refine VTS_kept rfl (S_callR cl26 rfl (fun m' hm he => (Contains_ok (c := ca) (hban.mono hm) nm)) rfl ?_) rfl
      rintro _ rfl
      skip
      refine VTS_wild rfl rfl ((S_callVL (p := []) (q := [.pointer (some ⟨b2, 0, none⟩)]) cl23 rfl rfl (.cons .here (.cons .here .nil)) (fun m' hm he => tell_ok (rs := rs) (by omega) ⟨4, nm, k⟩ (ix nm f.banned).isSome) rfl ?_)) rfl
      rintro _ _ ⟨rfl, A5, c5, rfl⟩
      generalize addR rs ⟨4, nm, k⟩ (ix nm f.banned).isSome = rs4 at hst hl4 ⊢
      by_cases h1 : (k : Int) > 1
      · rw [decide_eq_true h1, Bool.true_and] at hst
        have hl5 : (addR rs4 ⟨5, nm, k⟩ (ix nm f.single).isSome).length ≤ rs4.length + 1 := addR_len
        refine VTS_nil ?_
        refine QS_then ?_
        refine TS_seq ?_
        refine TS_draw (.step 0 .pure (.step 1 .pure (.step 2 .pure (.step 3 .pure (.step 5 .pure (.step 6 .pure (.step 7 .pure (.step 9 .pure (.step 10 .pure (.step 11 .pure (.step 4 .read (.step 8 .read (.step 12 .read (.step 13 .pure (.step 14 .pure (.step 15 .pure (.step 17 .pure (.step 18 .pure (.step 19 .pure (.step 16 .read (.step 20 .read (.step 21 .kept (.step 22 .pure (.step 23 .wild (.done))))))))))))))))))))))))) mixed (by kernel_rfl) (fun _ _ _ _ hq => hq) ?_
        refine VTS_pure rfl (P_move rfl) rfl rfl rfl ?_
        refine VTS_pure rfl (P_move rfl) rfl rfl rfl ?_
        refine VTS_pure rfl (P_nilCheck rfl) rfl rfl rfl ?_
        refine VTS_pure rfl (P_fieldAddr0 fo61_0 rfl) rfl rfl rfl ?_
        refine VTS_pure rfl (P_move rfl) rfl rfl rfl ?_
        refine VTS_pure rfl (P_nilCheck rfl) rfl rfl rfl ?_
        refine VTS_pure rfl (P_fieldAddr0 fo61_1 rfl) rfl rfl rfl ?_
        refine VTS_pure rfl (P_move rfl) rfl rfl rfl ?_
        refine VTS_pure rfl (P_nilCheck rfl) rfl rfl rfl ?_
        refine VTS_pure rfl (P_fieldAddr0 fo61_1 rfl) rfl rfl rfl ?_
        refine VTS_read rfl (S_load sg9 rfl hq0) rfl rfl rfl ?_
        refine VTS_read rfl (S_load sg3 rfl hq1) rfl rfl rfl ?_
        refine VTS_read rfl (S_load sg3 rfl hq1) rfl rfl rfl ?_
        refine VTS_pure rfl (dt (P_gtr rfl rfl) (by assumption)) rfl rfl rfl ?_
        refine VTS_pure rfl (P_move rfl) rfl rfl rfl ?_
        refine VTS_pure rfl (P_fieldAddr0 fo51_5 rfl) rfl rfl rfl ?_
        refine VTS_pure rfl (P_move rfl) rfl rfl rfl ?_
        refine VTS_pure rfl (P_nilCheck rfl) rfl rfl rfl ?_
        refine VTS_pure rfl (P_fieldAddr0 fo61_0 rfl) rfl rfl rfl ?_
        refine VTS_read rfl (S_load sg26 rfl hf5) rfl rfl rfl ?_
        refine VTS_read rfl (S_load sg9 rfl hq0) rfl rfl rfl ?_
        refine VTS_kept rfl (S_callR cl26 rfl (fun m' hm he => (Contains_ok (c := cb) (hsin.mono hm) nm)) rfl ?_) rfl
        rintro _ rfl
        refine VTS_pure rfl (P_pick_t rfl rfl) rfl rfl rfl ?_
        refine VTS_wild rfl rfl ((S_callVL (p := []) (q := [.pointer (some ⟨b2, 0, none⟩)]) cl23 rfl rfl (.cons .here (.cons .here .nil)) (fun m' hm he => tell_ok (rs := rs4) (by omega) ⟨5, nm, k⟩ (ix nm f.single).isSome) rfl ?_)) rfl
        rintro _ _ ⟨rfl, A5, c5, rfl⟩
        generalize addR rs4 ⟨5, nm, k⟩ (ix nm f.single).isSome = rs5 at hst hl5 ⊢
        by_cases h6 : (k : Int) > f.copies
        · rw [decide_eq_true h6] at hst
          refine VTS_nil ?_
          refine QS_then ?_
          refine TS_draw (.step 0 .pure (.step 1 .pure (.step 2 .pure (.step 3 .pure (.step 5 .pure (.step 6 .pure (.step 7 .pure (.step 9 .pure (.step 10 .pure (.step 11 .pure (.step 13 .pure (.step 4 .read (.step 8 .read (.step 12 .read (.step 14 .read (.step 15 .pure (.step 16 .wild (.done)))))))))))))))))) mixed (by kernel_rfl) (fun _ _ _ _ hq => hq) ?_
          refine VTS_pure rfl (P_move rfl) rfl rfl rfl ?_
          refine VTS_pure rfl (P_move rfl) rfl rfl rfl ?_
          refine VTS_pure rfl (P_nilCheck rfl) rfl rfl rfl ?_
          refine VTS_pure rfl (P_fieldAddr0 fo61_0 rfl) rfl rfl rfl ?_
          refine VTS_pure rfl (P_move rfl) rfl rfl rfl ?_
          refine VTS_pure rfl (P_nilCheck rfl) rfl rfl rfl ?_
          refine VTS_pure rfl (P_fieldAddr0 fo61_1 rfl) rfl rfl rfl ?_
          refine VTS_pure rfl (P_move rfl) rfl rfl rfl ?_
          refine VTS_pure rfl (P_nilCheck rfl) rfl rfl rfl ?_
          refine VTS_pure rfl (P_fieldAddr0 fo61_1 rfl) rfl rfl rfl ?_
          refine VTS_pure rfl (P_fieldAddr0 fo51_3 rfl) rfl rfl rfl ?_
          refine VTS_read rfl (S_load sg9 rfl hq0) rfl rfl rfl ?_
          refine VTS_read rfl (S_load sg3 rfl hq1) rfl rfl rfl ?_
          refine VTS_read rfl (S_load sg3 rfl hq1) rfl rfl rfl ?_
          refine VTS_read rfl (S_load sg3 rfl hf1) rfl rfl rfl ?_
          refine VTS_pure rfl (dt (P_gtr rfl rfl) (by assumption)) rfl rfl rfl ?_
          refine VTS_wild rfl rfl ((S_callVL (p := []) (q := [.pointer (some ⟨b2, 0, none⟩)]) cl23 rfl rfl (.cons .here (.cons .here .nil)) (fun m' hm he => tell_ok (rs := rs5) (by omega) ⟨6, nm, k⟩ true) rfl ?_)) rfl
          rintro _ _ ⟨rfl, A5, c5, rfl⟩
          refine VTS_nil ?_
          refine QS_block ?_
          refine QS_then ?_
          refine TS_region ?_
          refine VS_pure (P_add rfl rfl (w64 (by omega) (by omega))) rfl rfl rfl ?_
          refine VS_pure (P_move rfl) rfl rfl rfl ?_
          refine VS_nil ?_
          refine QS_round4 (Le.refl _) (i + 1) A5 c5 (stepR b f deck rs nm) ⟨rfl, rfl, rfl, rfl, rfl, rfl, rfl, rfl, rfl, rfl, trivial⟩ ?_ ⟨hlt, hnext.symm⟩ (by omega)
          rw [hst]
          exact .cons .here (.cons .here (.nil _))
        · rw [decide_eq_false h6] at hst
          refine VTS_nil ?_
          refine QS_then ?_
          refine TS_draw (.step 0 .pure (.step 1 .pure (.step 2 .pure (.step 3 .pure (.step 5 .pure (.step 6 .pure (.step 7 .pure (.step 9 .pure (.step 10 .pure (.step 11 .pure (.step 13 .pure (.step 4 .read (.step 8 .read (.step 12 .read (.step 14 .read (.step 15 .pure (.step 16 .wild (.done)))))))))))))))))) mixed (by kernel_rfl) (fun _ _ _ _ hq => hq) ?_
          refine VTS_pure rfl (P_move rfl) rfl rfl rfl ?_
          refine VTS_pure rfl (P_move rfl) rfl rfl rfl ?_
          refine VTS_pure rfl (P_nilCheck rfl) rfl rfl rfl ?_
          refine VTS_pure rfl (P_fieldAddr0 fo61_0 rfl) rfl rfl rfl ?_
          refine VTS_pure rfl (P_move rfl) rfl rfl rfl ?_
          refine VTS_pure rfl (P_nilCheck rfl) rfl rfl rfl ?_
          refine VTS_pure rfl (P_fieldAddr0 fo61_1 rfl) rfl rfl rfl ?_
          refine VTS_pure rfl (P_move rfl) rfl rfl rfl ?_
          refine VTS_pure rfl (P_nilCheck rfl) rfl rfl rfl ?_
          refine VTS_pure rfl (P_fieldAddr0 fo61_1 rfl) rfl rfl rfl ?_
          refine VTS_pure rfl (P_fieldAddr0 fo51_3 rfl) rfl rfl rfl ?_
          refine VTS_read rfl (S_load sg9 rfl hq0) rfl rfl rfl ?_
          refine VTS_read rfl (S_load sg3 rfl hq1) rfl rfl rfl ?_
          refine VTS_read rfl (S_load sg3 rfl hq1) rfl rfl rfl ?_
          refine VTS_read rfl (S_load sg3 rfl hf1) rfl rfl rfl ?_
          refine VTS_pure rfl (df (P_gtr rfl rfl) (by assumption)) rfl rfl rfl ?_
          refine VTS_wild rfl rfl ((S_callVL (p := []) (q := [.pointer (some ⟨b2, 0, none⟩)]) cl23 rfl rfl (.cons .here (.cons .here .nil)) (fun m' hm he => tell_ok (rs := rs5) (by omega) ⟨6, nm, k⟩ false) rfl ?_)) rfl
          rintro _ _ ⟨rfl, A5, c5, rfl⟩
          refine VTS_nil ?_
          refine QS_block ?_
          refine QS_then ?_
          refine TS_region ?_
          refine VS_pure (P_add rfl rfl (w64 (by omega) (by omega))) rfl rfl rfl ?_
          refine VS_pure (P_move rfl) rfl rfl rfl ?_
          refine VS_nil ?_
          refine QS_round4 (Le.refl _) (i + 1) A5 c5 (stepR b f deck rs nm) ⟨rfl, rfl, rfl, rfl, rfl, rfl, rfl, rfl, rfl, rfl, trivial⟩ ?_ ⟨hlt, hnext.symm⟩ (by omega)
          rw [hst]
          exact .cons .here (.cons .here (.nil _))
      · rw [decide_eq_false h1, Bool.false_and] at hst
        have hl5 : (addR rs4 ⟨5, nm, k⟩ false).length ≤ rs4.length + 1 := addR_len
        refine VTS_nil ?_
        refine QS_then ?_
        refine TS_seq ?_
        refine TS_draw (.step 0 .pure (.step 1 .pure (.step 2 .pure (.step 3 .pure (.step 5 .pure (.step 6 .pure (.step 7 .pure (.step 9 .pure (.step 10 .pure (.step 11 .pure (.step 4 .read (.step 8 .read (.step 12 .read (.step 13 .pure (.step 14 .pure (.step 15 .pure (.step 17 .pure (.step 18 .pure (.step 19 .pure (.step 16 .read (.step 20 .read (.step 21 .kept (.step 22 .pure (.step 23 .wild (.done))))))))))))))))))))))))) mixed (by kernel_rfl) (fun _ _ _ _ hq => hq) ?_
        refine VTS_pure rfl (P_move rfl) rfl rfl rfl ?_
        refine VTS_pure rfl (P_move rfl) rfl rfl rfl ?_
        refine VTS_pure rfl (P_nilCheck rfl) rfl rfl rfl ?_
        refine VTS_pure rfl (P_fieldAddr0 fo61_0 rfl) rfl rfl rfl ?_
        refine VTS_pure rfl (P_move rfl) rfl rfl rfl ?_
        refine VTS_pure rfl (P_nilCheck rfl) rfl rfl rfl ?_
        refine VTS_pure rfl (P_fieldAddr0 fo61_1 rfl) rfl rfl rfl ?_
        refine VTS_pure rfl (P_move rfl) rfl rfl rfl ?_
        refine VTS_pure rfl (P_nilCheck rfl) rfl rfl rfl ?_
        refine VTS_pure rfl (P_fieldAddr0 fo61_1 rfl) rfl rfl rfl ?_
        refine VTS_read rfl (S_load sg9 rfl hq0) rfl rfl rfl ?_
        refine VTS_read rfl (S_load sg3 rfl hq1) rfl rfl rfl ?_
        refine VTS_read rfl (S_load sg3 rfl hq1) rfl rfl rfl ?_
        refine VTS_pure rfl (df (P_gtr rfl rfl) (by assumption)) rfl rfl rfl ?_
        refine VTS_pure rfl (P_move rfl) rfl rfl rfl ?_
        iterate 6 (refine VTS_skip rfl rfl rfl rfl rfl ?_)
        refine VTS_skipE rfl rfl rfl rfl rfl ?_
        refine VTS_pure rfl (P_pick_f rfl rfl) rfl rfl rfl ?_
        refine VTS_wild rfl rfl ((S_callVL (p := []) (q := [.pointer (some ⟨b2, 0, none⟩)]) cl23 rfl rfl (.cons .here (.cons .here .nil)) (fun m' hm he => tell_ok (rs := rs4) (by omega) ⟨5, nm, k⟩ false) rfl ?_)) rfl
        rintro _ _ ⟨rfl, A5, c5, rfl⟩
        generalize addR rs4 ⟨5, nm, k⟩ false = rs5 at hst hl5 ⊢
        by_cases h6 : (k : Int) > f.copies
        · rw [decide_eq_true h6] at hst
          refine VTS_nil ?_
          refine QS_then ?_
          refine TS_draw (.step 0 .pure (.step 1 .pure (.step 2 .pure (.step 3 .pure (.step 5 .pure (.step 6 .pure (.step 7 .pure (.step 9 .pure (.step 10 .pure (.step 11 .pure (.step 13 .pure (.step 4 .read (.step 8 .read (.step 12 .read (.step 14 .read (.step 15 .pure (.step 16 .wild (.done)))))))))))))))))) mixed (by kernel_rfl) (fun _ _ _ _ hq => hq) ?_
          refine VTS_pure rfl (P_move rfl) rfl rfl rfl ?_
          refine VTS_pure rfl (P_move rfl) rfl rfl rfl ?_
          refine VTS_pure rfl (P_nilCheck rfl) rfl rfl rfl ?_
          refine VTS_pure rfl (P_fieldAddr0 fo61_0 rfl) rfl rfl rfl ?_
          refine VTS_pure rfl (P_move rfl) rfl rfl rfl ?_
          refine VTS_pure rfl (P_nilCheck rfl) rfl rfl rfl ?_
          refine VTS_pure rfl (P_fieldAddr0 fo61_1 rfl) rfl rfl rfl ?_
          refine VTS_pure rfl (P_move rfl) rfl rfl rfl ?_
          refine VTS_pure rfl (P_nilCheck rfl) rfl rfl rfl ?_
          refine VTS_pure rfl (P_fieldAddr0 fo61_1 rfl) rfl rfl rfl ?_
          refine VTS_pure rfl (P_fieldAddr0 fo51_3 rfl) rfl rfl rfl ?_
          refine VTS_read rfl (S_load sg9 rfl hq0) rfl rfl rfl ?_
          refine VTS_read rfl (S_load sg3 rfl hq1) rfl rfl rfl ?_
          refine VTS_read rfl (S_load sg3 rfl hq1) rfl rfl rfl ?_
          refine VTS_read rfl (S_load sg3 rfl hf1) rfl rfl rfl ?_
          refine VTS_pure rfl (dt (P_gtr rfl rfl) (by assumption)) rfl rfl rfl ?_
          refine VTS_wild rfl rfl ((S_callVL (p := []) (q := [.pointer (some ⟨b2, 0, none⟩)]) cl23 rfl rfl (.cons .here (.cons .here .nil)) (fun m' hm he => tell_ok (rs := rs5) (by omega) ⟨6, nm, k⟩ true) rfl ?_)) rfl
          rintro _ _ ⟨rfl, A5, c5, rfl⟩
          refine VTS_nil ?_
          refine QS_block ?_
          refine QS_then ?_
          refine TS_region ?_
          refine VS_pure (P_add rfl rfl (w64 (by omega) (by omega))) rfl rfl rfl ?_
          refine VS_pure (P_move rfl) rfl rfl rfl ?_
          refine VS_nil ?_
          refine QS_round4 (Le.refl _) (i + 1) A5 c5 (stepR b f deck rs nm) ⟨rfl, rfl, rfl, rfl, rfl, rfl, rfl, rfl, rfl, rfl, trivial⟩ ?_ ⟨hlt, hnext.symm⟩ (by omega)
          rw [hst]
          exact .cons .here (.cons .here (.nil _))
        · rw [decide_eq_false h6] at hst
          refine VTS_nil ?_
          refine QS_then ?_
          refine TS_draw (.step 0 .pure (.step 1 .pure (.step 2 .pure (.step 3 .pure (.step 5 .pure (.step 6 .pure (.step 7 .pure (.step 9 .pure (.step 10 .pure (.step 11 .pure (.step 13 .pure (.step 4 .read (.step 8 .read (.step 12 .read (.step 14 .read (.step 15 .pure (.step 16 .wild (.done)))))))))))))))))) mixed (by kernel_rfl) (fun _ _ _ _ hq => hq) ?_
          refine VTS_pure rfl (P_move rfl) rfl rfl rfl ?_
          refine VTS_pure rfl (P_move rfl) rfl rfl rfl ?_
          refine VTS_pure rfl (P_nilCheck rfl) rfl rfl rfl ?_
          refine VTS_pure rfl (P_fieldAddr0 fo61_0 rfl) rfl rfl rfl ?_
          refine VTS_pure rfl (P_move rfl) rfl rfl rfl ?_
          refine VTS_pure rfl (P_nilCheck rfl) rfl rfl rfl ?_
          refine VTS_pure rfl (P_fieldAddr0 fo61_1 rfl) rfl rfl rfl ?_
          refine VTS_pure rfl (P_move rfl) rfl rfl rfl ?_
          refine VTS_pure rfl (P_nilCheck rfl) rfl rfl rfl ?_
          refine VTS_pure rfl (P_fieldAddr0 fo61_1 rfl) rfl rfl rfl ?_
          refine VTS_pure rfl (P_fieldAddr0 fo51_3 rfl) rfl rfl rfl ?_
          refine VTS_read rfl (S_load sg9 rfl hq0) rfl rfl rfl ?_
          refine VTS_read rfl (S_load sg3 rfl hq1) rfl rfl rfl ?_
          refine VTS_read rfl (S_load sg3 rfl hq1) rfl rfl rfl ?_
          refine VTS_read rfl (S_load sg3 rfl hf1) rfl rfl rfl ?_
          refine VTS_pure rfl (df (P_gtr rfl rfl) (by assumption)) rfl rfl rfl ?_
          refine VTS_wild rfl rfl ((S_callVL (p := []) (q := [.pointer (some ⟨b2, 0, none⟩)]) cl23 rfl rfl (.cons .here (.cons .here .nil)) (fun m' hm he => tell_ok (rs := rs5) (by omega) ⟨6, nm, k⟩ false) rfl ?_)) rfl
          rintro _ _ ⟨rfl, A5, c5, rfl⟩
          refine VTS_nil ?_
          refine QS_block ?_
          refine QS_then ?_
          refine TS_region ?_
          refine VS_pure (P_add rfl rfl (w64 (by omega) (by omega))) rfl rfl rfl ?_
          refine VS_pure (P_move rfl) rfl rfl rfl ?_
          refine VS_nil ?_
          refine QS_round4 (Le.refl _) (i + 1) A5 c5 (stepR b f deck rs nm) ⟨rfl, rfl, rfl, rfl, rfl, rfl, rfl, rfl, rfl, rfl, trivial⟩ ?_ ⟨hlt, hnext.symm⟩ (by omega)
          rw [hst]
          exact .cons .here (.cons .here (.nil _))
  · have hall : rs = reasons b f deck := by
      rw [hrs, List.take_of_length_le (by omega)]
      rfl
    rw [← hall] at hcp
    by_cases hz : rs.length = 0
    · rw [if_pos hz] at hcp
      refine TS_nilOwn 38 3 ?_
      refine TS_seq ?_
      refine TS_region ?_
      refine VS_pure (df (P_lss rfl rfl) (by omega)) rfl rfl rfl ?_
      refine VS_nil ?_
      refine QS_then ?_
      refine TS_seq ?_
      refine TS_false rfl ?_
      refine TS_exit ?_
      refine QS_then_exit ?_
      refine QS_round4_exit ?_
      refine QS_block_here ?_
      refine QS_then ?_
      refine TS_seq ?_
      refine TS_seq ?_
      refine TS_region ?_
      refine VS_read (S_loadB sg27 rfl (.there (.here)) rfl) rfl rfl rfl ?_
      refine VS_pure (P_len il27 rfl) rfl rfl rfl ?_
      refine VS_pure (df (P_gtr rfl rfl) (by omega)) rfl rfl rfl ?_
      refine VS_nil ?_
      refine QS_then ?_
      refine TS_false rfl ?_
      refine TS_skip ?_
      refine QS_then ?_
      refine TS_seq ?_
      refine TS_region ?_
      refine VS_step (S_store co27 rfl rfl rfl (.there (.here)) (.here) ?_) rfl
      refine VS_pure (P_assign rfl) rfl rfl rfl ?_
      refine VS_nil ?_
      refine QS_then ?_
      refine TS_ret ?_
      rw [hcp]
      exact QS_retW hle [_, _] ⟨⟨_, _, _, _, rfl, .there .here, .inl ⟨sg27, rfl⟩⟩, rfl, trivial⟩ [_] (.cons .here (.nil _)) ⟨none, 0, rfl, rfl⟩
    · rw [if_neg hz] at hcp
      refine TS_seq ?_
      refine TS_region ?_
      refine VS_pure (df (P_lss rfl rfl) (by omega)) rfl rfl rfl ?_
      refine VS_nil ?_
      refine QS_then ?_
      refine TS_seq ?_
      refine TS_false rfl ?_
      refine TS_exit ?_
      refine QS_then_exit ?_
      refine QS_round4_exit ?_
      refine QS_block_here ?_
      refine QS_then ?_
      refine TS_seq ?_
      refine TS_seq ?_
      refine TS_region ?_
      refine VS_read (S_loadB sg27 rfl (.here) rfl) rfl rfl rfl ?_
      refine VS_pure (P_len il27 rfl) rfl rfl rfl ?_
      refine VS_pure (dt (P_gtr rfl rfl) (by omega)) rfl rfl rfl ?_
      refine VS_nil ?_
      refine QS_then ?_
      refine TS_true rfl ?_
      refine TS_seq ?_
      refine TS_region ?_
      refine VS_read (S_loadB sg27 rfl (.here) rfl) rfl rfl rfl ?_
      refine VS_step (S_store co27 rfl rfl rfl (.here) (.here) ?_) rfl
      refine VS_pure (P_assign rfl) rfl rfl rfl ?_
      refine VS_nil ?_
      refine QS_then ?_
      refine TS_ret ?_
      refine QS_then_ret ?_
      rw [hcp]
      exact QS_retW hle [_, _] ⟨⟨_, _, _, _, rfl, .here, .inl ⟨sg27, rfl⟩⟩, rfl, trivial⟩ [_] (.cons (.there .here) (.nil _)) ⟨A', c', rfl, rfl⟩
end Go.Proofs.YtccleakfgmcjpaaDoor
