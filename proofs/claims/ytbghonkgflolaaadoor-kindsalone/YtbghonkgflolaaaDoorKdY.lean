/- A part of the proof: contracts of functions of the program. No condition. -/
import Derived.Test.YtbghonkgflolaaaDoorKdX
namespace Go.Proofs.YtbghonkgflolaaaDoor
open Go.Eng Wd Kd
set_option maxRecDepth 100000
theorem VTS_celOwn {P : Program} {n : Nat} {env : Env} {m : Mp} {L : List Ent} {Q : Post} {l : List Oper} {wl : Nat → Bool} {t : OT} {b e sz k : Nat} {cs : List Value} {L' : List Ent} (hT : Sel L (cel b cs e) (own e sz (some ⟨b, 0, none⟩) k k cs) L') (hl : cs.length = k * sz) (hm : k ≤ maxLen) (ht : VTS P n l wl t env m L' Q) : VTS P n l wl t env m L Q :=
  fun h hs => ht h (hs.sel hT fun _ h2 => h2.celOwn hl hm)
theorem VBS_celOwn {P : Program} {n : Nat} {env : Env} {m : Mp} {L : List Ent} {Q : Post} {l : List Oper} {t : OB} {b e sz k : Nat} {cs : List Value} {L' : List Ent} (hT : Sel L (cel b cs e) (own e sz (some ⟨b, 0, none⟩) k k cs) L') (hl : cs.length = k * sz) (hm : k ≤ maxLen) (ht : VBS P n l t env m L' Q) : VBS P n l t env m L Q :=
  fun h hs => ht h (hs.sel hT fun _ h2 => h2.celOwn hl hm)
theorem rem_at {a : Int} {n : Nat} (h0 : 0 < n) : ∃ k : Nat, k < n ∧ Int.tmod (Int.tmod a n + n) n = (k : Nat) ∧ -(n : Int) < Int.tmod a n ∧ Int.tmod a n < n := by
  have h1 : -(n : Int) < Int.tmod a n := by
    have := Int.lt_tmod_of_pos a (b := (n : Int)) (by omega)
    omega
  have h2 : Int.tmod a n < n := Int.tmod_lt_of_pos a (by omega)
  have h3 : 0 ≤ Int.tmod (Int.tmod a n + n) n := Int.tmod_nonneg _ (by omega)
  have h4 : Int.tmod (Int.tmod a n + n) n < n := Int.tmod_lt_of_pos _ (by omega)
  exact ⟨(Int.tmod (Int.tmod a n + n) n).toNat, by omega, by omega, h1, h2⟩
/-- cells of cards -/
def CellsR (m : Mp) (vs : List Value) (l : List CardT) : Prop := vs.length = l.length * 12 ∧ ∀ (i : Nat) (hi : i < l.length), CardR m ((vs.drop (i * 12)).take 12) l[i]
theorem CellsR.mono {m m' : Mp} {vs : List Value} {l : List CardT} (h : CellsR m vs l) (hl : Le m m') : CellsR m' vs l := ⟨h.1, fun i hi => (h.2 i hi).mono hl⟩
theorem CellsR.nil (m : Mp) : CellsR m [] [] := ⟨rfl, fun i h => by cases h⟩
theorem CellsR.app {m : Mp} {vs us : List Value} {l k : List CardT} (h1 : CellsR m vs l) (h2 : CellsR m us k) : CellsR m (vs ++ us) (l ++ k) := by
  obtain ⟨a1, a2⟩ := h1
  obtain ⟨b1, b2⟩ := h2
  refine ⟨by simp [a1, b1]; omega, fun i hi => ?_⟩
  simp only [List.length_append] at hi
  by_cases hlt : i < l.length
  · rw [List.getElem_append_left hlt, List.drop_append_of_le_length (by omega), List.take_append_of_le_length (by simp; omega)]
    exact a2 i hlt
  · rw [List.getElem_append_right (by omega), show i * 12 = vs.length + (i - l.length) * 12 by omega, ← List.drop_drop, List.drop_left]
    exact b2 _ (by omega)
theorem CellsR.drop {m : Mp} {vs : List Value} {l : List CardT} (h : CellsR m vs l) (k : Nat) : CellsR m (vs.drop (k * 12)) (l.drop k) := by
  obtain ⟨a1, a2⟩ := h
  refine ⟨by rw [List.length_drop, List.length_drop, a1]; omega, fun i hi => ?_⟩
  simp only [List.length_drop] at hi
  rw [List.getElem_drop, List.drop_drop, ← Nat.add_mul]
  exact a2 _ (by omega)
theorem CellsR.take {m : Mp} {vs : List Value} {l : List CardT} (h : CellsR m vs l) (k : Nat) : CellsR m (vs.take (k * 12)) (l.take k) := by
  obtain ⟨a1, a2⟩ := h
  refine ⟨by rw [List.length_take, List.length_take, a1]; omega, fun i hi => ?_⟩
  simp only [List.length_take] at hi
  rw [List.getElem_take, List.drop_take, List.take_take, show min 12 (k * 12 - i * 12) = 12 by omega]
  exact a2 _ (by omega)
theorem CellsR.one {m : Mp} {cs : List Value} {x : CardT} (h : CardR m cs x) : CellsR m cs [x] := ⟨by rw [cardLen h]; rfl, fun i hi => by
  have : i = 0 := by have : i < 1 := hi; omega
  subst this
  rw [Nat.zero_mul, List.drop_zero, ← cardLen h, List.take_length]
  exact h⟩
theorem CellsR.ones {m : Mp} {vs : List Value} {l : List CardT} (h : CellsR m vs l) : ∀ u ∈ vs, oneV u = true := by
  intro u hu
  obtain ⟨j, hj, rfl⟩ := List.getElem_of_mem hu
  have h1 := h.1
  have h2 := h.2 (j / 12) (by omega)
  have h3 : vs[j] ∈ (vs.drop (j / 12 * 12)).take 12 := by
    rw [List.mem_iff_getElem]
    refine ⟨j % 12, by simp; omega, ?_⟩
    simp only [List.getElem_take, List.getElem_drop]
    congr 1
    try omega
  obtain ⟨A, la, ca, B, lb, cb, D, ld, cd, e, _⟩ := h2
  rw [e] at h3
  simp only [List.mem_cons, List.not_mem_nil, or_false] at h3
  rcases h3 with h | h | h | h | h | h | h | h | h | h | h | h <;> rw [h] <;> rfl
set_option maxHeartbeats 64000000 in
theorem KindsAlone3 {m : Mp} {A : Option Addr} {cap : Nat} {cards : List CardT} {t : Int} (hT : Tabs m) (hc : CardsR m A cards.length cards) (hcap : cards.length ≤ cap) (ht : -9223372036854775808 ≤ t ∧ t ≤ 9223372036854775807) :
    CS Tryd.prog 3 [.slice A cards.length cap, .int .i64 t] m [] (Gives (.bool true)) := by
  have hc0 := hc
  obtain ⟨-, hml, vs, hrd, hvl, hel⟩ := hc
  have hcell : CellsR m vs cards := ⟨hvl, hel⟩
  unfold maxLen at hml
  refine CS_of [.tmp 4] Tryd.func3 rfl rfl rfl ?_
  refine TS_seq ?_
  refine TS_region ?_
  refine VS_pure (P_assign rfl) rfl rfl rfl ?_
  refine VS_nil ?_
  refine QS_then ?_
  refine TS_seq ?_
  refine TS_seq ?_
  refine TS_region ?_
  refine VS_pure (P_move rfl) rfl rfl rfl ?_
  refine VS_step ((S_call cl4 rfl (fun m1 hm he => Great4 (hc0.mono hm)) rfl ?_)) rfl
  rintro _ _ ⟨rfl, g, rfl, hg⟩
  cases g with
  | true =>
    refine VS_pure (P_move rfl) rfl rfl rfl ?_
    iterate 4 (refine VS_skip rfl rfl rfl ?_)
    refine VS_pure (P_pick_t rfl rfl) rfl rfl rfl ?_
    refine VS_pure (P_move rfl) rfl rfl rfl ?_
    iterate 3 (refine VS_skip rfl rfl rfl ?_)
    refine VS_pure (P_pick_t rfl rfl) rfl rfl rfl ?_
    refine VS_nil ?_
    refine QS_then ?_
    refine TS_true rfl ?_
    refine TS_seq ?_
    refine TS_region ?_
    refine VS_step (S_callR cl6 rfl (fun m' hm he => (wakes6 (hT.mono hm))) rfl ?_) rfl
    rintro _ rfl
    refine VS_pure (P_assign rfl) rfl rfl rfl ?_
    refine VS_nil ?_
    refine QS_then ?_
    refine TS_ret ?_
    refine QS_then_ret ?_
    exact QS_ret [_] ⟨rfl, trivial⟩ [] (Pick.nil _) ⟨rfl, rfl⟩
  | false =>
  obtain ⟨h250, hb⟩ := hg rfl
  clear hg
  refine VS_pure (P_move rfl) rfl rfl rfl ?_
  refine VS_pure (P_move rfl) rfl rfl rfl ?_
  refine VS_step ((S_call cl5 rfl (fun m1 hm he => Check5 (hT.mono hm) (hc0.mono hm) (fun _ => hb)) rfl ?_)) rfl
  rintro _ _ ⟨rfl, e, a, rfl, hp⟩
  unfold faultV
  by_cases he : e = 0
  rotate_left
  · refine VS_pure (P_field1 fo26_0 ft26_0 fs26_0 rfl rfl) rfl rfl rfl ?_
    refine VS_pure (dt (P_neq rfl rfl) (by assumption)) rfl rfl rfl ?_
    refine VS_pure (P_pick_f rfl rfl) rfl rfl rfl ?_
    refine VS_pure (P_move rfl) rfl rfl rfl ?_
    iterate 3 (refine VS_skip rfl rfl rfl ?_)
    refine VS_pure (P_pick_t rfl rfl) rfl rfl rfl ?_
    refine VS_nil ?_
    refine QS_then ?_
    refine TS_true rfl ?_
    refine TS_seq ?_
    refine TS_region ?_
    refine VS_step (S_callR cl6 rfl (fun m' hm he => (wakes6 (hT.mono hm))) rfl ?_) rfl
    rintro _ rfl
    refine VS_pure (P_assign rfl) rfl rfl rfl ?_
    refine VS_nil ?_
    refine QS_then ?_
    refine TS_ret ?_
    refine QS_then_ret ?_
    exact QS_ret [_] ⟨rfl, trivial⟩ [] (Pick.nil _) ⟨rfl, rfl⟩
  subst he
  obtain ⟨h240, hok⟩ := hp.ok
  clear hp
  by_cases hz : cards.length = 0
  · refine VS_pure (P_field1 fo26_0 ft26_0 fs26_0 rfl rfl) rfl rfl rfl ?_
    refine VS_pure (df (P_neq rfl rfl) (by omega)) rfl rfl rfl ?_
    refine VS_pure (P_pick_f rfl rfl) rfl rfl rfl ?_
    refine VS_pure (P_move rfl) rfl rfl rfl ?_
    refine VS_pure (P_move rfl) rfl rfl rfl ?_
    refine VS_pure (P_len il22 rfl) rfl rfl rfl ?_
    refine VS_pure (dt (P_eql rfl rfl) (by omega)) rfl rfl rfl ?_
    refine VS_pure (P_pick_f rfl rfl) rfl rfl rfl ?_
    refine VS_nil ?_
    refine QS_then ?_
    refine TS_true rfl ?_
    refine TS_seq ?_
    refine TS_region ?_
    refine VS_step (S_callR cl6 rfl (fun m' hm he => (wakes6 (hT.mono hm))) rfl ?_) rfl
    rintro _ rfl
    refine VS_pure (P_assign rfl) rfl rfl rfl ?_
    refine VS_nil ?_
    refine QS_then ?_
    refine TS_ret ?_
    refine QS_then_ret ?_
    exact QS_ret [_] ⟨rfl, trivial⟩ [] (Pick.nil _) ⟨rfl, rfl⟩
  obtain ⟨k, hk, ek, hy1, hy2⟩ := rem_at (a := t) (n := cards.length) (by omega)
  refine VS_pure (P_field1 fo26_0 ft26_0 fs26_0 rfl rfl) rfl rfl rfl ?_
  refine VS_pure (df (P_neq rfl rfl) (by omega)) rfl rfl rfl ?_
  refine VS_pure (P_pick_f rfl rfl) rfl rfl rfl ?_
  refine VS_pure (P_move rfl) rfl rfl rfl ?_
  refine VS_pure (P_move rfl) rfl rfl rfl ?_
  refine VS_pure (P_len il22 rfl) rfl rfl rfl ?_
  refine VS_pure (df (P_eql rfl rfl) (by omega)) rfl rfl rfl ?_
  refine VS_pure (P_pick_f rfl rfl) rfl rfl rfl ?_
  refine VS_nil ?_
  refine QS_then ?_
  refine TS_false rfl ?_
  refine TS_skip ?_
  refine QS_then ?_
  refine TS_seq ?_
  refine TS_region ?_
  refine VS_pure (P_move rfl) rfl rfl rfl ?_
  refine VS_pure (P_move rfl) rfl rfl rfl ?_
  refine VS_pure (P_len il22 rfl) rfl rfl rfl ?_
  refine VS_pure ((P_rem rfl rfl (by omega) rfl)) rfl rfl rfl ?_
  refine VS_pure (P_move rfl) rfl rfl rfl ?_
  refine VS_pure (P_len il22 rfl) rfl rfl rfl ?_
  refine VS_pure ((P_add rfl rfl (w64 (by omega) (by omega)))) rfl rfl rfl ?_
  refine VS_pure (P_move rfl) rfl rfl rfl ?_
  refine VS_pure (P_len il22 rfl) rfl rfl rfl ?_
  refine VS_pure ((P_rem rfl rfl (by omega) ek)) rfl rfl rfl ?_
  refine VS_pure (P_assign rfl) rfl rfl rfl ?_
  refine VS_nil ?_
  refine QS_then ?_
  refine TS_seq ?_
  refine TS_draw (.step 1 .pure (.step 2 .pure (.step 3 .pure (.step 5 .pure (.step 6 .pure (.step 7 .pure (.step 0 .kept (.step 4 .wild (.step 8 .wild (.step 9 .pure (.done))))))))))) mixed (by kernel_rfl) (fun _ _ _ _ hq => hq) ?_
  refine VTS_pure rfl (P_move rfl) rfl rfl rfl ?_
  refine VTS_pure rfl (P_move rfl) rfl rfl rfl ?_
  refine VTS_pure rfl (P_slice_l _ ez22 rfl rfl rfl (by omega)) rfl rfl rfl ?_
  refine VTS_pure rfl (P_move rfl) rfl rfl rfl ?_
  refine VTS_pure rfl (P_move rfl) rfl rfl rfl ?_
  refine VTS_pure rfl (P_slice_h _ ez22 rfl rfl rfl (by omega)) rfl rfl rfl ?_
  refine VTS_kept rfl (S_buildSlice sl22 rfl rfl rfl rfl (fun b1 => ?_)) rfl
  have hA : A.isSome = true := hrd.isSome (by omega)
  have hx := hel k hk
  have hat := hrd.elem (k * 12) 12
  have hmem : ∀ x ∈ cards, x.name.length ≤ 2000 ∧ cardW x ≤ 3999 := fun x hx => by
    obtain ⟨i, hi, rfl⟩ := List.getElem_of_mem hx
    exact hb i hi
  have hkm : cards[k] ∈ cards := List.getElem_mem hk
  generalize cards[k] = x at hx hkm
  generalize (vs.drop (k * 12)).take 12 = cs at hx hat
  have hx0 := hx
  have hcW := hcell.app (CellsR.one hx0)
  obtain ⟨PA, la, ca, PB, lb, cb, PD, ld, cd, rfl, -⟩ := hx
  have hcD := hcell.drop k
  have hcT := hcell.take k
  have hlD : (vs.drop (k * 12)).length = (cards.length - k) * 12 := by simp [hvl]; omega
  have hlT : (vs.take (k * 12)).length = k * 12 := by simp [hvl]; omega
  have hd1 : ∀ m', Le m m' → Rd m' (cutA A k cap 12) (vs.drop (k * 12)) := fun m' hm => by
    have := (hrd.mono hm).cut (l := k) (mm := cap) (sz := 12) (cards.length - k) (by omega)
    rwa [List.take_of_length_le (by omega)] at this
  have hd2 : ∀ m', Le m m' → Rd m' (cutA A 0 cap 12) (vs.take (k * 12)) := fun m' hm => by
    have := (hrd.mono hm).cut (l := 0) (mm := cap) (sz := 12) k (by omega)
    rwa [Nat.zero_mul, List.drop_zero] at this
  refine VTS_celOwn (cs := []) (k := 0) (e := 31) (sz := 12) .here rfl (by decide) ?_
  refine VTS_wild rfl rfl (S_appendR (A2 := cutA A k cap 12) (j := cards.length - k) (c2 := cap - k) (news := vs.drop (k * 12)) sl22 rfl rfl rfl rfl (fun _ _ => .here) (fun h hs => hd1 _ hs.base) hlD hcD.ones (by simp only [maxLen]; omega) (by omega) rfl (fun A1 c1 => ?_)) rfl
  skip
  refine VTS_wild rfl rfl (S_appendR (A2 := cutA A 0 cap 12) (j := k) (c2 := cap) (news := vs.take (k * 12)) sl22 rfl rfl rfl rfl (fun _ _ => .here) (fun h hs => hd2 _ hs.base) hlT hcT.ones (by simp only [maxLen]; omega) (by omega) rfl (fun A2 c2 => ?_)) rfl
  have e1 : 0 + (cards.length - k) + k = (cards.drop k ++ cards.take k).length := by simp; omega
  have e2 : 0 + cards.length + 1 = (cards ++ [x]).length := by simp
  have hcDT := hcD.app hcT
  have hpm : (cards).Perm (cards.drop k ++ cards.take k) := by
    have := (List.perm_append_comm (l₁ := cards.take k) (l₂ := cards.drop k))
    rwa [List.take_append_drop] at this
  have hl1 : (cards.drop k ++ cards.take k).length = cards.length := by simp; omega
  have hl2 : (cards ++ [x]).length = cards.length + 1 := by simp
  have K1 := turned_ok hpm hok
  have K2 := fun {e a : Int} => twice_ok hkm hok (e := e) (a := a)
  have M1 : ∀ y ∈ cards.drop k ++ cards.take k, y.name.length ≤ 2000 ∧ cardW y ≤ 3999 := fun y hy => hmem y (hpm.mem_iff.2 hy)
  have M2 : ∀ y ∈ cards ++ [x], y.name.length ≤ 2000 ∧ cardW y ≤ 3999 := fun y hy => hmem y (by
    rcases List.mem_append.1 hy with h | h
    · exact h
    · rw [List.mem_singleton.1 h]; exact hkm)
  rw [e1, List.nil_append]
  generalize cards.drop k ++ cards.take k = tu at hcDT hl1 K1 M1 ⊢
  generalize cards ++ [x] = tw at hcW hl2 K2 M2 e2
  generalize List.drop (k * 12) vs ++ List.take (k * 12) vs = us1 at hcDT ⊢
  refine VTS_pure rfl (P_assign rfl) rfl rfl rfl ?_
  refine VTS_nil ?_
  refine QS_then ?_
  refine TS_seq ?_
  refine TS_cut (α := Option Addr × Nat × List Value) (fun y => [(0, .slice A cards.length cap), (6, .slice A2 tu.length c2), (7, .slice y.1 tw.length y.2.1)]) (fun y => [own 31 12 y.1 tw.length y.2.1 y.2.2, own 31 12 A2 tu.length c2 us1]) (fun y => CellsR m y.2.2 tw) ?_ ?_
  · skip
    refine TS_drawB (.step 1 true (.step 3 true (.step 4 true (.step 5 true (.step 6 true (.fork (.step 0 false (.fork (.step 2 false (.step 7 false (.step 8 false (.step 9 true (.done))))) (.step 7 false (.step 2 false (.step 8 false (.step 9 true (.done))))))) (.step 7 false (.step 0 false (.step 2 false (.step 8 false (.step 9 true (.done)))))))))))) mixed (by kernel_rfl) (fun _ _ _ _ hq => hq) ?_
    iterate 3 (refine VBS_pure rfl (P_move rfl) rfl rfl rfl ?_)
    refine VBS_pure rfl (P_indexAddrN ez22 rfl rfl hA (by omega)) rfl rfl rfl ?_
    refine VBS_read rfl (S_loadAt ag31 rfl rfl hat) rfl rfl rfl ?_
    refine VBS_fork ?_ ?_
    refine VBS_step rfl (S_buildSlice sl22 rfl rfl rfl rfl (fun b2 => ?_)) rfl
    refine VBS_fork ?_ ?_
    skip
    · refine VBS_celOwn (cs := []) (k := 0) (e := 31) (sz := 12) .here rfl (by decide) ?_
      refine VBS_step rfl (S_appendR (A2 := A) (j := cards.length) (c2 := cap) (news := vs) sl22 rfl rfl rfl rfl (fun _ _ => .here) (fun h hs => hrd.mono hs.base) hvl hcell.ones (by simp only [maxLen]; omega) (by omega) rfl (fun A3 c3 => ?_)) rfl
      refine VBS_step rfl (S_buildSlice sl22 rfl rfl rfl rfl (fun b3 => ?_)) rfl
      refine VBS_step rfl (S_append sl22 rfl rfl rfl rfl (.here) (fun _ _ => (.there (.here))) rfl rfl (by first | omega | (simp only [maxLen]; omega)) (by omega) rfl (fun A4 c4 => ?_)) rfl
      refine VBS_pure rfl (P_assign rfl) rfl rfl rfl ?_
      refine VBS_nil ?_
      rw [e2, List.nil_append]
      exact QS_round (A4, c4, _) ⟨rfl, rfl, rfl, trivial⟩ (.cons (.there .here) (.cons (.there .here) (.nil _))) hcW (by decide)
    · refine VBS_step rfl (S_buildSlice sl22 rfl rfl rfl rfl (fun b3 => ?_)) rfl
      refine VBS_celOwn (cs := []) (k := 0) (e := 31) (sz := 12) (.there .here) rfl (by decide) ?_
      refine VBS_step rfl (S_appendR (A2 := A) (j := cards.length) (c2 := cap) (news := vs) sl22 rfl rfl rfl rfl (fun _ _ => (.there .here)) (fun h hs => hrd.mono hs.base) hvl hcell.ones (by simp only [maxLen]; omega) (by omega) rfl (fun A3 c3 => ?_)) rfl
      refine VBS_step rfl (S_append sl22 rfl rfl rfl rfl (.here) (fun _ _ => (.there (.here))) rfl rfl (by first | omega | (simp only [maxLen]; omega)) (by omega) rfl (fun A4 c4 => ?_)) rfl
      refine VBS_pure rfl (P_assign rfl) rfl rfl rfl ?_
      refine VBS_nil ?_
      rw [e2, List.nil_append]
      exact QS_round (A4, c4, _) ⟨rfl, rfl, rfl, trivial⟩ (.cons (.there .here) (.cons (.there .here) (.nil _))) hcW (by decide)
    · refine VBS_step rfl (S_buildSlice sl22 rfl rfl rfl rfl (fun b2 => ?_)) rfl
      refine VBS_step rfl (S_buildSlice sl22 rfl rfl rfl rfl (fun b3 => ?_)) rfl
      refine VBS_celOwn (cs := []) (k := 0) (e := 31) (sz := 12) .here rfl (by decide) ?_
      refine VBS_step rfl (S_appendR (A2 := A) (j := cards.length) (c2 := cap) (news := vs) sl22 rfl rfl rfl rfl (fun _ _ => .here) (fun h hs => hrd.mono hs.base) hvl hcell.ones (by simp only [maxLen]; omega) (by omega) rfl (fun A3 c3 => ?_)) rfl
      refine VBS_step rfl (S_append sl22 rfl rfl rfl rfl (.there (.here)) (fun _ _ => (.here)) rfl rfl (by first | omega | (simp only [maxLen]; omega)) (by omega) rfl (fun A4 c4 => ?_)) rfl
      refine VBS_pure rfl (P_assign rfl) rfl rfl rfl ?_
      refine VBS_nil ?_
      rw [e2, List.nil_append]
      exact QS_round (A4, c4, _) ⟨rfl, rfl, rfl, trivial⟩ (.cons .here (.cons (.there .here) (.nil _))) hcW (by decide)
  rintro ⟨A4, c4, us2⟩ hcW
  dsimp only at hcW
  dsimp only
  refine TS_seq ?_
  refine TS_seq ?_
  refine TS_region ?_
  refine VS_pure (P_move rfl) rfl rfl rfl ?_
  refine VS_pure (P_len il22 rfl) rfl rfl rfl ?_
  refine VS_pure (P_move rfl) rfl rfl rfl ?_
  refine VS_nil ?_
  refine QS_then ?_
  refine TS_block ?_
  refine TS_loop (α := Nat) (fun i => [(0, .slice A cards.length cap), (6, .slice A2 tu.length c2), (7, .slice A4 tw.length c4), (53, .int .i64 (cards.length : Nat)), (54, .int .i64 (i : Nat))]) (fun _ => [own 31 12 A4 tw.length c4 us2, own 31 12 A2 tu.length c2 us1]) (fun i => i ≤ cards.length) (fun i => cards.length - i) 0 ⟨rfl, rfl, rfl, rfl, rfl, trivial⟩ (Pick.refl _) (Nat.zero_le _) ?_
  clear hx0 hat hkm
  rintro i hi
  try dsimp only
  by_cases hlt : i < cards.length
  · have hx := hel i hlt
    have hat := hrd.elem (i * 12) 12
    have hnm := (hok i hlt).2.2.1
    have hbi := (hb i hlt).1
    generalize cards[i] = y at hx hnm hbi
    generalize (vs.drop (i * 12)).take 12 = cs at hx hat
    obtain ⟨PA, la, ca, PB, lb, cb, PD, ld, cd, rfl, -⟩ := hx
    refine TS_seq ?_
    refine TS_region ?_
    refine VS_pure (dt (P_lss rfl rfl) (by omega)) rfl rfl rfl ?_
    refine VS_nil ?_
    refine QS_then ?_
    refine TS_seq ?_
    refine TS_true rfl ?_
    refine TS_skip ?_
    refine QS_then ?_
    refine TS_seq ?_
    refine TS_block ?_
    refine TS_seq ?_
    refine TS_region ?_
    refine VS_pure (P_move rfl) rfl rfl rfl ?_
    refine VS_pure (P_assign rfl) rfl rfl rfl ?_
    refine VS_nil ?_
    refine QS_then ?_
    refine TS_seq ?_
    refine TS_region ?_
    refine VS_pure (P_move rfl) rfl rfl rfl ?_
    refine VS_pure (P_move rfl) rfl rfl rfl ?_
    refine VS_pure (P_indexAddrN ez22 rfl rfl hA (by omega)) rfl rfl rfl ?_
    refine VS_pure (P_fieldAddr fo31_0 rfl) rfl rfl rfl ?_
    refine VS_read (S_load sg9 rfl (hat.at_ rfl)) rfl rfl rfl ?_
    refine VS_step (S_callR cl7 rfl (fun m' hm he => (NameR_ok (by omega))) rfl ?_) rfl
    rintro _ rfl
    rw [hnm]
    refine VS_pure (P_not rfl) rfl rfl rfl ?_
    refine VS_nil ?_
    refine QS_then ?_
    refine TS_false rfl ?_
    refine TS_skip ?_
    refine QS_block ?_
    refine QS_then ?_
    refine TS_region ?_
    refine VS_pure (P_add rfl rfl (w64 (by omega) (by omega))) rfl rfl rfl ?_
    refine VS_pure (P_move rfl) rfl rfl rfl ?_
    refine VS_nil ?_
    exact QS_round (i + 1) ⟨rfl, rfl, rfl, rfl, rfl, trivial⟩ (Pick.refl _) hlt (by omega)
  have C2 : ∀ m1, Le m m1 → (own 31 12 A4 tw.length c4 us2).inv m1 → CS Tryd.prog 5 [.slice A4 tw.length c4] m1 [] (fun v L' => L' = [] ∧ ∃ e a, v = faultV e a ∧ CheckPost tw e a) := fun m1 hm h =>
    Check5 (hT.mono hm) ⟨rfl, by rw [hl2]; simp only [maxLen]; omega, _, Eng.Own.rd h, (hcW.mono hm).1, (hcW.mono hm).2⟩ (fun _ i hi => M2 _ (List.getElem_mem hi))
  have C1 : ∀ m1, Le m m1 → (own 31 12 A2 tu.length c2 us1).inv m1 → CS Tryd.prog 5 [.slice A2 tu.length c2] m1 [] (fun v L' => L' = [] ∧ ∃ e a, v = faultV e a ∧ CheckPost tu e a) := fun m1 hm h =>
    Check5 (hT.mono hm) ⟨rfl, by rw [hl1]; simp only [maxLen]; omega, _, Eng.Own.rd h, (hcDT.mono hm).1, (hcDT.mono hm).2⟩ (fun _ i hi => M1 _ (List.getElem_mem hi))
  refine TS_seq ?_
  refine TS_region ?_
  refine VS_pure (df (P_lss rfl rfl) (by omega)) rfl rfl rfl ?_
  refine VS_nil ?_
  refine QS_then ?_
  refine TS_seq ?_
  refine TS_false rfl ?_
  refine TS_exit ?_
  refine QS_then_exit ?_
  refine QS_round_exit ?_
  refine QS_block_here ?_
  refine QS_then ?_
  refine TS_seq ?_
  refine TS_region ?_
  refine VS_pure (P_move rfl) rfl rfl rfl ?_
  refine VS_step ((S_call cl5 rfl (fun m1 hm he => C2 m1 hm (he _ (.head _))) rfl ?_)) rfl
  rintro _ _ ⟨rfl, e, a, rfl, hp⟩
  have hp2 := K2 hp
  clear hp
  unfold faultV
  refine VS_step (S_alloc zl26 rfl (fun b2 => ?_)) rfl
  refine VS_step (S_storeAgg ag26 rfl rfl rfl (.here) rfl rfl ?_) rfl
  refine VS_nil ?_
  refine QS_then ?_
  refine TS_seq ?_
  refine TS_region ?_
  refine VS_pure (P_move rfl) rfl rfl rfl ?_
  refine VS_step ((S_call cl5 rfl (fun m1 hm he => C1 m1 hm (he _ (.tail _ (.tail _ (.head _))))) rfl ?_)) rfl
  rintro _ _ ⟨rfl, e1, a1, rfl, hp⟩
  obtain rfl := hp.of_ok (by omega) K1
  clear hp
  unfold faultV
  rcases hp2 with rfl | ⟨rfl, hlong⟩
  · refine VS_pure (P_field1 fo26_0 ft26_0 fs26_0 rfl rfl) rfl rfl rfl ?_
    refine VS_pure (dt (P_eql rfl rfl) rfl) rfl rfl rfl ?_
    refine VS_pure (P_move rfl) rfl rfl rfl ?_
    refine VS_pure (P_fieldAddr0 fo26_0 rfl) rfl rfl rfl ?_
    refine VS_read (S_loadB sg24 rfl (.here) rfl) rfl rfl rfl ?_
    refine VS_pure (dt (P_eql rfl rfl) rfl) rfl rfl rfl ?_
    refine VS_pure (P_move rfl) rfl rfl rfl ?_
    iterate 8 (refine VS_skip rfl rfl rfl ?_)
    refine VS_pure (P_pick_t rfl rfl) rfl rfl rfl ?_
    refine VS_pure (P_pick_t rfl rfl) rfl rfl rfl ?_
    refine VS_pure (P_move rfl) rfl rfl rfl ?_
    refine VS_step (S_callR cl6 rfl (fun m' hm he => (wakes6 (hT.mono hm))) rfl ?_) rfl
    rintro _ rfl
    refine VS_pure (P_pick_t rfl rfl) rfl rfl rfl ?_
    refine VS_pure (P_assign rfl) rfl rfl rfl ?_
    refine VS_nil ?_
    refine QS_then ?_
    refine TS_ret ?_
    exact QS_ret [_] ⟨rfl, trivial⟩ [] (Pick.nil _) ⟨rfl, rfl⟩
  · refine VS_pure (P_field1 fo26_0 ft26_0 fs26_0 rfl rfl) rfl rfl rfl ?_
    refine VS_pure (dt (P_eql rfl rfl) rfl) rfl rfl rfl ?_
    refine VS_pure (P_move rfl) rfl rfl rfl ?_
    refine VS_pure (P_fieldAddr0 fo26_0 rfl) rfl rfl rfl ?_
    refine VS_read (S_loadB sg24 rfl (.here) rfl) rfl rfl rfl ?_
    refine VS_pure (df (P_eql rfl rfl) (by omega)) rfl rfl rfl ?_
    refine VS_pure (P_move rfl) rfl rfl rfl ?_
    refine VS_pure (P_fieldAddr0 fo26_0 rfl) rfl rfl rfl ?_
    refine VS_read (S_loadB sg24 rfl (.here) rfl) rfl rfl rfl ?_
    refine VS_pure (dt (P_eql rfl rfl) rfl) rfl rfl rfl ?_
    refine VS_pure (P_move rfl) rfl rfl rfl ?_
    refine VS_pure (P_move rfl) rfl rfl rfl ?_
    refine VS_pure (P_len il22 rfl) rfl rfl rfl ?_
    refine VS_pure (dt (P_gtr rfl rfl) (by omega)) rfl rfl rfl ?_
    refine VS_pure (P_pick_t rfl rfl) rfl rfl rfl ?_
    refine VS_pure (P_pick_f rfl rfl) rfl rfl rfl ?_
    refine VS_pure (P_pick_t rfl rfl) rfl rfl rfl ?_
    refine VS_pure (P_move rfl) rfl rfl rfl ?_
    refine VS_step (S_callR cl6 rfl (fun m' hm he => (wakes6 (hT.mono hm))) rfl ?_) rfl
    rintro _ rfl
    refine VS_pure (P_pick_t rfl rfl) rfl rfl rfl ?_
    refine VS_pure (P_assign rfl) rfl rfl rfl ?_
    refine VS_nil ?_
    refine QS_then ?_
    refine TS_ret ?_
    exact QS_ret [_] ⟨rfl, trivial⟩ [] (Pick.nil _) ⟨rfl, rfl⟩
end Go.Proofs.YtbghonkgflolaaaDoor
