/- A part of the proof: contracts of functions of the program. No condition. -/
import Derived.Test.YtbghonkgflolaaaDoorKdC
namespace Go.Proofs.YtbghonkgflolaaaDoor
open Go.Eng Kd
set_option maxRecDepth 100000
def partV : PartT → Addr → Value
  | .eff _, a => .iface 62 (.agg [.pointer (some a)].toArray)
  | .num _, a => .iface 66 (.agg [.pointer (some a)].toArray)
  | .cond _, a => .iface 87 (.agg [.pointer (some a)].toArray)
def partC (m : Mp) (cs : List Value) : PartT → Prop
  | .eff x => EffR m cs x
  | .num x => NumR m cs x
  | .cond x => CondR m cs x
/-- a part as it is handed to a call -/
def PartR (m : Mp) (v : Value) (p : PartT) : Prop := ∃ a cs, v = partV p a ∧ At m a cs ∧ partC m cs p
theorem partC.mono {m m' : Mp} {cs : List Value} {p : PartT} (h : partC m cs p) (hl : Le m m') : partC m' cs p := by
  cases p with
  | eff x => exact EffR.mono h hl
  | num x => exact NumR.mono h hl
  | cond x => exact CondR.mono h hl
theorem PartR.mono {m m' : Mp} {v : Value} {p : PartT} (h : PartR m v p) (hl : Le m m') : PartR m' v p := let ⟨a, cs, e, h1, h2⟩ := h; ⟨a, cs, e, h1.mono hl, h2.mono hl⟩
theorem PartR.num {m : Mp} {a : Addr} {cs : List Value} {x : NumT} (h : At m a cs) (hx : NumR m cs x) : PartR m (.iface 66 (.agg [.pointer (some a)].toArray)) (.num x) := ⟨a, cs, rfl, h, hx⟩
theorem PartR.cond {m : Mp} {a : Addr} {cs : List Value} {x : CondT} (h : At m a cs) (hx : CondR m cs x) : PartR m (.iface 87 (.agg [.pointer (some a)].toArray)) (.cond x) := ⟨a, cs, rfl, h, hx⟩
theorem PartR.eff {m : Mp} {a : Addr} {cs : List Value} {x : EffT} (h : At m a cs) (hx : EffR m cs x) : PartR m (.iface 62 (.agg [.pointer (some a)].toArray)) (.eff x) := ⟨a, cs, rfl, h, hx⟩
def PartsR (m : Mp) (vs : List Value) (ps : List PartT) : Prop := vs.length = ps.length ∧ ∀ (i : Nat) (w : Value) (q : PartT), vs[i]? = some w → ps[i]? = some q → PartR m w q
theorem PartsR.nil {m : Mp} : PartsR m [] [] := ⟨rfl, fun i w q h => by simp at h⟩
theorem PartsR.snoc {m : Mp} {vs : List Value} {ps : List PartT} {w : Value} {q : PartT} (h : PartsR m vs ps) (hw : PartR m w q) : PartsR m (vs ++ [w]) (ps ++ [q]) := by
  refine ⟨by simp [h.1], fun i w' q' h1 h2 => ?_⟩
  by_cases hi : i < vs.length
  · rw [List.getElem?_append_left hi] at h1
    rw [List.getElem?_append_left (by rw [← h.1]; exact hi)] at h2
    exact h.2 i w' q' h1 h2
  · rw [List.getElem?_append_right (by omega)] at h1
    rw [List.getElem?_append_right (by rw [← h.1]; omega), ← h.1] at h2
    cases hj : i - vs.length with
    | zero =>
      rw [hj] at h1 h2
      simp at h1 h2
      subst h1 h2
      exact hw
    | succ j =>
      rw [hj] at h1
      simp at h1
def preK (c : CondT) (t e : List EffT) : Nat → List PartT
  | 0 => [.cond c]
  | 1 => [.cond c] ++ t.map .eff
  | _ => ([.cond c] ++ t.map .eff) ++ e.map .eff
theorem flat_pos {p : PartT} {l : List PartT} (h : Flat p l) : 1 ≤ l.length := by cases h; simp
theorem flatten_len {ls : List (List PartT)} (h : ∀ l ∈ ls, 1 ≤ l.length) : ls.length ≤ ls.flatten.length ∧ ∀ l ∈ ls, l.length ≤ ls.flatten.length := by
  induction ls with
  | nil => exact ⟨Nat.le_refl _, fun l h => by cases h⟩
  | cons x r ih =>
    obtain ⟨h1, h2⟩ := ih fun l hl => h l (List.mem_cons_of_mem _ hl)
    have h3 := h x List.mem_cons_self
    refine ⟨by simp only [List.length_cons, List.flatten_cons, List.length_append]; omega, fun l hl => ?_⟩
    simp only [List.flatten_cons, List.length_append]
    rcases List.mem_cons.1 hl with rfl | hl
    · omega
    · have := h2 l hl; omega
theorem flat_lens {ps : List PartT} {ls : List (List PartT)} (hl : ls.length = ps.length) (hk : ∀ (i : Nat) (h : i < ps.length), Flat ps[i] (ls[i]'(by omega))) : ps.length ≤ ls.flatten.length ∧ ∀ (i : Nat) (h : i < ls.length), ls[i].length ≤ ls.flatten.length := by
  have h0 : ∀ l ∈ ls, 1 ≤ l.length := fun l hm => by
    obtain ⟨i, hi, rfl⟩ := List.getElem_of_mem hm
    exact flat_pos (hk i (by omega))
  obtain ⟨h1, h2⟩ := flatten_len h0
  exact ⟨by omega, fun i h => h2 _ (List.getElem_mem h)⟩
theorem snocL (vs : List Value) (w : Value) : vs.length + 1 = (vs ++ [w]).length := by simp
theorem take_map1 {α : Type} {g : α → PartT} {l : List α} {i : Nat} (h : i < l.length) : (l.take (i + 1)).map g = (l.take i).map g ++ [g l[i]] := by
  rw [List.take_add_one, List.getElem?_eq_getElem h, Option.toList_some, List.map_append]
  rfl

set_option maxHeartbeats 32000000 in
theorem each_ok {σ : Type} {g : Nat} {q : List Value} {E : σ → Ent} {f : PartT → σ → σ × Bool} {I : σ → Prop} {m : Mp} (hI : ∀ p s, I s → (f p s).2 = true → I (f p s).1) (hcl : callable Tryd.prog g = true)
    (hsee : ∀ m', Le m m' → ∀ v p s, I s → PartR m' v p → CS Tryd.prog g (([] ++ [v]) ++ q) m' [E s] (fun v' L' => v' = .bool (f p s).2 ∧ L' = [E (f p s).1])) {p : PartT} {l : List PartT} (hF : Flat p l) : l.length ≤ 4000 →
    ∀ m', Le m m' → ∀ v, PartR m' v p → ∀ s, I s → CS Tryd.prog 34 [v, .func (.func g) #[] q.toArray] m' [E s] (fun v' L' => v' = .bool (goL f l s).2 ∧ L' = [E (goL f l s).1]) := by
  induction hF with
  | @mk p ls hl hk ih =>
  intro hlen m' hm' v hv s hs
  obtain ⟨hkn, hkm⟩ := flat_lens hl hk
  simp only [List.length_cons] at hlen
  refine CS_of [.tmp 4] Tryd.func34 rfl rfl rfl ?_
  refine TS_seq ?_
  refine TS_region ?_
  refine VS_pure (P_assign rfl) rfl rfl rfl ?_
  refine VS_nil ?_
  refine QS_then ?_
  refine TS_seq ?_
  refine TS_seq ?_
  refine TS_region ?_
  refine VS_pure (P_move rfl) rfl rfl rfl ?_
  refine VS_pure (P_move rfl) rfl rfl rfl ?_
  refine VS_step ((S_callVL (p := []) (q := q) hcl rfl rfl (.cons .here .nil) (fun m1 hm he => hsee m1 (hm'.trans hm) v p s hs (hv.mono hm)) rfl ?_)) rfl
  rintro _ _ ⟨rfl, rfl⟩
  have hgo : goL f (p :: ls.flatten) s = if (f p s).2 then goL f ls.flatten (f p s).1 else ((f p s).1, false) := rfl
  cases hfp : (f p s).2 with
  | false =>
    refine VS_pure (P_not rfl) rfl rfl rfl ?_
    refine VS_nil ?_
    refine QS_then ?_
    refine TS_true rfl ?_
    refine TS_seq ?_
    refine TS_region ?_
    refine VS_pure (P_assign rfl) rfl rfl rfl ?_
    refine VS_nil ?_
    refine QS_then ?_
    refine TS_ret ?_
    refine QS_then_ret ?_
    exact QS_ret [_] ⟨rfl, trivial⟩ [_] (.cons .here (.nil _)) ⟨by rw [hgo, hfp]; rfl, by rw [hgo, hfp]; rfl⟩
  | true =>
    rw [hfp, if_pos rfl] at hgo
    rw [hgo]
    have hs1 := hI p s hs hfp
    generalize (f p s).1 = s1 at hs1 ⊢
    clear hgo hfp
    refine VS_nilOwn 59 1 ?_
    refine VS_pure (P_not rfl) rfl rfl rfl ?_
    refine VS_nil ?_
    refine QS_then ?_
    refine TS_false rfl ?_
    refine TS_skip ?_
    refine QS_then ?_
    refine TS_seq ?_
    refine TS_region ?_
    refine VS_pure (P_assign rfl) rfl rfl rfl ?_
    refine VS_nil ?_
    refine QS_then ?_
    refine TS_seq ?_
    refine TS_seq ?_
    refine TS_cut3 (α := Option Addr × Nat × List Value) (fun y => [(1, .func (.func g) #[] q.toArray), (5, .slice y.1 y.2.2.length y.2.1)]) (fun y => [own 59 1 y.1 y.2.2.length y.2.1 y.2.2, E s1]) (fun y => PartsR m' y.2.2 (kidsP p)) ?_ ?_
    · obtain ⟨a, cs, rfl, hat, hp⟩ := hv
      cases p with
      | eff x =>
        obtain ⟨op, who, nop, nn, nwho, nA, nlen, nc, name, cop, cwho, cname, cA, cla, cca, cB, clb, ccb, A, la, ca, B, lb, cb, n, cond, thn, els, rfl, rfl, ho, hn, hc, ht, he⟩ := EffR.parts hp
        clear hk ih hl hp hkm
        unfold partV
        refine TS_region ?_
        refine VS_pure (P_move rfl) rfl rfl rfl ?_
        refine VS_nil ?_
        refine QS_then ?_
        refine TS_block ?_
        refine TS_seq ?_
        refine TS_region ?_
        refine VS_pure (P_assertYes ni62 us62 rfl) rfl rfl rfl ?_
        refine VS_pure (P_extract rfl rfl) rfl rfl rfl ?_
        refine VS_pure (P_extract rfl rfl) rfl rfl rfl ?_
        refine VS_nil ?_
        refine QS_then ?_
        refine TS_true rfl ?_
        refine TS_seq ?_
        refine TS_region ?_
        refine VS_step (S_alloc zl62 rfl (fun b1 => ?_)) rfl
        refine VS_step (S_storeAgg ag62 rfl rfl rfl (.here) rfl rfl ?_) rfl
        refine VS_nil ?_
        refine QS_then ?_
        refine TS_seq ?_
        refine TS_seq ?_
        refine TS_region ?_
        refine VS_pure (P_fieldAddr0 fo62_0 rfl) rfl rfl rfl ?_
        refine VS_read (S_loadB sg60 rfl (.here) rfl) rfl rfl rfl ?_
        refine VS_pure (P_nilCheck rfl) rfl rfl rfl ?_
        refine VS_pure (P_fieldAddr fo47_0 rfl) rfl rfl rfl ?_
        refine VS_read (S_load sg39 rfl (hat.at_ rfl)) rfl rfl rfl ?_
        refine VS_step (S_callR cl30 rfl (fun m' hm he => (counts30 op)) rfl ?_) rfl
        rintro _ rfl
        cases hcb : countsB op with
        | true =>
          have h8 : ¬ op = 8 := fun e => by subst e; exact absurd hcb (by decide)
          refine VS_nil ?_
          refine QS_then ?_
          refine TS_true rfl ?_
          refine TS_region ?_
          refine VS_pure (P_move rfl) rfl rfl rfl ?_
          refine VS_pure (P_fieldAddr0 fo62_0 rfl) rfl rfl rfl ?_
          refine VS_read (S_loadB sg60 rfl (.here) rfl) rfl rfl rfl ?_
          refine VS_pure (P_nilCheck rfl) rfl rfl rfl ?_
          refine VS_pure (P_fieldAddr fo47_2 rfl) rfl rfl rfl ?_
          refine VS_pure (P_build zl66 pl66 rfl rfl) rfl rfl rfl ?_
          refine VS_pure (P_mkIface ni66 us66 rfl) rfl rfl rfl ?_
          refine VS_step (S_buildSlice sl85 rfl rfl rfl rfl (fun b2 => ?_)) rfl
          refine VS_step (S_append sl85 rfl rfl rfl rfl (.here) (fun _ _ => (.there (.there (.here)))) rfl rfl (by first | omega | (simp only [maxLen]; omega)) (by omega) rfl (fun A1 c1 => ?_)) rfl
          refine VS_pure (P_assign rfl) rfl rfl rfl ?_
          refine VS_nil ?_
          refine QS_then ?_
          refine TS_seq ?_
          refine TS_region ?_
          refine VS_pure (P_fieldAddr0 fo62_0 rfl) rfl rfl rfl ?_
          refine VS_read (S_loadB sg60 rfl (.there (.here)) rfl) rfl rfl rfl ?_
          refine VS_pure (P_nilCheck rfl) rfl rfl rfl ?_
          refine VS_pure (P_fieldAddr fo47_0 rfl) rfl rfl rfl ?_
          refine VS_read (S_load sg39 rfl (hat.at_ rfl)) rfl rfl rfl ?_
          refine VS_pure (df (P_eql rfl rfl) (by assumption)) rfl rfl rfl ?_
          refine VS_nil ?_
          refine QS_then ?_
          refine TS_false rfl ?_
          refine TS_skip ?_
          refine QS_block ?_
          refine QS_round (A1, c1, [_]) ⟨rfl, rfl, trivial⟩ (.cons (.there (.there .here)) (.cons (.there (.there .here)) (.nil _))) ?_ (by decide)
          simp only [kidsP]
          rw [hcb, if_pos rfl, if_neg h8]
          exact PartsR.nil.snoc (.num (hat.sub 2 4) hn)
        | false =>
          by_cases h8 : op = 8
          · obtain ⟨ht1, ht2, tvs, ht3, ht4, ht5⟩ := ht
            obtain ⟨he1, he2, evs, he3, he4, he5⟩ := he
            subst ht1 he1
            have hkl : thn.length + els.length ≤ 4000 := by
              simp only [kidsP] at hkn
              rw [hcb, if_pos h8] at hkn
              simp only [Bool.false_eq_true, if_false, List.nil_append, List.length_cons, List.length_append, List.length_map] at hkn
              omega
            clear hkn
            refine VS_nil ?_
            refine QS_then ?_
            refine TS_false rfl ?_
            refine TS_skip ?_
            refine QS_then ?_
            refine TS_seq ?_
            refine TS_region ?_
            refine VS_pure (P_fieldAddr0 fo62_0 rfl) rfl rfl rfl ?_
            refine VS_read (S_loadB sg60 rfl (.here) rfl) rfl rfl rfl ?_
            refine VS_pure (P_nilCheck rfl) rfl rfl rfl ?_
            refine VS_pure (P_fieldAddr fo47_0 rfl) rfl rfl rfl ?_
            refine VS_read (S_load sg39 rfl (hat.at_ rfl)) rfl rfl rfl ?_
            refine VS_pure (dt (P_eql rfl rfl) (by assumption)) rfl rfl rfl ?_
            refine VS_nil ?_
            refine QS_then ?_
            refine TS_true rfl ?_
            refine TS_seq ?_
            refine TS_region ?_
            refine VS_pure (P_move rfl) rfl rfl rfl ?_
            refine VS_pure (P_fieldAddr0 fo62_0 rfl) rfl rfl rfl ?_
            refine VS_read (S_loadB sg60 rfl (.here) rfl) rfl rfl rfl ?_
            refine VS_pure (P_nilCheck rfl) rfl rfl rfl ?_
            refine VS_pure (P_fieldAddr fo47_4 rfl) rfl rfl rfl ?_
            refine VS_pure (P_build zl87 pl87 rfl rfl) rfl rfl rfl ?_
            refine VS_pure (P_mkIface ni87 us87 rfl) rfl rfl rfl ?_
            refine VS_step (S_buildSlice sl85 rfl rfl rfl rfl (fun b2 => ?_)) rfl
            refine VS_step (S_append sl85 rfl rfl rfl rfl (.here) (fun _ _ => (.there (.there (.here)))) rfl rfl (by first | omega | (simp only [maxLen]; omega)) (by omega) rfl (fun A1 c1 => ?_)) rfl
            refine VS_pure (P_assign rfl) rfl rfl rfl ?_
            refine VS_nil ?_
            refine QS_then ?_
            refine TS_seq ?_
            refine TS_draw (.step 0 .pure (.step 5 .pure (.step 11 .pure (.step 1 .read (.step 2 .pure (.step 3 .pure (.step 4 .read (.step 6 .read (.step 7 .pure (.step 8 .pure (.step 9 .read (.step 10 .pure (.done))))))))))))) mixed (by kernel_rfl) (fun _ _ _ _ hq => hq) ?_
            refine VTS_pure rfl (P_fieldAddr0 fo62_0 rfl) rfl rfl rfl ?_
            refine VTS_pure rfl (P_fieldAddr0 fo62_0 rfl) rfl rfl rfl ?_
            refine VTS_pure rfl (P_move rfl) rfl rfl rfl ?_
            refine VTS_read rfl (S_loadB sg60 rfl (.there (.here)) rfl) rfl rfl rfl ?_
            refine VTS_pure rfl (P_nilCheck rfl) rfl rfl rfl ?_
            refine VTS_pure rfl (P_fieldAddr fo47_5 rfl) rfl rfl rfl ?_
            refine VTS_read rfl (S_load sg29 rfl (hat.at_ rfl)) rfl rfl rfl ?_
            refine VTS_read rfl (S_loadB sg60 rfl (.there (.here)) rfl) rfl rfl rfl ?_
            refine VTS_pure rfl (P_nilCheck rfl) rfl rfl rfl ?_
            refine VTS_pure rfl (P_fieldAddr fo47_6 rfl) rfl rfl rfl ?_
            refine VTS_read rfl (S_load sg29 rfl (hat.at_ rfl)) rfl rfl rfl ?_
            refine VTS_pure rfl (P_buildArr ar88 zl88 rfl rfl) rfl rfl rfl ?_
            refine VTS_nil ?_
            refine QS_then ?_
            refine TS_block ?_
            refine TS_loop4 (β := List Value) (fun k A' c' vals => [(1, .func (.func g) #[] q.toArray), (5, .slice A' vals.length c'), (65, .agg [.slice A thn.length ca, .slice B els.length cb].toArray), (66, .int .i64 (k : Nat))]) (fun k A' c' vals => [own 59 1 A' vals.length c' vals, E s1]) (fun k vals => k ≤ 2 ∧ PartsR m' vals (preK cond thn els k)) (fun k => 2 - k) 0 A1 c1 _ ⟨rfl, rfl, rfl, rfl, trivial⟩ (.cons (.there (.there .here)) (.cons (.there (.there .here)) (.nil _))) ⟨by decide, PartsR.nil.snoc (.cond (hat.sub 7 5) hc)⟩ ?_
            rintro k A' c' vals ⟨hk2, hvk⟩
            try dsimp only at hvk
            try dsimp only
            match k, hk2, hvk with
            | 0, _, hvk =>
              refine TS_seq ?_
              refine TS_region ?_
              refine VS_pure (dt (P_lss rfl rfl) (by omega)) rfl rfl rfl ?_
              refine VS_nil ?_
              refine QS_then ?_
              refine TS_seq ?_
              refine TS_true rfl ?_
              refine TS_skip ?_
              refine QS_then ?_
              refine TS_seq ?_
              refine TS_block ?_
              refine TS_seq ?_
              refine TS_region ?_
              refine VS_pure (P_index1 ar88 ars88 rfl rfl (by omega) (by omega) rfl) rfl rfl rfl ?_
              refine VS_pure (P_assign rfl) rfl rfl rfl ?_
              refine VS_nil ?_
              refine QS_then ?_
              refine TS_seq ?_
              refine TS_region ?_
              refine VS_pure (P_move rfl) rfl rfl rfl ?_
              refine VS_pure (P_len il29 rfl) rfl rfl rfl ?_
              refine VS_pure (P_move rfl) rfl rfl rfl ?_
              refine VS_nil ?_
              refine QS_then ?_
              refine TS_block ?_
              refine TS_loop4 (β := List Value) (fun j A' c' vals => [(1, .func (.func g) #[] q.toArray), (5, .slice A' vals.length c'), (65, .agg [.slice A thn.length ca, .slice B els.length cb].toArray), (66, .int .i64 0), (8, .slice A thn.length ca), (70, .int .i64 (thn.length : Nat)), (71, .int .i64 (j : Nat))]) (fun j A' c' vals => [own 59 1 A' vals.length c' vals, E s1]) (fun j vals => j ≤ thn.length ∧ PartsR m' vals ([.cond cond] ++ (thn.take j).map .eff)) (fun j => thn.length - j) 0 A' c' vals ⟨rfl, rfl, rfl, rfl, rfl, rfl, rfl, trivial⟩ (Pick.refl _) ⟨Nat.zero_le _, by rw [List.take_zero, List.map_nil, List.append_nil]; exact hvk⟩ ?_
              rintro j A' c' vals ⟨hj, hvj⟩
              try dsimp only at hvj
              try dsimp only
              have hvl : vals.length ≤ 4001 := by
                rw [hvj.1]
                simp only [preK, List.length_append, List.length_cons, List.length_map, List.length_take, List.length_nil]
                omega
              by_cases hlt : j < thn.length
              · have hA : A.isSome = true := ht3.isSome (by omega)
                have hel := ht3.elem (j * 14) 14
                have hpe := PartR.eff hel (ht5 j hlt)
                refine TS_seq ?_
                refine TS_region ?_
                refine VS_pure (dt (P_lss rfl rfl) (by omega)) rfl rfl rfl ?_
                refine VS_nil ?_
                refine QS_then ?_
                refine TS_seq ?_
                refine TS_true rfl ?_
                refine TS_skip ?_
                refine QS_then ?_
                refine TS_seq ?_
                refine TS_block ?_
                refine TS_seq ?_
                refine TS_region ?_
                refine VS_pure (P_move rfl) rfl rfl rfl ?_
                refine VS_pure (P_assign rfl) rfl rfl rfl ?_
                refine VS_nil ?_
                refine QS_then ?_
                refine TS_region ?_
                iterate 3 (refine VS_pure (P_move rfl) rfl rfl rfl ?_)
                refine VS_pure (P_indexAddrN ez29 rfl rfl hA (by omega)) rfl rfl rfl ?_
                refine VS_pure (P_build zl62 pl62 rfl rfl) rfl rfl rfl ?_
                refine VS_pure (P_mkIface ni62 us62 rfl) rfl rfl rfl ?_
                refine VS_step (S_buildSlice sl85 rfl rfl rfl rfl (fun b3 => ?_)) rfl
                refine VS_step (S_append sl85 rfl rfl rfl rfl (.here) (fun _ _ => (.there (.here))) rfl rfl (by first | omega | (simp only [maxLen]; omega)) (by omega) rfl (fun A2 c2 => ?_)) rfl
                refine VS_pure (P_assign rfl) rfl rfl rfl ?_
                refine VS_nil ?_
                refine QS_block ?_
                refine QS_then ?_
                refine TS_region ?_
                refine VS_pure (P_add rfl rfl (w64 (by omega) (by omega))) rfl rfl rfl ?_
                refine VS_pure (P_move rfl) rfl rfl rfl ?_
                refine VS_nil ?_
                rw [snocL]
                refine QS_round4 (Le.refl _) (j + 1) A2 c2 _ ⟨rfl, rfl, rfl, rfl, rfl, rfl, rfl, trivial⟩ (.cons (.there .here) (.cons (.there .here) (.nil _))) ⟨hlt, ?_⟩ (by omega)
                rw [take_map1 hlt, ← List.append_assoc]
                exact hvj.snoc hpe
              · have hje : j = thn.length := by omega
                subst hje
                refine TS_seq ?_
                refine TS_region ?_
                refine VS_pure (df (P_lss rfl rfl) (by omega)) rfl rfl rfl ?_
                refine VS_nil ?_
                refine QS_then ?_
                refine TS_seq ?_
                refine TS_false rfl ?_
                refine TS_exit ?_
                refine QS_then_exit ?_
                refine QS_round4_exit ?_
                refine QS_block_here ?_
                refine QS_block ?_
                refine QS_then ?_
                refine TS_region ?_
                refine VS_pure (P_add rfl rfl (w64 (by omega) (by omega))) rfl rfl rfl ?_
                refine VS_pure (P_move rfl) rfl rfl rfl ?_
                refine VS_nil ?_
                refine QS_round4 (Le.refl _) 1 A' c' vals ⟨rfl, rfl, rfl, rfl, trivial⟩ (Pick.refl _) ⟨by decide, ?_⟩ (by omega)
                rw [List.take_length] at hvj
                exact hvj
            | 1, _, hvk =>
              refine TS_seq ?_
              refine TS_region ?_
              refine VS_pure (dt (P_lss rfl rfl) (by omega)) rfl rfl rfl ?_
              refine VS_nil ?_
              refine QS_then ?_
              refine TS_seq ?_
              refine TS_true rfl ?_
              refine TS_skip ?_
              refine QS_then ?_
              refine TS_seq ?_
              refine TS_block ?_
              refine TS_seq ?_
              refine TS_region ?_
              refine VS_pure (P_index1 ar88 ars88 rfl rfl (by omega) (by omega) rfl) rfl rfl rfl ?_
              refine VS_pure (P_assign rfl) rfl rfl rfl ?_
              refine VS_nil ?_
              refine QS_then ?_
              refine TS_seq ?_
              refine TS_region ?_
              refine VS_pure (P_move rfl) rfl rfl rfl ?_
              refine VS_pure (P_len il29 rfl) rfl rfl rfl ?_
              refine VS_pure (P_move rfl) rfl rfl rfl ?_
              refine VS_nil ?_
              refine QS_then ?_
              refine TS_block ?_
              refine TS_loop4 (β := List Value) (fun j A' c' vals => [(1, .func (.func g) #[] q.toArray), (5, .slice A' vals.length c'), (65, .agg [.slice A thn.length ca, .slice B els.length cb].toArray), (66, .int .i64 1), (8, .slice B els.length cb), (70, .int .i64 (els.length : Nat)), (71, .int .i64 (j : Nat))]) (fun j A' c' vals => [own 59 1 A' vals.length c' vals, E s1]) (fun j vals => j ≤ els.length ∧ PartsR m' vals (preK cond thn els 1 ++ (els.take j).map .eff)) (fun j => els.length - j) 0 A' c' vals ⟨rfl, rfl, rfl, rfl, rfl, rfl, rfl, trivial⟩ (Pick.refl _) ⟨Nat.zero_le _, by rw [List.take_zero, List.map_nil, List.append_nil]; exact hvk⟩ ?_
              rintro j A' c' vals ⟨hj, hvj⟩
              try dsimp only at hvj
              try dsimp only
              have hvl : vals.length ≤ 4001 := by
                rw [hvj.1]
                simp only [preK, List.length_append, List.length_cons, List.length_map, List.length_take, List.length_nil]
                omega
              by_cases hlt : j < els.length
              · have hA : B.isSome = true := he3.isSome (by omega)
                have hel := he3.elem (j * 14) 14
                have hpe := PartR.eff hel (he5 j hlt)
                refine TS_seq ?_
                refine TS_region ?_
                refine VS_pure (dt (P_lss rfl rfl) (by omega)) rfl rfl rfl ?_
                refine VS_nil ?_
                refine QS_then ?_
                refine TS_seq ?_
                refine TS_true rfl ?_
                refine TS_skip ?_
                refine QS_then ?_
                refine TS_seq ?_
                refine TS_block ?_
                refine TS_seq ?_
                refine TS_region ?_
                refine VS_pure (P_move rfl) rfl rfl rfl ?_
                refine VS_pure (P_assign rfl) rfl rfl rfl ?_
                refine VS_nil ?_
                refine QS_then ?_
                refine TS_region ?_
                iterate 3 (refine VS_pure (P_move rfl) rfl rfl rfl ?_)
                refine VS_pure (P_indexAddrN ez29 rfl rfl hA (by omega)) rfl rfl rfl ?_
                refine VS_pure (P_build zl62 pl62 rfl rfl) rfl rfl rfl ?_
                refine VS_pure (P_mkIface ni62 us62 rfl) rfl rfl rfl ?_
                refine VS_step (S_buildSlice sl85 rfl rfl rfl rfl (fun b3 => ?_)) rfl
                refine VS_step (S_append sl85 rfl rfl rfl rfl (.here) (fun _ _ => (.there (.here))) rfl rfl (by first | omega | (simp only [maxLen]; omega)) (by omega) rfl (fun A2 c2 => ?_)) rfl
                refine VS_pure (P_assign rfl) rfl rfl rfl ?_
                refine VS_nil ?_
                refine QS_block ?_
                refine QS_then ?_
                refine TS_region ?_
                refine VS_pure (P_add rfl rfl (w64 (by omega) (by omega))) rfl rfl rfl ?_
                refine VS_pure (P_move rfl) rfl rfl rfl ?_
                refine VS_nil ?_
                rw [snocL]
                refine QS_round4 (Le.refl _) (j + 1) A2 c2 _ ⟨rfl, rfl, rfl, rfl, rfl, rfl, rfl, trivial⟩ (.cons (.there .here) (.cons (.there .here) (.nil _))) ⟨hlt, ?_⟩ (by omega)
                rw [take_map1 hlt, ← List.append_assoc]
                exact hvj.snoc hpe
              · have hje : j = els.length := by omega
                subst hje
                refine TS_seq ?_
                refine TS_region ?_
                refine VS_pure (df (P_lss rfl rfl) (by omega)) rfl rfl rfl ?_
                refine VS_nil ?_
                refine QS_then ?_
                refine TS_seq ?_
                refine TS_false rfl ?_
                refine TS_exit ?_
                refine QS_then_exit ?_
                refine QS_round4_exit ?_
                refine QS_block_here ?_
                refine QS_block ?_
                refine QS_then ?_
                refine TS_region ?_
                refine VS_pure (P_add rfl rfl (w64 (by omega) (by omega))) rfl rfl rfl ?_
                refine VS_pure (P_move rfl) rfl rfl rfl ?_
                refine VS_nil ?_
                refine QS_round4 (Le.refl _) 2 A' c' vals ⟨rfl, rfl, rfl, rfl, trivial⟩ (Pick.refl _) ⟨by decide, ?_⟩ (by omega)
                rw [List.take_length] at hvj
                exact hvj
            | 2, _, hvk =>
              refine TS_seq ?_
              refine TS_region ?_
              refine VS_pure (df (P_lss rfl rfl) (by omega)) rfl rfl rfl ?_
              refine VS_nil ?_
              refine QS_then ?_
              refine TS_seq ?_
              refine TS_false rfl ?_
              refine TS_exit ?_
              refine QS_then_exit ?_
              refine QS_round4_exit ?_
              refine QS_block_here ?_
              refine QS_block ?_
              refine QS_round (A', c', vals) ⟨rfl, rfl, trivial⟩ (Pick.refl _) ?_ (by decide)
              simp only [kidsP]
              rw [hcb, if_pos h8]
              exact hvk
          · refine VS_nil ?_
            refine QS_then ?_
            refine TS_false rfl ?_
            refine TS_skip ?_
            refine QS_then ?_
            refine TS_seq ?_
            refine TS_region ?_
            refine VS_pure (P_fieldAddr0 fo62_0 rfl) rfl rfl rfl ?_
            refine VS_read (S_loadB sg60 rfl (.here) rfl) rfl rfl rfl ?_
            refine VS_pure (P_nilCheck rfl) rfl rfl rfl ?_
            refine VS_pure (P_fieldAddr fo47_0 rfl) rfl rfl rfl ?_
            refine VS_read (S_load sg39 rfl (hat.at_ rfl)) rfl rfl rfl ?_
            refine VS_pure (df (P_eql rfl rfl) (by assumption)) rfl rfl rfl ?_
            refine VS_nil ?_
            refine QS_then ?_
            refine TS_false rfl ?_
            refine TS_skip ?_
            refine QS_block ?_
            refine QS_round (none, 0, []) ⟨rfl, rfl, trivial⟩ (.cons (.there .here) (.cons (.there .here) (.nil _))) ?_ (by decide)
            simp only [kidsP]
            rw [hcb, if_neg h8]
            exact PartsR.nil
      | num x =>
        cases hp with
        | @mk op n who kids A len c vs ho hln hm hr hv hkk =>
        subst hln
        have hkl : kids.length ≤ 4000 := by
          simp only [kidsP, List.length_map] at hkn
          omega
        clear hk ih hl hkm hkn
        unfold partV
        refine TS_region ?_
        refine VS_pure (P_move rfl) rfl rfl rfl ?_
        refine VS_nil ?_
        refine QS_then ?_
        refine TS_block ?_
        refine TS_seq ?_
        refine TS_region ?_
        refine VS_pure (P_assertNo ni62 us62 rfl rfl Tryd.zeroValue62) rfl rfl rfl ?_
        refine VS_pure (P_extract rfl rfl) rfl rfl rfl ?_
        refine VS_pure (P_extract rfl rfl) rfl rfl rfl ?_
        refine VS_nil ?_
        refine QS_then ?_
        refine TS_false rfl ?_
        refine TS_seq ?_
        refine TS_region ?_
        refine VS_pure (P_assertYes ni66 us66 rfl) rfl rfl rfl ?_
        refine VS_pure (P_extract rfl rfl) rfl rfl rfl ?_
        refine VS_pure (P_extract rfl rfl) rfl rfl rfl ?_
        refine VS_nil ?_
        refine QS_then ?_
        refine TS_true rfl ?_
        refine TS_seq ?_
        refine TS_region ?_
        refine VS_step (S_alloc zl66 rfl (fun b1 => ?_)) rfl
        refine VS_step (S_storeAgg ag66 rfl rfl rfl (.here) rfl rfl ?_) rfl
        refine VS_nil ?_
        refine QS_then ?_
        refine TS_seq ?_
        refine TS_region ?_
        refine VS_pure (P_fieldAddr0 fo66_0 rfl) rfl rfl rfl ?_
        refine VS_read (S_loadB sg64 rfl (.here) rfl) rfl rfl rfl ?_
        refine VS_pure (P_nilCheck rfl) rfl rfl rfl ?_
        refine VS_pure (P_fieldAddr fo42_3 rfl) rfl rfl rfl ?_
        refine VS_read (S_load sg40 rfl (hat.at_ rfl)) rfl rfl rfl ?_
        refine VS_pure (P_len il40 rfl) rfl rfl rfl ?_
        refine VS_pure (P_move rfl) rfl rfl rfl ?_
        refine VS_nil ?_
        refine QS_then ?_
        refine TS_block ?_
        refine TS_loop4 (β := List Value) (fun j A' c' vals => [(1, .func (.func g) #[] q.toArray), (5, .slice A' vals.length c'), (10, .pointer (some ⟨b1, 0, none⟩)), (92, .int .i64 (kids.length : Nat)), (93, .int .i64 (j : Nat))]) (fun j A' c' vals => [own 59 1 A' vals.length c' vals, cel b1 [.pointer (some a)] 66, E s1]) (fun j vals => j ≤ kids.length ∧ PartsR m' vals ((kids.take j).map .num)) (fun j => kids.length - j) 0 none 0 [] ⟨rfl, rfl, rfl, rfl, rfl, trivial⟩ (.cons (.there .here) (.cons .here (.cons .here (.nil _)))) ⟨Nat.zero_le _, PartsR.nil⟩ ?_
        rintro j A' c' vals ⟨hj, hvj⟩
        try dsimp only at hvj
        try dsimp only
        have hvl : vals.length ≤ 4001 := by
          rw [hvj.1]
          simp only [List.length_append, List.length_cons, List.length_map, List.length_take, List.length_nil]
          omega
        by_cases hlt : j < kids.length
        · have hA : A.isSome = true := hr.isSome (by omega)
          have hel := hr.elem (j * 4) 4
          have hpe := PartR.num hel (hkk j hlt)
          refine TS_seq ?_
          refine TS_region ?_
          refine VS_pure (dt (P_lss rfl rfl) (by omega)) rfl rfl rfl ?_
          refine VS_nil ?_
          refine QS_then ?_
          refine TS_seq ?_
          refine TS_true rfl ?_
          refine TS_skip ?_
          refine QS_then ?_
          refine TS_seq ?_
          refine TS_block ?_
          refine TS_seq ?_
          refine TS_region ?_
          refine VS_pure (P_move rfl) rfl rfl rfl ?_
          refine VS_pure (P_assign rfl) rfl rfl rfl ?_
          refine VS_nil ?_
          refine QS_then ?_
          refine TS_region ?_
          refine VS_pure (P_move rfl) rfl rfl rfl ?_
          refine VS_pure (P_fieldAddr0 fo66_0 rfl) rfl rfl rfl ?_
          refine VS_read (S_loadB sg64 rfl (.there (.here)) rfl) rfl rfl rfl ?_
          refine VS_pure (P_nilCheck rfl) rfl rfl rfl ?_
          refine VS_pure (P_fieldAddr fo42_3 rfl) rfl rfl rfl ?_
          refine VS_read (S_load sg40 rfl (hat.at_ rfl)) rfl rfl rfl ?_
          refine VS_pure (P_move rfl) rfl rfl rfl ?_
          refine VS_pure (P_indexAddrN ez40 rfl rfl hA (by omega)) rfl rfl rfl ?_
          refine VS_pure (P_build zl66 pl66 rfl rfl) rfl rfl rfl ?_
          refine VS_pure (P_mkIface ni66 us66 rfl) rfl rfl rfl ?_
          refine VS_step (S_buildSlice sl85 rfl rfl rfl rfl (fun b2 => ?_)) rfl
          refine VS_step (S_append sl85 rfl rfl rfl rfl (.here) (fun _ _ => (.there (.here))) rfl rfl (by first | omega | (simp only [maxLen]; omega)) (by omega) rfl (fun A1 c1 => ?_)) rfl
          refine VS_pure (P_assign rfl) rfl rfl rfl ?_
          refine VS_nil ?_
          refine QS_block ?_
          refine QS_then ?_
          refine TS_region ?_
          refine VS_pure (P_add rfl rfl (w64 (by omega) (by omega))) rfl rfl rfl ?_
          refine VS_pure (P_move rfl) rfl rfl rfl ?_
          refine VS_nil ?_
          rw [snocL]
          refine QS_round4 (Le.refl _) (j + 1) A1 c1 _ ⟨rfl, rfl, rfl, rfl, rfl, trivial⟩ (.cons (.there .here) (.cons (.there .here) (.cons (.there .here) (.nil _)))) ⟨hlt, ?_⟩ (by omega)
          rw [take_map1 hlt]
          exact hvj.snoc hpe
        · have hje : j = kids.length := by omega
          subst hje
          rw [List.take_length] at hvj
          refine TS_seq ?_
          refine TS_region ?_
          refine VS_pure (df (P_lss rfl rfl) (by omega)) rfl rfl rfl ?_
          refine VS_nil ?_
          refine QS_then ?_
          refine TS_seq ?_
          refine TS_false rfl ?_
          refine TS_exit ?_
          refine QS_then_exit ?_
          refine QS_round4_exit ?_
          refine QS_block_here ?_
          refine QS_block ?_
          refine QS_round (A', c', vals) ⟨rfl, rfl, trivial⟩ (.cons .here (.cons (.there .here) (.nil _))) ?_ (by decide)
          simp only [kidsP]
          exact hvj
      | cond x =>
        cases hp with
        | @mk op who name nums kids A B la ca lb cb vs us ho hw hn hla hma hra hva hka hlb hmb hrb hvb hkb =>
        subst hla hlb
        have hkl : nums.length + kids.length ≤ 4000 := by
          simp only [kidsP, List.length_map, List.length_append] at hkn
          omega
        clear hk ih hl hkm hkn
        unfold partV
        refine TS_region ?_
        refine VS_pure (P_move rfl) rfl rfl rfl ?_
        refine VS_nil ?_
        refine QS_then ?_
        refine TS_block ?_
        refine TS_seq ?_
        refine TS_region ?_
        refine VS_pure (P_assertNo ni62 us62 rfl rfl Tryd.zeroValue62) rfl rfl rfl ?_
        refine VS_pure (P_extract rfl rfl) rfl rfl rfl ?_
        refine VS_pure (P_extract rfl rfl) rfl rfl rfl ?_
        refine VS_nil ?_
        refine QS_then ?_
        refine TS_false rfl ?_
        refine TS_seq ?_
        refine TS_region ?_
        refine VS_pure (P_assertNo ni66 us66 rfl rfl Tryd.zeroValue66) rfl rfl rfl ?_
        refine VS_pure (P_extract rfl rfl) rfl rfl rfl ?_
        refine VS_pure (P_extract rfl rfl) rfl rfl rfl ?_
        refine VS_nil ?_
        refine QS_then ?_
        refine TS_false rfl ?_
        refine TS_seq ?_
        refine TS_region ?_
        refine VS_pure (P_assertYes ni87 us87 rfl) rfl rfl rfl ?_
        refine VS_pure (P_extract rfl rfl) rfl rfl rfl ?_
        refine VS_pure (P_extract rfl rfl) rfl rfl rfl ?_
        refine VS_nil ?_
        refine QS_then ?_
        refine TS_true rfl ?_
        refine TS_seq ?_
        refine TS_region ?_
        refine VS_step (S_alloc zl87 rfl (fun b1 => ?_)) rfl
        refine VS_step (S_storeAgg ag87 rfl rfl rfl (.here) rfl rfl ?_) rfl
        refine VS_nil ?_
        refine QS_then ?_
        refine TS_seq ?_
        refine TS_seq ?_
        refine TS_region ?_
        refine VS_pure (P_fieldAddr0 fo87_0 rfl) rfl rfl rfl ?_
        refine VS_read (S_loadB sg79 rfl (.here) rfl) rfl rfl rfl ?_
        refine VS_pure (P_nilCheck rfl) rfl rfl rfl ?_
        refine VS_pure (P_fieldAddr fo45_3 rfl) rfl rfl rfl ?_
        refine VS_read (S_load sg40 rfl (hat.at_ rfl)) rfl rfl rfl ?_
        refine VS_pure (P_len il40 rfl) rfl rfl rfl ?_
        refine VS_pure (P_move rfl) rfl rfl rfl ?_
        refine VS_nil ?_
        refine QS_then ?_
        refine TS_block ?_
        refine TS_loop4 (β := List Value) (fun j A' c' vals => [(1, .func (.func g) #[] q.toArray), (5, .slice A' vals.length c'), (12, .pointer (some ⟨b1, 0, none⟩)), (117, .int .i64 (nums.length : Nat)), (118, .int .i64 (j : Nat))]) (fun j A' c' vals => [own 59 1 A' vals.length c' vals, cel b1 [.pointer (some a)] 87, E s1]) (fun j vals => j ≤ nums.length ∧ PartsR m' vals ((nums.take j).map .num)) (fun j => nums.length - j) 0 none 0 [] ⟨rfl, rfl, rfl, rfl, rfl, trivial⟩ (.cons (.there .here) (.cons .here (.cons .here (.nil _)))) ⟨Nat.zero_le _, PartsR.nil⟩ ?_
        rintro j A' c' vals ⟨hj, hvj⟩
        try dsimp only at hvj
        try dsimp only
        have hvl : vals.length ≤ 4001 := by
          rw [hvj.1]
          simp only [List.length_append, List.length_cons, List.length_map, List.length_take, List.length_nil]
          omega
        by_cases hlt : j < nums.length
        · have hA : A.isSome = true := hra.isSome (by omega)
          have hel := hra.elem (j * 4) 4
          have hpe := PartR.num hel (hka j hlt)
          refine TS_seq ?_
          refine TS_region ?_
          refine VS_pure (dt (P_lss rfl rfl) (by omega)) rfl rfl rfl ?_
          refine VS_nil ?_
          refine QS_then ?_
          refine TS_seq ?_
          refine TS_true rfl ?_
          refine TS_skip ?_
          refine QS_then ?_
          refine TS_seq ?_
          refine TS_block ?_
          refine TS_seq ?_
          refine TS_region ?_
          refine VS_pure (P_move rfl) rfl rfl rfl ?_
          refine VS_pure (P_assign rfl) rfl rfl rfl ?_
          refine VS_nil ?_
          refine QS_then ?_
          refine TS_region ?_
          refine VS_pure (P_move rfl) rfl rfl rfl ?_
          refine VS_pure (P_fieldAddr0 fo87_0 rfl) rfl rfl rfl ?_
          refine VS_read (S_loadB sg79 rfl (.there (.here)) rfl) rfl rfl rfl ?_
          refine VS_pure (P_nilCheck rfl) rfl rfl rfl ?_
          refine VS_pure (P_fieldAddr fo45_3 rfl) rfl rfl rfl ?_
          refine VS_read (S_load sg40 rfl (hat.at_ rfl)) rfl rfl rfl ?_
          refine VS_pure (P_move rfl) rfl rfl rfl ?_
          refine VS_pure (P_indexAddrN ez40 rfl rfl hA (by omega)) rfl rfl rfl ?_
          refine VS_pure (P_build zl66 pl66 rfl rfl) rfl rfl rfl ?_
          refine VS_pure (P_mkIface ni66 us66 rfl) rfl rfl rfl ?_
          refine VS_step (S_buildSlice sl85 rfl rfl rfl rfl (fun b2 => ?_)) rfl
          refine VS_step (S_append sl85 rfl rfl rfl rfl (.here) (fun _ _ => (.there (.here))) rfl rfl (by first | omega | (simp only [maxLen]; omega)) (by omega) rfl (fun A1 c1 => ?_)) rfl
          refine VS_pure (P_assign rfl) rfl rfl rfl ?_
          refine VS_nil ?_
          refine QS_block ?_
          refine QS_then ?_
          refine TS_region ?_
          refine VS_pure (P_add rfl rfl (w64 (by omega) (by omega))) rfl rfl rfl ?_
          refine VS_pure (P_move rfl) rfl rfl rfl ?_
          refine VS_nil ?_
          rw [snocL]
          refine QS_round4 (Le.refl _) (j + 1) A1 c1 _ ⟨rfl, rfl, rfl, rfl, rfl, trivial⟩ (.cons (.there .here) (.cons (.there .here) (.cons (.there .here) (.nil _)))) ⟨hlt, ?_⟩ (by omega)
          rw [take_map1 hlt]
          exact hvj.snoc hpe
        · have hje : j = nums.length := by omega
          subst hje
          rw [List.take_length] at hvj
          refine TS_seq ?_
          refine TS_region ?_
          refine VS_pure (df (P_lss rfl rfl) (by omega)) rfl rfl rfl ?_
          refine VS_nil ?_
          refine QS_then ?_
          refine TS_seq ?_
          refine TS_false rfl ?_
          refine TS_exit ?_
          refine QS_then_exit ?_
          refine QS_round4_exit ?_
          refine QS_block_here ?_
          refine QS_then ?_
          refine TS_seq ?_
          refine TS_region ?_
          refine VS_pure (P_fieldAddr0 fo87_0 rfl) rfl rfl rfl ?_
          refine VS_read (S_loadB sg79 rfl (.there (.here)) rfl) rfl rfl rfl ?_
          refine VS_pure (P_nilCheck rfl) rfl rfl rfl ?_
          refine VS_pure (P_fieldAddr fo45_4 rfl) rfl rfl rfl ?_
          refine VS_read (S_load sg43 rfl (hat.at_ rfl)) rfl rfl rfl ?_
          refine VS_pure (P_len il43 rfl) rfl rfl rfl ?_
          refine VS_pure (P_move rfl) rfl rfl rfl ?_
          refine VS_nil ?_
          refine QS_then ?_
          refine TS_block ?_
          refine TS_loop4 (β := List Value) (fun j A' c' vals => [(1, .func (.func g) #[] q.toArray), (5, .slice A' vals.length c'), (12, .pointer (some ⟨b1, 0, none⟩)), (139, .int .i64 (kids.length : Nat)), (140, .int .i64 (j : Nat))]) (fun j A' c' vals => [own 59 1 A' vals.length c' vals, cel b1 [.pointer (some a)] 87, E s1]) (fun j vals => j ≤ kids.length ∧ PartsR m' vals (nums.map .num ++ (kids.take j).map .cond)) (fun j => kids.length - j) 0 A' c' vals ⟨rfl, rfl, rfl, rfl, rfl, trivial⟩ (Pick.refl _) ⟨Nat.zero_le _, by rw [List.take_zero, List.map_nil, List.append_nil]; exact hvj⟩ ?_
          rintro j A' c' vals ⟨hj, hvj⟩
          try dsimp only at hvj
          try dsimp only
          have hvl : vals.length ≤ 4001 := by
            rw [hvj.1]
            simp only [List.length_append, List.length_cons, List.length_map, List.length_take, List.length_nil]
            omega
          by_cases hlt : j < kids.length
          · have hA : B.isSome = true := hrb.isSome (by omega)
            have hel := hrb.elem (j * 5) 5
            have hpe := PartR.cond hel (hkb j hlt)
            refine TS_seq ?_
            refine TS_region ?_
            refine VS_pure (dt (P_lss rfl rfl) (by omega)) rfl rfl rfl ?_
            refine VS_nil ?_
            refine QS_then ?_
            refine TS_seq ?_
            refine TS_true rfl ?_
            refine TS_skip ?_
            refine QS_then ?_
            refine TS_seq ?_
            refine TS_block ?_
            refine TS_seq ?_
            refine TS_region ?_
            refine VS_pure (P_move rfl) rfl rfl rfl ?_
            refine VS_pure (P_assign rfl) rfl rfl rfl ?_
            refine VS_nil ?_
            refine QS_then ?_
            refine TS_region ?_
            refine VS_pure (P_move rfl) rfl rfl rfl ?_
            refine VS_pure (P_fieldAddr0 fo87_0 rfl) rfl rfl rfl ?_
            refine VS_read (S_loadB sg79 rfl (.there (.here)) rfl) rfl rfl rfl ?_
            refine VS_pure (P_nilCheck rfl) rfl rfl rfl ?_
            refine VS_pure (P_fieldAddr fo45_4 rfl) rfl rfl rfl ?_
            refine VS_read (S_load sg43 rfl (hat.at_ rfl)) rfl rfl rfl ?_
            refine VS_pure (P_move rfl) rfl rfl rfl ?_
            refine VS_pure (P_indexAddrN ez43 rfl rfl hA (by omega)) rfl rfl rfl ?_
            refine VS_pure (P_build zl87 pl87 rfl rfl) rfl rfl rfl ?_
            refine VS_pure (P_mkIface ni87 us87 rfl) rfl rfl rfl ?_
            refine VS_step (S_buildSlice sl85 rfl rfl rfl rfl (fun b2 => ?_)) rfl
            refine VS_step (S_append sl85 rfl rfl rfl rfl (.here) (fun _ _ => (.there (.here))) rfl rfl (by first | omega | (simp only [maxLen]; omega)) (by omega) rfl (fun A1 c1 => ?_)) rfl
            refine VS_pure (P_assign rfl) rfl rfl rfl ?_
            refine VS_nil ?_
            refine QS_block ?_
            refine QS_then ?_
            refine TS_region ?_
            refine VS_pure (P_add rfl rfl (w64 (by omega) (by omega))) rfl rfl rfl ?_
            refine VS_pure (P_move rfl) rfl rfl rfl ?_
            refine VS_nil ?_
            rw [snocL]
            refine QS_round4 (Le.refl _) (j + 1) A1 c1 _ ⟨rfl, rfl, rfl, rfl, rfl, trivial⟩ (.cons (.there .here) (.cons (.there .here) (.cons (.there .here) (.nil _)))) ⟨hlt, ?_⟩ (by omega)
            rw [take_map1 hlt, ← List.append_assoc]
            exact hvj.snoc hpe
          · have hje : j = kids.length := by omega
            subst hje
            rw [List.take_length] at hvj
            refine TS_seq ?_
            refine TS_region ?_
            refine VS_pure (df (P_lss rfl rfl) (by omega)) rfl rfl rfl ?_
            refine VS_nil ?_
            refine QS_then ?_
            refine TS_seq ?_
            refine TS_false rfl ?_
            refine TS_exit ?_
            refine QS_then_exit ?_
            refine QS_round4_exit ?_
            refine QS_block_here ?_
            refine QS_block ?_
            refine QS_round (A', c', vals) ⟨rfl, rfl, trivial⟩ (.cons .here (.cons (.there .here) (.nil _))) ?_ (by decide)
            simp only [kidsP]
            exact hvj
    rintro ⟨A, c, vs⟩ hvs
    try dsimp only at hvs
    try dsimp only
    have hvl : vs.length = ls.length := by rw [hvs.1, hl]
    refine TS_seq ?_
    refine TS_seq ?_
    refine TS_region ?_
    refine VS_pure (P_move rfl) rfl rfl rfl ?_
    refine VS_pure (P_len il85 rfl) rfl rfl rfl ?_
    refine VS_pure (P_move rfl) rfl rfl rfl ?_
    refine VS_nil ?_
    refine QS_then ?_
    refine TS_block ?_
    refine TS_loop (α := Nat × σ) (fun y => [(1, .func (.func g) #[] q.toArray), (156, .slice A vs.length c), (157, .int .i64 (vs.length : Nat)), (158, .int .i64 (y.1 : Nat))]) (fun y => [own 59 1 A vs.length c vs, E y.2]) (fun y => y.1 ≤ vs.length ∧ goL f (ls.take y.1).flatten s1 = (y.2, true)) (fun y => vs.length - y.1) (0, s1) ⟨rfl, rfl, rfl, rfl, trivial⟩ (Pick.refl _) ⟨Nat.zero_le _, rfl⟩ ?_
    rintro ⟨i, s2⟩ ⟨hi, hgi⟩
    dsimp only at hi hgi ⊢
    by_cases hlt : i < vs.length
    · obtain ⟨w, hw⟩ : ∃ w, vs[i]? = some w := ⟨_, List.getElem?_eq_getElem hlt⟩
      have hpw := hvs.2 i w ((kidsP p)[i]'(by omega)) hw (List.getElem?_eq_getElem (by omega))
      have hgn := goL_next (f := f) (ls := ls) (i := i) (by omega) s1 (by rw [hgi])
      rw [hgi] at hgn
      dsimp only at hgn
      have hc := fun m1 (hm : Le m' m1) => ih i (by omega) (by have := hkm i (by omega); omega) m1 (hm'.trans hm) w (hpw.mono hm) s2 (by have := goL_inv hI (l := (ls.take i).flatten) hs1 (by rw [hgi]); rw [hgi] at this; exact this)
      generalize hgq : goL f (ls[i]'(by omega)) s2 = gq at hgn hc
      obtain ⟨s3, b3⟩ := gq
      dsimp only at hc
      refine TS_fact (own_isSome (A := A) .here (by omega)) (fun hA => ?_)
      refine TS_seq ?_
      refine TS_region ?_
      refine VS_pure (dt (P_lss rfl rfl) (by omega)) rfl rfl rfl ?_
      refine VS_nil ?_
      refine QS_then ?_
      refine TS_seq ?_
      refine TS_true rfl ?_
      refine TS_skip ?_
      refine QS_then ?_
      refine TS_seq ?_
      refine TS_block ?_
      refine TS_seq ?_
      refine TS_region ?_
      refine VS_pure (P_indexAddr1N ez85 rfl rfl hA (by omega)) rfl rfl rfl ?_
      refine VS_read (S_loadO sg59 rfl (.here) hw) rfl rfl rfl ?_
      refine VS_pure (P_assign rfl) rfl rfl rfl ?_
      refine VS_nil ?_
      refine QS_then ?_
      refine TS_seq ?_
      refine TS_region ?_
      refine VS_pure (P_move rfl) rfl rfl rfl ?_
      refine VS_pure (P_move rfl) rfl rfl rfl ?_
      refine VS_step ((S_call1 cl34 rfl (.there .here) (fun m1 hm he => hc m1 hm) rfl ?_)) rfl
      rintro _ _ ⟨rfl, rfl⟩
      cases b3 with
      | true =>
        refine VS_pure (P_not rfl) rfl rfl rfl ?_
        refine VS_nil ?_
        refine QS_then ?_
        refine TS_false rfl ?_
        refine TS_skip ?_
        refine QS_block ?_
        refine QS_then ?_
        refine TS_region ?_
        refine VS_pure (P_add rfl rfl (w64 (by omega) (by omega))) rfl rfl rfl ?_
        refine VS_pure (P_move rfl) rfl rfl rfl ?_
        refine VS_nil ?_
        exact QS_round (i + 1, s3) ⟨rfl, rfl, rfl, rfl, trivial⟩ (.cons (.there .here) (.cons .here (.nil _))) ⟨hlt, hgn⟩ (by dsimp only; omega)
      | false =>
        have hst := goL_stop (f := f) (ls := ls) (i := i + 1) s1 (by rw [hgn])
        rw [hgn] at hst
        refine VS_pure (P_not rfl) rfl rfl rfl ?_
        refine VS_nil ?_
        refine QS_then ?_
        refine TS_true rfl ?_
        refine TS_seq ?_
        refine TS_region ?_
        refine VS_pure (P_assign rfl) rfl rfl rfl ?_
        refine VS_nil ?_
        refine QS_then ?_
        refine TS_ret ?_
        refine QS_block_ret ?_
        refine QS_then_ret ?_
        refine QS_round_ret ?_
        refine QS_block_ret ?_
        refine QS_then_ret ?_
        exact QS_ret [_] ⟨rfl, trivial⟩ [_] (.cons .here (.nil _)) ⟨by simp only [hst]; rfl, by simp only [hst]⟩
    · have hie : i = vs.length := by omega
      subst hie
      rw [List.take_of_length_le (by omega)] at hgi
      refine TS_seq ?_
      refine TS_region ?_
      refine VS_pure (df (P_lss rfl rfl) (by omega)) rfl rfl rfl ?_
      refine VS_nil ?_
      refine QS_then ?_
      refine TS_seq ?_
      refine TS_false rfl ?_
      refine TS_exit ?_
      refine QS_then_exit ?_
      refine QS_round_exit ?_
      refine QS_block_here ?_
      refine QS_then ?_
      refine TS_seq ?_
      refine TS_region ?_
      refine VS_pure (P_assign rfl) rfl rfl rfl ?_
      refine VS_nil ?_
      refine QS_then ?_
      refine TS_ret ?_
      exact QS_ret [_] ⟨rfl, trivial⟩ [_] (.cons (.there .here) (.nil _)) ⟨by simp only [hgi]; rfl, by simp only [hgi]⟩
end Go.Proofs.YtbghonkgflolaaaDoor
