/- A part of the proof: contracts of functions of the program. No condition. -/
import Derived.Test.YtodogmfbafmcmaaFrB
namespace Go.Proofs.Ytodogmfbafmcmaa
open Go.Eng Fr

theorem Next_none (h : Heap) (g : Nat) (b : Value) (at_ : Int) (A : Option Addr) (c : Nat) (need : Int) (step : Value) (br : Bool) (hg : mp h g = some (.cells (rdr b at_ (.slice A 0 c) need step br).toArray 43 (0, 0))) :
    C Try.prog 6 [ptr g].toArray h fun v h' => v = .tuple #[.slice none 0 0, .bool false] ∧ h' = h := by
  refine C_of [2, 3] Try.func6 rfl rfl rfl ?_
  refine T_seq ?_
  refine T_region ?_
  refine V_pure (P_assign rfl) rfl rfl rfl ?_
  refine V_pure (P_assign rfl) rfl rfl rfl ?_
  refine V_nil ?_
  refine thenQ_normal ?_
  refine T_seq ?_
  refine T_seq ?_
  refine T_region ?_
  refine V_pure (P_move rfl) rfl rfl rfl ?_
  refine V_pure (P_peql_nil pt23 rfl rfl) rfl rfl rfl ?_
  refine V_pure (P_move rfl) rfl rfl rfl ?_
  refine V_pure (P_move rfl) rfl rfl rfl ?_
  refine V_pure (P_nilCheck rfl) rfl rfl rfl ?_
  refine V_pure (P_fieldAddr0 fo43_2 rfl) rfl rfl rfl ?_
  refine V_read (R_load sg38 rfl (mc_blk hg rfl)) rfl rfl rfl ?_
  refine V_pure (P_len il38 rfl) rfl rfl rfl ?_
  refine V_pure (dt (P_eql rfl rfl) (by first | assumption | rfl | omega | decide)) rfl rfl rfl ?_
  refine V_pure (P_pick_f rfl rfl) rfl rfl rfl ?_
  refine V_nil ?_
  refine thenQ_normal ?_
  refine T_true rfl ?_
  refine T_seq ?_
  refine T_region ?_
  refine V_pure (P_assign rfl) rfl rfl rfl ?_
  refine V_pure (P_assign rfl) rfl rfl rfl ?_
  refine V_nil ?_
  refine thenQ_normal ?_
  refine T_ret ?_
  refine thenQ_ret ?_
  refine retQ_ret rfl ?_
  exact ⟨rfl, rfl⟩

theorem endsFrom_bound (k : Nat) (R : List (List UInt8)) : ∀ e ∈ endsFrom k R, k ≤ e ∧ e ≤ k + R.flatten.length := by
  induction R generalizing k with
  | nil => intro e he; cases he
  | cons r rs ih =>
    intro e he
    simp only [endsFrom, List.mem_cons] at he
    simp only [List.flatten_cons, List.length_append]
    rcases he with rfl | he
    · omega
    · have := ih _ e he
      omega
theorem endsFrom_sub (k n : Nat) (R : List (List UInt8)) : endsFrom k R = (endsFrom (k + n) R).map (· - n) := by
  induction R generalizing k with
  | nil => rfl
  | cons r rs ih =>
    simp only [endsFrom, List.map_cons]
    rw [show k + n + r.length = k + r.length + n by omega, ← ih]
    congr 1
    omega

theorem set_step (L0 : List Nat) (f : Nat → Nat) (k : Nat) (hk : k < L0.length) :
    List.map natV (List.map f (L0.take (k + 1)) ++ L0.drop (k + 1)) = (List.map natV (List.map f (L0.take k) ++ L0[k] :: L0.drop (k + 1))).set k (natV (f L0[k])) := by
  have hl : (List.map f (L0.take k)).length = k := by simp; omega
  have h1 : L0.take (k + 1) = L0.take k ++ [L0[k]] := List.take_succ_eq_append_getElem hk
  rw [h1, ← List.map_set, List.set_append_right _ _ (by omega), hl, Nat.sub_self]
  simp only [List.set_cons_zero, List.map_append, List.map_cons, List.append_assoc, List.singleton_append, List.map_nil, List.nil_append, List.cons_append]
/-- what Next has done, where a whole frame r was there -/
theorem Next_some2 (h : Heap) (g : Nat) (r : List UInt8) (rs : List (List UInt8)) (rest : List UInt8) (at_ : Nat) (A : Option Addr) (c : Nat) (E : Option Addr) (ce : Nat) (need : Int) (step : Value) (br : Bool)
    (hc : mp h g = some (.cells (rdr (.slice A (r ++ rs.flatten ++ rest).length c) at_ (.slice E (r :: rs).length ce) need step br).toArray 43 (0, 0)))
    (ho : Own (mp h) 5 1 A (r ++ rs.flatten ++ rest).length c ((r ++ rs.flatten ++ rest).map byteV)) (he : Own (mp h) 3 1 E (r :: rs).length ce ((endsFrom 0 (r :: rs)).map natV))
    (hr : 2 ≤ r.length) (hlen : (r ++ rs.flatten ++ rest).length ≤ 65536) (hat : r.length ≤ at_) (hat2 : at_ ≤ 65537) (hR : rs.length ≤ 131072) :
    C Try.prog 6 [ptr g].toArray h fun v h' => ∃ O cO A' c' E' ce', v = .tuple #[.slice O (r.length - 2) cO, .bool true] ∧ Rd (hideP (mp h') (regS g A' E')) O ((r.drop 2).map byteV) ∧ (∀ k o, mp h k = some o → inB O k = false) ∧
      mp h' g = some (.cells (rdr (.slice A' (rs.flatten ++ rest).length c') (at_ - r.length : Nat) (.slice E' rs.length ce') need step br).toArray 43 (0, 0)) ∧
      Own (mp h') 5 1 A' (rs.flatten ++ rest).length c' ((rs.flatten ++ rest).map byteV) ∧ Own (mp h') 3 1 E' rs.length ce' ((endsFrom 0 rs).map natV) ∧
      Chg (regS g A E) h h' (regS g A' E') := by
  have hcap := ho.le
  have hcape := he.le
  have hE0 : mc (mp h) ((sa E).add 0) = some (natV r.length) := he.rd.at_ (by simp [endsFrom])
  have hEs : E.isSome = true := he.rd.isSome (by simp [endsFrom])
  have hl : ((r ++ rs.flatten ++ rest).length : Int) = r.length + (rs.flatten ++ rest).length := by simp only [List.length_append]; omega
  have hl2 : (r :: rs).length = rs.length + 1 := rfl
  have kc := Kept.mk hc
  have ko := Kept.mk ho
  have ke := Kept.mk he
  refine C_of [2, 3] Try.func6 rfl rfl rfl ?_
  refine T_seq ?_
  refine T_region ?_
  refine V_pure (P_assign rfl) rfl rfl rfl ?_
  refine V_pure (P_assign rfl) rfl rfl rfl ?_
  refine V_nil ?_
  refine thenQ_normal ?_
  refine T_seq ?_
  refine T_seq ?_
  refine T_region ?_
  refine V_pure (P_move rfl) rfl rfl rfl ?_
  refine V_pure (P_peql_nil pt23 rfl rfl) rfl rfl rfl ?_
  refine V_pure (P_move rfl) rfl rfl rfl ?_
  refine V_pure (P_move rfl) rfl rfl rfl ?_
  refine V_pure (P_nilCheck rfl) rfl rfl rfl ?_
  refine V_pure (P_fieldAddr0 fo43_2 rfl) rfl rfl rfl ?_
  refine V_read (R_load sg38 rfl (mc_blk hc rfl)) rfl rfl rfl ?_
  refine V_pure (P_len il38 rfl) rfl rfl rfl ?_
  refine V_pure (df (P_eql rfl rfl) (by first | assumption | omega | decide | exact fun hx => hx (by assumption))) rfl rfl rfl ?_
  refine V_pure (P_pick_f rfl rfl) rfl rfl rfl ?_
  refine V_nil ?_
  refine thenQ_normal ?_
  refine T_false rfl ?_
  refine T_skip ?_
  refine thenQ_normal ?_
  refine T_seq ?_
  refine T_region ?_
  refine V_pure (P_move rfl) rfl rfl rfl ?_
  refine V_pure (P_nilCheck rfl) rfl rfl rfl ?_
  refine V_pure (P_fieldAddr0 fo43_2 rfl) rfl rfl rfl ?_
  refine V_read (R_load sg38 rfl (mc_blk hc rfl)) rfl rfl rfl ?_
  refine V_pure (P_indexAddr1 ez38 rfl rfl hEs (by omega) (by omega)) rfl rfl rfl ?_
  refine V_read (R_load sg3 rfl hE0) rfl rfl rfl ?_
  refine V_pure (P_assign rfl) rfl rfl rfl ?_
  refine V_nil ?_
  refine thenQ_normal ?_
  refine T_seq ?_
  refine T_region ?_
  refine V_step (E_buildSlice sl22 rfl rfl rfl rfl (fun b1 h1 hn1 hb1 hl1 => ?_)) rfl
  replace hc := hl1 _ _ hc
  replace ho := ho.mono hl1
  replace he := he.mono hl1
  refine V_pure (P_move rfl) rfl rfl rfl ?_
  refine V_pure (P_nilCheck rfl) rfl rfl rfl ?_
  refine V_pure (P_fieldAddr0 fo43_0 rfl) rfl rfl rfl ?_
  refine V_read (R_load sg22 rfl (mc_blk hc rfl)) rfl rfl rfl ?_
  refine V_pure (P_move rfl) rfl rfl rfl ?_
  refine V_pure (P_move rfl) rfl rfl rfl ?_
  refine V_pure ((P_slice_lhm 2 r.length r.length ez22 rfl rfl rfl rfl rfl rfl rfl (by omega) (by omega) (by omega))) rfl rfl rfl ?_
  have hsrc := ho.rd.cut (l := 2) (mm := r.length) (sz := 1) (r.length - 2) (by omega)
  have esrc : List.take ((r.length - 2) * 1) (List.drop (2 * 1) (List.map byteV (r ++ rs.flatten ++ rest))) = (r.drop 2).map byteV := by
    simp only [Nat.mul_one, ← List.map_drop, ← List.map_take]
    congr 1
    rw [List.append_assoc, List.drop_append_of_le_length hr, List.take_append_of_le_length (by simp)]
    exact List.take_of_length_le (by simp)
  rw [esrc] at hsrc
  refine V_step ((E_append (k := 0) (xs := []) (news := (r.drop 2).map byteV) sl22 rfl rfl rfl rfl (Own.new hb1 rfl (by decide)) hsrc (by simp) (oneV_bytes _) (by simp only [maxLen]; omega) (by omega) rfl ?_)) rfl
  rintro O cO h2 hoO hgO
  obtain ⟨hle, hO⟩ := hgO.fresh hl1 hn1 rfl
  have kO := Kept.mk hO
  clear hc ho he hsrc esrc hb1 hl1 hE0
  have hc := hle _ _ kc.out
  have ho := ko.out.mono hle
  have he := ke.out.mono hle
  refine V_pure (P_assign rfl) rfl rfl rfl ?_
  refine V_nil ?_
  refine thenQ_normal ?_
  refine T_seq ?_
  refine T_draw [(0, .pure), (1, .pure), (2, .pure), (3, .pure), (4, .pure), (5, .pure), (7, .pure), (9, .pure), (10, .pure), (11, .pure), (14, .pure), (15, .pure), (16, .pure), (18, .pure), (6, .read), (8, .pure), (12, .read), (13, .pure), (17, .read), (19, .pure), (20, .pure), (21, .pure), (22, .wild), (23, .pure), (24, .pure), (25, .wild), (26, .pure), (27, .pure), (28, .wild)] mixed (by kernel_rfl) (fun _ _ _ _ hq => hq) ?_
  refine VD_pure rfl (P_move rfl) rfl rfl rfl ?_
  refine VD_pure rfl (P_move rfl) rfl rfl rfl ?_
  refine VD_pure rfl (P_move rfl) rfl rfl rfl ?_
  refine VD_pure rfl (P_move rfl) rfl rfl rfl ?_
  refine VD_pure rfl (P_nilCheck rfl) rfl rfl rfl ?_
  refine VD_pure rfl (P_fieldAddr0 fo43_0 rfl) rfl rfl rfl ?_
  refine VD_pure rfl (P_move rfl) rfl rfl rfl ?_
  refine VD_pure rfl (P_move rfl) rfl rfl rfl ?_
  refine VD_pure rfl (P_nilCheck rfl) rfl rfl rfl ?_
  refine VD_pure rfl (P_fieldAddr0 fo43_2 rfl) rfl rfl rfl ?_
  refine VD_pure rfl (P_move rfl) rfl rfl rfl ?_
  refine VD_pure rfl (P_nilCheck rfl) rfl rfl rfl ?_
  refine VD_pure rfl (P_fieldAddr0 fo43_1 rfl) rfl rfl rfl ?_
  refine VD_pure rfl (P_move rfl) rfl rfl rfl ?_
  refine VD_read rfl (R_load sg22 rfl (mc_blk hc rfl)) rfl rfl rfl ?_
  refine VD_pure rfl ((P_slice_l r.length ez22 rfl rfl rfl (by omega))) rfl rfl rfl ?_
  refine VD_read rfl (R_load sg38 rfl (mc_blk hc rfl)) rfl rfl rfl ?_
  refine VD_pure rfl ((P_slice_l 1 ez38 rfl rfl rfl (by omega))) rfl rfl rfl ?_
  refine VD_read rfl (R_load sg3 rfl (mc_blk hc rfl)) rfl rfl rfl ?_
  refine VD_pure rfl (P_sub rfl rfl (w64 (by omega) (by omega))) rfl rfl rfl ?_
  refine VD_pure rfl (P_nilCheck rfl) rfl rfl rfl ?_
  refine VD_pure rfl (P_fieldAddr0 fo43_0 rfl) rfl rfl rfl ?_
  refine VD_wild rfl rfl (E_store co22 rfl rfl rfl hc rfl (fun h3 hb1 hl1 hn2 => ?_)) rfl
  refine VD_pure rfl (P_nilCheck rfl) rfl rfl rfl ?_
  refine VD_pure rfl (P_fieldAddr0 fo43_2 rfl) rfl rfl rfl ?_
  refine VD_wild rfl rfl (E_store co38 rfl rfl rfl hb1 rfl (fun h4 hb2 hl3 hn3 => ?_)) rfl
  refine VD_pure rfl (P_nilCheck rfl) rfl rfl rfl ?_
  refine VD_pure rfl (P_fieldAddr0 fo43_1 rfl) rfl rfl rfl ?_
  refine VD_wild rfl rfl (E_store co3 rfl rfl rfl hb2 rfl (fun h5 hb3 hl4 hn4 => ?_)) rfl
  refine VD_nil ?_
  refine thenQ_normal ?_
  refine T_seq ?_
  refine T_seq ?_
  refine T_region ?_
  refine V_pure (P_move rfl) rfl rfl rfl ?_
  refine V_pure (P_nilCheck rfl) rfl rfl rfl ?_
  refine V_pure (P_fieldAddr0 fo43_2 rfl) rfl rfl rfl ?_
  refine V_read (R_load sg38 rfl (mc_blk hb3 rfl)) rfl rfl rfl ?_
  refine V_pure (P_len il38 rfl) rfl rfl rfl ?_
  refine V_pure (P_move rfl) rfl rfl rfl ?_
  refine V_nil ?_
  refine thenQ_normal ?_
  refine T_block ?_
  -- the numbers behind the cut
  have hlenE : (r :: rs).length - 1 = rs.length := rfl
  have hlenA : (r ++ rs.flatten ++ rest).length - r.length = (rs.flatten ++ rest).length := by simp only [List.length_append]; omega
  have hatn : ((at_ : Int) - r.length) = ((at_ - r.length : Nat) : Int) := by omega
  rw [hlenA, hlenE, hatn] at hb3
  have kg : ∀ k, inB A k = true ∨ inB E k = true → k ≠ g := by
    rintro k (hk | hk) e
    · rw [e, ho.apart hc (by decide)] at hk; exact Bool.noConfusion hk
    · rw [e, he.apart hc (by decide)] at hk; exact Bool.noConfusion hk
  have hk5 : ∀ k, k ≠ g → mp h5 k = mp h2 k := fun k hk => ((hl4 k hk).trans (hl3 k hk)).trans (hl1 k hk)
  have ho5 := (ho.of_eq fun k hk => hk5 k (kg k (.inl hk))).cut (l := r.length) (k := (rs.flatten ++ rest).length) (mm := c) (by omega) (by omega) (by omega)
  have he5 := (he.of_eq fun k hk => hk5 k (kg k (.inr hk))).cut (l := 1) (k := rs.length) (mm := ce) (by omega) (by omega) (by omega)
  have eA : List.take ((rs.flatten ++ rest).length * 1) (List.drop (r.length * 1) (List.map byteV (r ++ rs.flatten ++ rest))) = (rs.flatten ++ rest).map byteV := by
    simp only [Nat.mul_one, ← List.map_drop, ← List.map_take]
    rw [List.append_assoc, List.drop_left, List.take_length]
  have eE : List.take (rs.length * 1) (List.drop (1 * 1) (List.map natV (endsFrom 0 (r :: rs)))) = (endsFrom r.length rs).map natV := by
    simp only [Nat.mul_one, ← List.map_drop, ← List.map_take, endsFrom, List.drop_succ_cons, List.drop_zero, Nat.zero_add]
    rw [List.take_of_length_le (by rw [endsFrom_length]; exact Nat.le_refl _)]
  rw [eA] at ho5
  rw [eE] at he5
  have hchg : Chg (regS g A E) h h5 (regS g A E) := ⟨fun k o h3 h4 => ⟨by rw [hk5 k (by rintro rfl; simp [regS] at h4)]; exact hle k o h3, h4⟩, by rw [hn4, hn3, hn2]; exact mp_size hle⟩
  have hOr : Rd (hideP (mp h5) (regS g A E)) O ((r.drop 2).map byteV) := by
    intro i u hi
    obtain ⟨h3, h4⟩ := hoO.rd i u hi
    refine ⟨h3, ?_⟩
    have hin : inB O (sa O).block = true := by
      obtain ⟨ad, rfl⟩ := Option.isSome_iff_exists.1 h3
      simp [inB, ownB, sa]
    have hne : regS g A E (sa O).block = false := by
      simp only [regS, Bool.or_eq_false_iff, beq_eq_false_iff_ne]
      refine ⟨⟨?_, ?_⟩, ?_⟩
      · intro e; rw [e, hO g _ kc.out] at hin; exact Bool.noConfusion hin
      · cases hi : inB A (sa O).block with
        | false => rfl
        | true => obtain ⟨cur, hm⟩ := ko.out.at_ hi; rw [hO _ _ hm] at hin; exact Bool.noConfusion hin
      · cases hi : inB E (sa O).block with
        | false => rfl
        | true => obtain ⟨cur, hm⟩ := ke.out.at_ hi; rw [hO _ _ hm] at hin; exact Bool.noConfusion hin
    have hbl : ((sa O).add i).block = (sa O).block := by unfold Addr.add; split <;> rfl
    unfold mc at h4 ⊢
    rw [hbl] at h4 ⊢
    have hng : (sa O).block ≠ g := by rintro e; rw [e] at hne; simp [regS] at hne
    have : hideP (mp h5) (regS g A E) (sa O).block = mp h2 (sa O).block := by
      unfold hideP
      rw [hne, hk5 _ hng]
      rfl
    rw [this]
    exact h4
  clear hb2 hl1 hl3 hl4 hn2 hn3 hn4 ho he hc hgO hle hO hoO hk5 kg hlenA hlenE hatn eA eE kc ko ke hl hn1
  generalize hE' : cutA E 1 ce 1 = E' at *
  generalize hA' : cutA A r.length c 1 = A' at *
  have hSS : regS g A E = regS g A' E' := by unfold regS; rw [← hE', ← hA', inB_cutA, inB_cutA]
  rw [hSS] at hOr
  have hsub := endsFrom_sub 0 r.length rs
  rw [Nat.zero_add] at hsub
  have hL0 := endsFrom_bound r.length rs
  have hLl := endsFrom_length r.length rs
  generalize endsFrom r.length rs = L0 at *
  refine T_loop (fun k : Nat => [(0, ptr g), (4, .int .i64 r.length), (5, .slice O (0 + (r.length - 2)) cO), (62, .int .i64 rs.length), (63, .int .i64 k)])
    (fun k h => k ≤ rs.length ∧ Own (mp h) 3 1 E' rs.length (ce - 1) (((L0.take k).map (· - r.length) ++ L0.drop k).map natV) ∧ (∀ j, inB E' j = false → mp h j = mp h5 j) ∧ h.size = h5.size)
    (fun k => rs.length - k) 0 ⟨rfl, rfl, rfl, rfl, rfl, trivial⟩ ⟨Nat.zero_le _, by simpa using he5, fun _ _ => rfl, rfl⟩ ?_
  rintro k h6 ⟨hk, hown, hoth, hsz⟩
  have hgE : inB E' g = false := he5.apart hb3 (by decide)
  have hg6 := (hoth g hgE).trans hb3
  by_cases hlt : k < rs.length
  · have hkl : k < L0.length := by omega
    have hdrop : L0.drop k = L0[k] :: L0.drop (k + 1) := List.drop_eq_getElem_cons hkl
    rw [hdrop] at hown
    obtain ⟨hEs', hcell⟩ := hown.rd.mid
    have htl : (List.map (fun x => x - r.length) (List.take k L0)).length = k := by simp; omega
    rw [htl] at hcell
    have hbd := hL0 L0[k] (List.getElem_mem hkl)
    simp only [List.length_append] at hlen
    refine T_seq ?_
    refine T_region ?_
    refine V_pure (dt (P_lss rfl rfl) (by first | assumption | rfl | omega | decide)) rfl rfl rfl ?_
    refine V_nil ?_
    refine thenQ_normal ?_
    refine T_seq ?_
    refine T_true rfl ?_
    refine T_skip ?_
    refine thenQ_normal ?_
    refine T_seq ?_
    refine T_block ?_
    refine T_seq ?_
    refine T_region ?_
    refine V_pure (P_move rfl) rfl rfl rfl ?_
    refine V_pure (P_assign rfl) rfl rfl rfl ?_
    refine V_nil ?_
    refine thenQ_normal ?_
    refine T_region ?_
    refine V_pure (P_move rfl) rfl rfl rfl ?_
    refine V_pure (P_nilCheck rfl) rfl rfl rfl ?_
    refine V_pure (P_fieldAddr0 fo43_2 rfl) rfl rfl rfl ?_
    refine V_read (R_load sg38 rfl (mc_blk hg6 rfl)) rfl rfl rfl ?_
    refine V_pure (P_move rfl) rfl rfl rfl ?_
    refine V_pure (P_indexAddr1 ez38 rfl rfl hEs' (by omega) (by omega)) rfl rfl rfl ?_
    refine V_read (R_load sg3 rfl hcell) rfl rfl rfl ?_
    refine V_pure (P_move rfl) rfl rfl rfl ?_
    refine V_pure (P_sub rfl rfl (w64 (by omega) (by omega))) rfl rfl rfl ?_
    refine V_pure (P_indexAddr1 ez38 rfl rfl hEs' (by omega) (by omega)) rfl rfl rfl ?_
    refine V_step ((E_storeOwn (i := k) co3 rfl rfl rfl hown hlt ?_)) rfl
    rintro h7 hown7 hoth7 hsz7
    refine V_nil ?_
    refine blockQ_normal ?_
    refine thenQ_normal ?_
    refine T_region ?_
    refine V_pure (P_add rfl rfl (w64 (by omega) (by omega))) rfl rfl rfl ?_
    refine V_pure (P_move rfl) rfl rfl rfl ?_
    refine V_nil ?_
    refine ⟨k + 1, ⟨rfl, rfl, rfl, rfl, rfl, trivial⟩, ⟨by omega, ?_, fun j hj => (hoth7 j hj).trans (hoth j hj), hsz7.trans hsz⟩, by show rs.length - (k + 1) < rs.length - k; omega⟩
    have e := set_step L0 (fun x => x - r.length) k hkl
    simp only [natV] at e hown7 ⊢
    rw [e, show ((L0[k] - r.length : Nat) : Int) = (L0[k] : Int) - r.length by omega]
    exact hown7
  · have hkl : k = L0.length := by omega
    refine T_seq ?_
    refine T_region ?_
    refine V_pure (df (P_lss rfl rfl) (by first | assumption | omega | decide | exact fun hx => hx (by assumption))) rfl rfl rfl ?_
    refine V_nil ?_
    refine thenQ_normal ?_
    refine T_seq ?_
    refine T_false rfl ?_
    refine T_exit ?_
    refine thenQ_exit ?_
    refine roundQ_exit ?_
    refine blockQ_here ?_
    refine thenQ_normal ?_
    refine T_seq ?_
    refine T_region ?_
    refine V_pure (P_move rfl) rfl rfl rfl ?_
    refine V_pure (P_assign rfl) rfl rfl rfl ?_
    refine V_pure (P_assign rfl) rfl rfl rfl ?_
    refine V_nil ?_
    refine thenQ_normal ?_
    refine T_ret ?_
    refine retQ_ret rfl ?_
    subst hkl
    rw [List.take_length, List.drop_length, List.append_nil, ← hsub] at hown
    rw [Nat.zero_add]
    refine ⟨O, cO, A', c - r.length, E', ce - 1, rfl, ?_, kO.out, hg6, ?_, hown, ?_⟩
    · refine hOr.mono fun b o hb => ?_
      obtain ⟨h3, h4⟩ := hideP_some hb
      refine hideP_mk ?_ h4
      simp only [regS, Bool.or_eq_false_iff] at h4
      rw [hoth b h4.2]
      exact h3
    · refine ho5.of_eq fun j hj => hoth j (he5.disj ho5 (by decide) j hj)
    · have hc2 : Chg (regS g A' E') h5 h6 (regS g A' E') := ⟨fun k o h3 h4 => by
        simp only [regS, Bool.or_eq_false_iff] at h4 ⊢
        exact ⟨by rw [hoth k h4.2]; exact h3, h4⟩, by omega⟩
      rw [← hSS] at hc2 ⊢
      exact hchg.trans hc2
theorem Next_some (h : Heap) (g : Nat) (r : List UInt8) (rs : List (List UInt8)) (rest : List UInt8) (at_ : Nat) (A : Option Addr) (c : Nat) (E : Option Addr) (ce : Nat) (need : Int) (step : Value) (br : Bool)
    (hc : mp h g = some (.cells (rdr (.slice A (r ++ rs.flatten ++ rest).length c) at_ (.slice E (r :: rs).length ce) need step br).toArray 43 (0, 0)))
    (ho : Own (mp h) 5 1 A (r ++ rs.flatten ++ rest).length c ((r ++ rs.flatten ++ rest).map byteV)) (he : Own (mp h) 3 1 E (r :: rs).length ce ((endsFrom 0 (r :: rs)).map natV))
    (hr : 2 ≤ r.length) (hlen : (r ++ rs.flatten ++ rest).length ≤ 65536) (hat : r.length ≤ at_) (hat2 : at_ ≤ 65537) (hR : rs.length ≤ 131072) :
    C Try.prog 6 [ptr g].toArray h fun v h' => ∃ O cO A' c' E' ce', v = .tuple #[.slice O (r.length - 2) cO, .bool true] ∧ Rd (hideP (mp h') (regS g A' E')) O ((r.drop 2).map byteV) ∧
      mp h' g = some (.cells (rdr (.slice A' (rs.flatten ++ rest).length c') (at_ - r.length : Nat) (.slice E' rs.length ce') need step br).toArray 43 (0, 0)) ∧
      Own (mp h') 5 1 A' (rs.flatten ++ rest).length c' ((rs.flatten ++ rest).map byteV) ∧ Own (mp h') 3 1 E' rs.length ce' ((endsFrom 0 rs).map natV) ∧
      Chg (regS g A E) h h' (regS g A' E') :=
  (Next_some2 h g r rs rest at_ A c E ce need step br hc ho he hr hlen hat hat2 hR).mono fun _ _ ⟨O, cO, A', c', E', ce', h1, h2, _, h3⟩ => ⟨O, cO, A', c', E', ce', h1, h2, h3⟩
end Go.Proofs.Ytodogmfbafmcmaa
