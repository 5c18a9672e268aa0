/- Bulk: what the narrowed row's bound says of the strings that are read; the reasons as they are handed in. No condition. -/
import Derived.Test.YtccleakfgmcjpaaDoorDkN
import Derived.Test.YtccleakfgmcjpaaDoorDkX
import Derived.Test.YtccleakfgmcjpaaDoorRows
namespace Go.Proofs.YtccleakfgmcjpaaDoor
open Go.Eng Dk Go.WideShapes
set_option maxRecDepth 100000
section
variable {H : Type} {enc : TypeId × Value → H} {w : World} {base : Nat} {spare : Nat → Bool} {held : Bool} {fuel : Nat} {cs : List Value} {x : DataW H × List MemPlace}
theorem bulk_mem {d : DataW H} : ∀ {l : List (DataW H)}, d ∈ l → Rows.uptoBulk d ≤ Rows.uptoBulkAll l
  | [], h => by cases h
  | a :: r, h => by
    simp only [Rows.uptoBulkAll]
    rcases List.mem_cons.1 h with rfl | h
    · omega
    · have := bulk_mem h; omega
theorem bulk_str {t : Nat} {l : List UInt8} (ht : isStr Tryd.prog t = true) (h : DataW.trod enc Tryd.prog w base spare held fuel t [.string (bs l)] = some x) : l.length ≤ Rows.uptoBulk x.1 := by
  obtain ⟨s, h1, h3, h2⟩ := DataW.trod_string (isStr_spec ht) h
  have h4 : bs l = s := by simpa using h1
  subst h4
  rw [h3]
  simp only [Rows.uptoBulk]
  exact Nat.le_succ _
theorem bulk_fld {t i ft off : Nat} (hf : fld Tryd.prog t i = some (ft, off)) (h : DataW.trod enc Tryd.prog w base spare held fuel t cs = some x) :
    ∃ n y, DataW.trod enc Tryd.prog w base spare held n ft ((cs.drop off).take (Tryd.prog.cellsOf ft)) = some y ∧ Rows.uptoBulk y.1 ≤ Rows.uptoBulk x.1 := by
  unfold fld at hf
  split at hf
  · rename_i fs hu
    obtain ⟨xs, n, rfl, rfl, hl, hlen, hx⟩ := DataW.trod_struct hu h
    cases hfi : fs[i]? with
    | none => rw [hfi] at hf; cases hf
    | some f =>
      rw [hfi] at hf
      simp only [Option.map_some, Option.some.injEq, Prod.mk.injEq] at hf
      obtain ⟨rfl, rfl⟩ := hf
      have h1 := hx i f hfi
      have hi : i < xs.length := by rw [hlen]; exact (Array.getElem?_eq_some_iff.1 hfi).1
      rw [List.getElem?_eq_getElem hi] at h1
      refine ⟨n, _, h1, ?_⟩
      simp only [Rows.uptoBulk]
      have := bulk_mem (List.mem_map.2 ⟨_, List.getElem_mem hi, rfl⟩ : (xs[i]).1 ∈ xs.map (·.1))
      omega
  · cases hf
theorem bulk_el {t e sz len cap i : Nat} {A : Option Addr} {vs : List Value} (ht : sliceT Tryd.prog t e = true) (hc : Tryd.prog.cellsOf e = sz) (h : DataW.trod enc Tryd.prog w base spare held fuel t [.slice A len cap] = some x)
    (hw : Rd (mp w.heap) A vs) (hl : vs.length = len * sz) (hi : i < len) : ∃ n y, DataW.trod enc Tryd.prog w base spare held n e ((vs.drop (i * sz)).take sz) = some y ∧ Rows.uptoBulk y.1 ≤ Rows.uptoBulk x.1 := by
  rcases DataW.trod_slice (sliceT_spec ht) h with ⟨hcs, _⟩ | ⟨a, len', cap', elems, rest, n, rfl, e2, rfl, _, hl2, hm, hel, hx, _⟩
  · simp at hcs
    omega
  · simp at e2
    obtain ⟨rfl, rfl, rfl⟩ := e2
    rw [hc] at hx
    have h2 := hx i hi
    rw [List.getElem?_eq_getElem (by omega)] at h2
    obtain ⟨l, h3, h4⟩ := Option.bind_eq_some_iff.1 h2
    obtain ⟨_, h5, h6⟩ := World.cells?_some h3
    have hi2 : i * sz + sz ≤ len * sz := by
      have : (i + 1) * sz ≤ len * sz := Nat.mul_le_mul_right _ hi
      rw [Nat.add_mul] at this
      omega
    have e1 : l = (vs.drop (i * sz)).take sz := by
      apply List.ext_getElem?
      intro j
      by_cases hj : j < sz
      · have h7 := h6 j hj
        rw [cell_mc, add_add] at h7
        rw [List.getElem?_take, if_pos hj, List.getElem?_drop, ← h7]
        have hv : vs[i * sz + j]? = some (vs[i * sz + j]'(by omega)) := List.getElem?_eq_getElem (by omega)
        rw [hv]
        exact (hw _ _ hv).2
      · rw [List.getElem?_eq_none (by omega), List.getElem?_eq_none (by rw [List.length_take]; omega)]
    refine ⟨n, _, by rw [← e1]; exact h4, ?_⟩
    simp only [Rows.uptoBulk]
    have := bulk_mem (List.mem_map.2 ⟨_, List.getElem_mem (show i < elems.length by omega), rfl⟩ : (elems[i]'(by omega)).1 ∈ elems.map (·.1))
    omega
theorem strs_bulk {A : Option Addr} {c : Nat} {xs : List (List UInt8)} (h : DataW.trod enc Tryd.prog w base spare held fuel 26 [.slice A xs.length c] = some x) (hr : StrsR (mp w.heap) A xs) : ∀ s ∈ xs, s.length ≤ Rows.uptoBulk x.1 := by
  intro s hs
  obtain ⟨i, hi, rfl⟩ := List.getElem_of_mem hs
  obtain ⟨n, y, h1, h2⟩ := bulk_el (e := 9) (sz := 1) (by kernel_rfl) (by kernel_rfl) h hr.1 (by simp) hi
  have e : ((xs.map sV).drop (i * 1)).take 1 = [.string (bs xs[i])] := by
    rw [Nat.mul_one, List.drop_eq_getElem_cons (by simpa using hi), List.take_succ_cons, List.take_zero, List.getElem_map]
    rfl
  rw [e] at h1
  exact Nat.le_trans (bulk_str (by kernel_rfl) h1) h2
theorem reas_in (h : DataW.trod enc Tryd.prog w base spare held fuel 27 cs = some x) (hg : GoodR Tryd.prog w 27 x) : ∃ (A : Option Addr) (c : Nat) (rs : List Rea), cs = [.slice A rs.length c] ∧ Rd (mp w.heap) A (rs.flatMap reaC) ∧ rs.length ≤ 9223372036854775807 ∧
    ∀ r ∈ rs, In8 r.why ∧ (-9223372036854775808 ≤ r.n ∧ r.n ≤ 9223372036854775807) ∧ r.name.length ≤ Rows.uptoBulk x.1 := by
  obtain ⟨A, len, cap, vs, n, rfl, hA, hb, hw, hl, _, hel⟩ := cells_inW (e := 38) (sz := 3) (by_ := 32) (by kernel_rfl) (by kernel_rfl) (by kernel_rfl) h hg
  have hrd : Rd (mp w.heap) A vs := fun i u hi => ⟨hA (by have := (List.getElem?_eq_some_iff.1 hi).1; omega), (hw i u hi).1⟩
  obtain ⟨xs, hxl, hx⟩ := choose_list (n := len) (p := fun i (r : Rea) => (vs.drop (i * 3)).take 3 = reaC r ∧ In8 r.why ∧ (-9223372036854775808 ≤ r.n ∧ r.n ≤ 9223372036854775807) ∧ r.name.length ≤ Rows.uptoBulk x.1) (fun i hi => by
    obtain ⟨y, hy, hgy⟩ := hel i hi
    obtain ⟨_, y0, rfl, hlen, r0, g0⟩ := fld_inW (i := 0) (fldB_spec (ft := 36) (off := 0) (by kernel_rfl)) hy hgy
    obtain ⟨_, y1, _, _, r1, g1⟩ := fld_inW (i := 1) (fldB_spec (ft := 9) (off := 1) (by kernel_rfl)) hy hgy
    obtain ⟨_, y2, _, _, r2, _⟩ := fld_inW (i := 2) (fldB_spec (ft := 3) (off := 2) (by kernel_rfl)) hy hgy
    obtain ⟨a0, e0, w0⟩ := int_in (k := .i8) (by kernel_rfl) r0
    obtain ⟨s1, e1, _⟩ := str_inW (by kernel_rfl) r1 g1
    obtain ⟨a2, e2, w2⟩ := int_in (k := .i64) (by kernel_rfl) r2
    obtain ⟨_, z, hz, hzb⟩ := bulk_el (e := 38) (sz := 3) (by kernel_rfl) (by kernel_rfl) h hrd hl hi
    obtain ⟨_, u, hu, hub⟩ := bulk_fld (i := 1) (fldB_spec (ft := 9) (off := 1) (by kernel_rfl)) hz
    rw [e1] at hu
    have hs := bulk_str (by kernel_rfl) hu
    have k9 : Tryd.prog.cellsOf 9 = 1 := by kernel_rfl
    have k3 : Tryd.prog.cellsOf 3 = 1 := by kernel_rfl
    have k36 : Tryd.prog.cellsOf 36 = 1 := by kernel_rfl
    have k38 : Tryd.prog.cellsOf 38 = 3 := by kernel_rfl
    rw [k38] at hlen
    rw [k36] at e0
    rw [k9] at e1
    rw [k3] at e2
    clear hz hu r0 r1 r2 hy hgy
    generalize (vs.drop (i * 3)).take 3 = cs at hlen e0 e1 e2 ⊢
    match cs, hlen with
    | [c0, c1, c2], _ =>
      simp at e0 e1 e2
      subst e0 e1 e2
      refine ⟨⟨a0, s1, a2⟩, rfl, ?_, i64_wf w2, by dsimp only; omega⟩
      simp [Lit.wf, IntKind.min, IntKind.max, IntKind.signed, IntKind.bits] at w0
      unfold In8
      dsimp only
      omega)
  subst hxl
  unfold reachBytes at hb
  refine ⟨A, cap, xs, rfl, ?_, by omega, fun r hr => by obtain ⟨i, hi, rfl⟩ := List.getElem_of_mem hr; exact (hx i hi).2⟩
  have e : vs = xs.flatMap reaC := by
    clear hel hw hrd h hg hA
    have key : ∀ (xs : List Rea) (vs : List Value), vs.length = xs.length * 3 → (∀ (i : Nat) (hi : i < xs.length), (vs.drop (i * 3)).take 3 = reaC xs[i]) → vs = xs.flatMap reaC := by
      intro xs
      induction xs with
      | nil => intro vs hl _; exact List.length_eq_zero_iff.1 (by simpa using hl)
      | cons r xs ih =>
        intro vs hl hx
        rw [List.flatMap_cons]
        have h0 := hx 0 (by simp)
        rw [Nat.zero_mul, List.drop_zero] at h0
        have h1 := ih (vs.drop 3) (by rw [List.length_drop, hl, List.length_cons]; omega) (fun i hi => by
          have := hx (i + 1) (by simpa using hi)
          rw [List.drop_drop]
          rw [show 3 + i * 3 = (i + 1) * 3 by omega]
          simpa using this)
        rw [← h1]
        have := (List.take_append_drop 3 vs).symm
        rw [h0] at this
        exact this
    exact key xs vs hl fun i hi => (hx i hi).1
  rw [← e]
  exact hrd
end
theorem join_le {k : Nat} {sep : List UInt8} : ∀ {l : List (List UInt8)}, (∀ x ∈ l, x.length ≤ k) → (Lib.join l sep).length ≤ l.length * (k + sep.length)
  | [], _ => by simp [Lib.join_nil]
  | x :: r, h => by
    rw [Lib.join_cons, List.length_append, Lib.joinTail_length]
    have h1 := h x (by simp)
    have h2 : ∀ (r : List (List UInt8)), (∀ y ∈ r, y.length ≤ k) → Lib.lens r ≤ r.length * k := by
      intro r
      induction r with
      | nil => intro _; simp [Lib.lens]
      | cons y r ih =>
        intro hh
        have h3 := ih fun z hz => hh z (by simp [hz])
        have h4 := hh y (by simp)
        simp only [Lib.lens, List.map_cons, List.sum_cons, List.length_cons, Nat.add_mul] at h3 ⊢
        omega
    have h3 := h2 r fun y hy => h y (by simp [hy])
    rw [List.length_cons, Nat.mul_add, Nat.add_mul, Nat.add_mul, Nat.mul_comm sep.length]
    omega
theorem part_le {r : Rea} {k : Nat} (hn : r.name.length ≤ k) (h0 : -9223372036854775808 ≤ r.n) (h1 : r.n ≤ 9223372036854775807) : (partR Lib.itoa r).length ≤ k + 40 := by
  have hi := Lib.itoa_length_le r.n h0 h1
  have hw : (whyS r.why).length ≤ 8 := by
    unfold whyS
    repeat' split
    all_goals decide
  have hc : colon.length = 2 := rfl
  have hx : spx.length = 2 := rfl
  unfold partR
  split
  · simp
  · split <;> simp only [List.length_append] <;> omega
theorem text_le {rs : List Rea} {k : Nat} (h : ∀ r ∈ rs, (-9223372036854775808 ≤ r.n ∧ r.n ≤ 9223372036854775807) ∧ r.name.length ≤ k) : (Lib.join (rs.map (partR Lib.itoa)) sep2).length ≤ rs.length * (k + 42) := by
  have := join_le (k := k + 40) (sep := sep2) (l := rs.map (partR Lib.itoa)) (fun x hx => by
    obtain ⟨r, hr, rfl⟩ := List.mem_map.1 hx
    exact part_le (h r hr).2 (h r hr).1.1 (h r hr).1.2)
  rw [List.length_map, show k + 40 + sep2.length = k + 42 from rfl] at this
  exact this
/-- what Check finds is in range -/
def ReaOk (k : Nat) (r : Rea) : Prop := In8 r.why ∧ (-9223372036854775808 ≤ r.n ∧ r.n ≤ 9223372036854775807) ∧ r.name.length ≤ k
theorem addR_ok {k : Nat} {rs : List Rea} {r : Rea} {so : Bool} (h : ∀ x ∈ rs, ReaOk k x) (hr : ReaOk k r) : ∀ x ∈ addR rs r so, ReaOk k x := by
  intro x hx
  unfold addR at hx
  cases so with
  | false => exact h x hx
  | true =>
    rcases List.mem_append.1 hx with hx | hx
    · exact h x hx
    · rw [List.mem_singleton.1 hx]; exact hr
theorem rea_mk {k : Nat} {w : Int} {s : List UInt8} {n : Nat} (h0 : 1 ≤ w) (h6 : w ≤ 6) (hs : s.length ≤ k) (hn : n ≤ 300) : ReaOk k ⟨w, s, n⟩ := by
  refine ⟨?_, ?_, hs⟩
  · unfold In8; dsimp only; omega
  · dsimp only; omega
theorem checkP_ok {k : Nat} {b : BkT} {fm : List UInt8} {deck : List (List UInt8)} (hd : deck.length ≤ 300) (hk : ∀ s ∈ deck, s.length ≤ k) : (∀ r ∈ (checkP b fm deck).1, ReaOk k r) ∧ (checkP b fm deck).1.length ≤ 902 := by
  have key : ∀ f, (∀ r ∈ reasons b f deck, ReaOk k r) ∧ (reasons b f deck).length ≤ 902 := by
    intro f
    constructor
    · unfold reasons
      have h0 : ∀ r ∈ base0 f deck.length, ReaOk k r := addR_ok (addR_ok (fun x hx => by cases hx) (rea_mk (by decide) (by decide) (by simp) hd)) (rea_mk (by decide) (by decide) (by simp) hd)
      have hs : ∀ s ∈ firsts deck, s.length ≤ k := fun s hs => hk s (mem_firsts.1 hs)
      generalize base0 f deck.length = rs at h0
      generalize firsts deck = l at hs
      induction l generalizing rs with
      | nil => exact h0
      | cons s l ih =>
        rw [List.foldl_cons]
        have hsk := hs s (by simp)
        have hc : count s deck ≤ 300 := Nat.le_trans count_le hd
        refine ih (stepR b f deck rs s) ?_ fun t ht => hs t (by simp [ht])
        unfold stepR
        split
        · exact addR_ok (addR_ok (addR_ok h0 (rea_mk (by decide) (by decide) hsk hc)) (rea_mk (by decide) (by decide) hsk hc)) (rea_mk (by decide) (by decide) hsk hc)
        · exact addR_ok (so := true) h0 (rea_mk (by decide) (by decide) hsk hc)
    · unfold reasons
      refine Nat.le_trans foldl_len ?_
      have h1 := base0_len (f := f) (n := deck.length)
      have h2 := firsts_len deck
      omega
  unfold checkP
  split
  · exact ⟨fun r hr => absurd hr (by simp), by simp⟩
  · split
    · exact ⟨fun r hr => absurd hr (by simp), by simp⟩
    · exact key _
end Go.Proofs.YtccleakfgmcjpaaDoor
