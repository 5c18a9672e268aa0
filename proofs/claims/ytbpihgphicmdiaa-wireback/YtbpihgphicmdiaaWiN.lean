/- A part of the proof: contracts of functions of the program. No condition. -/
import Derived.Test.YtbpihgphicmdiaaWiM
namespace Go.Proofs.Ytbpihgphicmdiaa
open Go.Eng Wi
set_option maxRecDepth 100000
theorem flat_get {α : Type} {q : Nat} : ∀ {vs : List (List α)}, (∀ l ∈ vs, l.length = q) → ∀ (i k : Nat), k < q → vs.flatten[i * q + k]? = (vs[i]?).bind (·[k]?)
  | [], _, i, k, _ => by simp
  | l :: r, h, i, k, hk => by
    have h0 := h l (by simp)
    rw [List.flatten_cons]
    cases i with
    | zero => rw [Nat.zero_mul, Nat.zero_add, List.getElem?_append_left (by omega)]; simp
    | succ i =>
      have e : (i + 1) * q + k = q + (i * q + k) := by rw [Nat.add_mul, Nat.one_mul]; omega
      rw [e, List.getElem?_append_right (by omega), h0, Nat.add_sub_cancel_left, flat_get (fun l hl => h l (by simp [hl])) i k hk]
      simp
/-- the cells of an event -/
def EvtL (m : Mp) (l : List Value) (x : Evt) : Prop := ∃ vc, l = [.int .i8 x.kind, iV x.side, iV x.card, iV x.id, iV x.other, iV x.n, vc] ∧ IntsE m vc x.cards ∧ I8 x.kind ∧ I64 x.side ∧ I64 x.card ∧ I64 x.id ∧ I64 x.other ∧ I64 x.n
theorem EvtL.mono {m m' : Mp} {l : List Value} {x : Evt} (h : EvtL m l x) (hl : Le m m') : EvtL m' l x := let ⟨v, e, i, r⟩ := h; ⟨v, e, i.mono hl, r⟩
theorem EvtE.cells {m : Mp} {xa : Addr} {x : Evt} (h : EvtE m xa x) : ∃ l, EvtL m l x ∧ ∀ k v, l[k]? = some v → Wc m (xa.add k) v := by
  obtain ⟨vc, w0, w1, w2, w3, w4, w5, w6, hi, r⟩ := h
  refine ⟨_, ⟨vc, rfl, hi, r⟩, fun k v hv => ?_⟩
  rcases k with _ | _ | _ | _ | _ | _ | _ | k <;> simp at hv <;> subst hv <;> assumption
theorem EvtL.e {m : Mp} {xa : Addr} {l : List Value} {x : Evt} (h : EvtL m l x) (hw : ∀ k v, l[k]? = some v → Wc m (xa.add k) v) : EvtE m xa x := by
  obtain ⟨vc, rfl, hi, r⟩ := h
  exact ⟨vc, hw 0 _ rfl, hw 1 _ rfl, hw 2 _ rfl, hw 3 _ rfl, hw 4 _ rfl, hw 5 _ rfl, hw 6 _ rfl, hi, r⟩
theorem EvtL.len {m : Mp} {l : List Value} {x : Evt} (h : EvtL m l x) : l.length = 7 := by obtain ⟨vc, rfl, _⟩ := h; rfl
theorem EvtL.one {m : Mp} {l : List Value} {x : Evt} (h : EvtL m l x) : ∀ v ∈ l, oneV v = true := by
  obtain ⟨vc, rfl, ⟨a, c, rfl, _⟩, _⟩ := h
  intro v hv
  simp only [List.mem_cons, List.not_mem_nil, or_false] at hv
  rcases hv with rfl | rfl | rfl | rfl | rfl | rfl | rfl <;> rfl
theorem EvsE.rows {m : Mp} {v : Value} {xs : List Evt} (h : EvsE m v xs) : ∃ (a : Option Addr) (c : Nat) (vs : List (List Value)), v = .slice a xs.length c ∧ Rd m a vs.flatten ∧ vs.length = xs.length ∧ xs.length ≤ 140737488355328 ∧ ∀ i (hi : i < xs.length) (hi2 : i < vs.length), EvtL m vs[i] xs[i] := by
  obtain ⟨a, c, e, k, l, g⟩ := h
  have hrow : ∀ i : Fin xs.length, ∃ l, EvtL m l xs[i] ∧ ∀ k v, l[k]? = some v → Wc m (((sa a).add (i * 7)).add k) v := fun i => (g i i.2).cells
  let vs := List.ofFn fun i : Fin xs.length => (hrow i).choose
  have hvl : vs.length = xs.length := by simp [vs]
  have hvi : ∀ i (hi : i < xs.length), vs[i]'(by omega) = (hrow ⟨i, hi⟩).choose := fun i hi => by simp [vs]
  refine ⟨a, c, vs, e, rd_rows (q := 7) (by omega) (fun i hi => ?_), hvl, l, fun i hi hi2 => ?_⟩
  · have hi' : i < xs.length := by omega
    rw [hvi i hi']
    have sp := (hrow ⟨i, hi'⟩).choose_spec
    refine ⟨sp.1.len, fun k' v hv => ⟨k (by omega), ?_⟩⟩
    rw [← add_add]
    exact (sp.2 k' v hv).1
  · rw [hvi i hi]
    exact (hrow ⟨i, hi⟩).choose_spec.1
/-- events in a slice of the call's own -/
theorem EvsE.own {m : Mp} {A : Option Addr} {c : Nat} {vs : List (List Value)} {xs : List Evt} (hl : vs.length = xs.length) (hb : xs.length ≤ 140737488355328) (hr : ∀ i (hi : i < xs.length) (hi2 : i < vs.length), EvtL m vs[i] xs[i]) {m' : Mp} (hm : Le m m') (ho : Eng.Own m' 55 7 A xs.length c vs.flatten) : EvsE m' (.slice A xs.length c) xs := by
  have hlen : ∀ l ∈ vs, l.length = 7 := fun l hl' => by obtain ⟨i, hi, rfl⟩ := List.getElem_of_mem hl'; exact (hr i (by omega) hi).len
  have hget : ∀ i k (hi : i < xs.length) v, (vs[i]'(by omega))[k]? = some v → vs.flatten[i * 7 + k]? = some v := fun i k hi v hv => by
    have hk : k < 7 := by
      have := (List.getElem?_eq_some_iff.1 hv).1
      rw [hlen _ (List.getElem_mem _)] at this
      exact this
    rw [flat_get hlen i k hk, List.getElem?_eq_getElem (by omega)]
    exact hv
  refine ⟨A, c, rfl, fun h0 => ?_, hb, fun i hi => EvtL.e (l := vs[i]'(by omega)) ((hr i hi (by omega)).mono hm) fun k v hv => ?_⟩
  · have h1 := hr 0 h0 (by omega)
    obtain ⟨vc, e, _⟩ := h1
    exact ((Eng.Own.rd ho) (0 * 7 + 0) _ (hget 0 0 h0 _ (by rw [e]; rfl))).1
  · rw [add_add]
    exact Wc.own ho (hget i k hi v hv)
set_option maxHeartbeats 4000000 in
theorem copied_ok {m m1 : Mp} {lx : List Value} {x : Ltr} (hx : LtA m lx x) (hm1 : Le m m1) (hbd : x.evs.length ≤ 100000) :
    CS Try.prog 23 [.agg lx.toArray] m1 [] (fun v L' => ∃ A c cells, v = .agg (lx.set 13 (.slice A x.evs.length c)).toArray ∧ L' = [own 55 7 A x.evs.length c cells] ∧ ∀ m', Le m m' → Eng.Own m' 55 7 A x.evs.length c cells → EvsE m' (.slice A x.evs.length c) x.evs) := by
  obtain ⟨vb, vc, vi, vp, ve, rfl, xb, xc, xi, xp, xe, xr⟩ := hx
  have xb2 := xb
  have xc2 := xc
  have xi2 := xi
  have xp2 := xp
  obtain ⟨a1, d1, rfl, _⟩ := xb2
  obtain ⟨a2, d2, rfl, _⟩ := xc2
  obtain ⟨a3, d3, rfl, _⟩ := xi2
  obtain ⟨a4, d4, rfl, _⟩ := xp2
  obtain ⟨a5, d5, vs, rfl, hrd, hvl, hbig, hrow⟩ := xe.rows
  refine CS_of [.cell 2 32] Try.func23 rfl rfl rfl ?_
  refine TS_seq ?_
  refine TS_region ?_
  refine VS_step (S_box rfl rfl (fun b1 => ?_)) rfl
  refine VS_step (S_alloc zl32 rfl (fun b2 => ?_)) rfl
  refine VS_nil ?_
  refine QS_then ?_
  refine TS_seq ?_
  refine TS_region ?_
  refine VS_pure (P_fieldAddr0 fo32_8 rfl) rfl rfl rfl ?_
  refine VS_read (S_loadB sg30 rfl (.there (.here)) rfl) rfl rfl rfl ?_
  refine VS_nilOwn 55 7 ?_
  have hlen : ∀ l ∈ vs, l.length = 7 := fun l hl' => by obtain ⟨i, hi, rfl⟩ := List.getElem_of_mem hl'; exact (hrow i (by omega) hi).len
  have hfl : vs.flatten.length = x.evs.length * 7 := by
    rw [List.length_flatten, ← hvl]
    clear hrd hrow hvl
    induction vs with
    | nil => rfl
    | cons l r ih => rw [List.map_cons, List.sum_cons, ih (fun l hl => hlen l (by simp [hl])), hlen l (by simp), List.length_cons, Nat.add_mul]; omega
  have hone : ∀ u ∈ vs.flatten, oneV u = true := fun u hu => by
    obtain ⟨l, hl, hul⟩ := List.mem_flatten.1 hu
    obtain ⟨i, hi, rfl⟩ := List.getElem_of_mem hl
    exact (hrow i (by omega) hi).one u hul
  refine VS_step (S_appendR (A2 := a5) (j := x.evs.length) (c2 := d5) (news := vs.flatten) sl30 rfl rfl rfl rfl (fun _ _ => .here) (fun h hs => hrd.mono (hm1.trans hs.base)) hfl hone (by simp only [maxLen]; omega) (by omega) rfl (fun A1 c1 => ?_)) rfl
  rw [Nat.zero_add, List.nil_append]
  refine VS_pure (P_fieldAddr0 fo32_8 rfl) rfl rfl rfl ?_
  refine VS_step (S_store co30 rfl rfl rfl (.there (.there (.here))) (.there (.there (.there (.there (.there (.there (.there (.there (.there (.there (.there (.there (.there (.here)))))))))))))) ?_) rfl
  refine VS_nil ?_
  refine QS_then ?_
  refine TS_seq ?_
  refine TS_region ?_
  refine VS_read (S_loadBA ag32 rfl (.there (.there (.here))) rfl) rfl rfl rfl ?_
  refine VS_step (S_storeAgg ag32 rfl rfl rfl (.there (.here)) rfl rfl ?_) rfl
  refine VS_nil ?_
  refine QS_then ?_
  refine TS_ret ?_
  exact QS_ret [_] ⟨⟨_, _, _, _, rfl, .there .here, .inr ⟨ag32, rfl⟩⟩, trivial⟩ [_] (.cons .here (Pick.nil _)) ⟨A1, c1, vs.flatten, rfl, rfl, fun m' hm ho => EvsE.own hvl hbig hrow hm ho⟩
end Go.Proofs.Ytbpihgphicmdiaa
