/- A part of the proof: contracts of functions of the program. No condition. -/
import Derived.Test.YtbpihgphicmdiaaWiG
import Derived.Test.YtbpihgphicmdiaaWiH
import Derived.Test.YtbpihgphicmdiaaEng2
namespace Go.Proofs.Ytbpihgphicmdiaa
open Go.Eng Wi
def I64 (n : Int) : Prop := -9223372036854775808 ≤ n ∧ n ≤ 9223372036854775807
def I8 (n : Int) : Prop := -128 ≤ n ∧ n ≤ 127
/-! what may be written back where it stands -/
def BytesE (m : Mp) (v : Value) (xs : List UInt8) : Prop := ∃ a c0, v = .slice a xs.length c0 ∧ (0 < xs.length → a.isSome = true) ∧ xs.length ≤ 140737488355328 ∧ ∀ i (hi : i < xs.length), Wc m ((sa a).add i) (byteV xs[i])
def StrsE (m : Mp) (v : Value) (xs : List (List UInt8)) : Prop := ∃ a c0, v = .slice a xs.length c0 ∧ (0 < xs.length → a.isSome = true) ∧ xs.length ≤ 140737488355328 ∧ ∀ i (hi : i < xs.length), Wc m ((sa a).add i) (sV xs[i])
def IntsE (m : Mp) (v : Value) (xs : List Int) : Prop := ∃ a c0, v = .slice a xs.length c0 ∧ (0 < xs.length → a.isSome = true) ∧ xs.length ≤ 140737488355328 ∧ ∀ i (hi : i < xs.length), Wc m ((sa a).add i) (iV xs[i]) ∧ I64 xs[i]
def PairsE (m : Mp) (v : Value) (xs : List (Int × Int)) : Prop := ∃ a c0, v = .slice a xs.length c0 ∧ (0 < xs.length → a.isSome = true) ∧ xs.length ≤ 140737488355328 ∧ ∀ i (hi : i < xs.length), Wc m (((sa a).add (i * 2)).add 0) (iV xs[i].1) ∧ Wc m (((sa a).add (i * 2)).add 1) (iV xs[i].2) ∧ I64 xs[i].1 ∧ I64 xs[i].2
def ActE (m : Mp) (xa : Addr) (x : Acn) : Prop := ∃ vi vp, Wc m (xa.add 0) (.int .i8 x.op) ∧ Wc m (xa.add 1) (iV x.side) ∧ Wc m (xa.add 2) (iV x.place) ∧ Wc m (xa.add 3) (iV x.target) ∧ Wc m (xa.add 4) vi ∧ Wc m (xa.add 5) vp ∧ IntsE m vi x.ids ∧ PairsE m vp x.pairs ∧ I8 x.op ∧ I64 x.side ∧ I64 x.place ∧ I64 x.target
def EvtE (m : Mp) (xa : Addr) (x : Evt) : Prop := ∃ vc, Wc m (xa.add 0) (.int .i8 x.kind) ∧ Wc m (xa.add 1) (iV x.side) ∧ Wc m (xa.add 2) (iV x.card) ∧ Wc m (xa.add 3) (iV x.id) ∧ Wc m (xa.add 4) (iV x.other) ∧ Wc m (xa.add 5) (iV x.n) ∧ Wc m (xa.add 6) vc ∧ IntsE m vc x.cards ∧ I8 x.kind ∧ I64 x.side ∧ I64 x.card ∧ I64 x.id ∧ I64 x.other ∧ I64 x.n
def EvsE (m : Mp) (v : Value) (xs : List Evt) : Prop := ∃ a c0, v = .slice a xs.length c0 ∧ (0 < xs.length → a.isSome = true) ∧ xs.length ≤ 140737488355328 ∧ ∀ i (hi : i < xs.length), EvtE m ((sa a).add (i * 7)) xs[i]
theorem BytesE.mono {m m' : Mp} {v : Value} {xs : List UInt8} (h : BytesE m v xs) (hl : Le m m') : BytesE m' v xs := let ⟨a, c, e, k, l, g⟩ := h; ⟨a, c, e, k, l, fun i hi => (g i hi).mono hl⟩
theorem StrsE.mono {m m' : Mp} {v : Value} {xs : List (List UInt8)} (h : StrsE m v xs) (hl : Le m m') : StrsE m' v xs := let ⟨a, c, e, k, l, g⟩ := h; ⟨a, c, e, k, l, fun i hi => (g i hi).mono hl⟩
theorem IntsE.mono {m m' : Mp} {v : Value} {xs : List Int} (h : IntsE m v xs) (hl : Le m m') : IntsE m' v xs := let ⟨a, c, e, k, l, g⟩ := h; ⟨a, c, e, k, l, fun i hi => ⟨(g i hi).1.mono hl, (g i hi).2⟩⟩
theorem PairsE.mono {m m' : Mp} {v : Value} {xs : List (Int × Int)} (h : PairsE m v xs) (hl : Le m m') : PairsE m' v xs := let ⟨a, c, e, k, l, g⟩ := h; ⟨a, c, e, k, l, fun i hi => ⟨(g i hi).1.mono hl, (g i hi).2.1.mono hl, (g i hi).2.2⟩⟩
theorem ActE.mono {m m' : Mp} {xa : Addr} {x : Acn} (h : ActE m xa x) (hl : Le m m') : ActE m' xa x := let ⟨vi, vp, a, b, c, d, e, f, g, i, r⟩ := h; ⟨vi, vp, a.mono hl, b.mono hl, c.mono hl, d.mono hl, e.mono hl, f.mono hl, g.mono hl, i.mono hl, r⟩
theorem EvtE.mono {m m' : Mp} {xa : Addr} {x : Evt} (h : EvtE m xa x) (hl : Le m m') : EvtE m' xa x := let ⟨vc, a, b, c, d, e, f, g, i, r⟩ := h; ⟨vc, a.mono hl, b.mono hl, c.mono hl, d.mono hl, e.mono hl, f.mono hl, g.mono hl, i.mono hl, r⟩
theorem EvsE.mono {m m' : Mp} {v : Value} {xs : List Evt} (h : EvsE m v xs) (hl : Le m m') : EvsE m' v xs := let ⟨a, c, e, k, l, g⟩ := h; ⟨a, c, e, k, l, fun i hi => (g i hi).mono hl⟩
def U8 (n : Int) : Prop := 0 ≤ n ∧ n ≤ 255
def ActN (a : Acn) : Prop := I8 a.op ∧ I64 a.side ∧ I64 a.place ∧ I64 a.target
def Rng (x : Ltr) : Prop := U8 x.kind ∧ I64 x.table ∧ x.text.length ≤ 140737488355328 ∧ (∀ s ∈ x.cards, s.length ≤ 140737488355328) ∧ ActN x.act ∧ U8 x.to_ ∧ I64 x.e
def LtA (m : Mp) (l : List Value) (x : Ltr) : Prop := ∃ vb vc vi vp ve, l = [.int .u8 x.kind, iV x.table, sV x.text, vb, vc, .int .i8 x.act.op, iV x.act.side, iV x.act.place, iV x.act.target, vi, vp, .int .u8 x.to_, iV x.e, ve] ∧ BytesE m vb x.bytes ∧ StrsE m vc x.cards ∧ IntsE m vi x.act.ids ∧ PairsE m vp x.act.pairs ∧ EvsE m ve x.evs ∧ Rng x
theorem LtA.mono {m m' : Mp} {l : List Value} {x : Ltr} (h : LtA m l x) (hl : Le m m') : LtA m' l x := let ⟨a, b, c, d, f, e, r, k, g, u, w, z⟩ := h; ⟨a, b, c, d, f, e, r.mono hl, k.mono hl, g.mono hl, u.mono hl, w.mono hl, z⟩
theorem rd_map {α : Type} {m : Mp} {a : Option Addr} {f : α → Value} {xs : List α} (hA : 0 < xs.length → a.isSome = true) (h : ∀ i (hi : i < xs.length), Wc m ((sa a).add i) (f xs[i])) : Rd m a (xs.map f) := fun i u hi => by
  rw [List.getElem?_map] at hi
  cases hx : xs[i]? with
  | none => rw [hx] at hi; cases hi
  | some w =>
    rw [hx] at hi
    simp only [Option.map_some, Option.some.injEq] at hi
    subst hi
    obtain ⟨hlt, rfl⟩ := List.getElem?_eq_some_iff.1 hx
    exact ⟨hA (by omega), (h i hlt).1⟩
theorem big_le {n : Nat} (h : n ≤ 140737488355328) : n ≤ maxLen := by unfold maxLen; omega
theorem BytesE.sl {m : Mp} {v : Value} {xs : List UInt8} (h : BytesE m v xs) : SlB m v xs := let ⟨a, c, e, k, l, g⟩ := h; ⟨a, c, e, rd_map k g, big_le l⟩
theorem StrsE.sl {m : Mp} {v : Value} {xs : List (List UInt8)} (h : StrsE m v xs) : SlS m v xs := let ⟨a, c, e, k, l, g⟩ := h; ⟨a, c, e, rd_map k g, big_le l⟩
theorem IntsE.sl {m : Mp} {v : Value} {xs : List Int} (h : IntsE m v xs) : SlI m v xs := let ⟨a, c, e, k, l, g⟩ := h; ⟨a, c, e, rd_map k (fun i hi => (g i hi).1), big_le l⟩
/-- rows of so many cells each, one behind the other -/
theorem rd_rows {m : Mp} {a : Option Addr} {q : Nat} (hq : 0 < q) : ∀ {vs : List (List Value)}, (∀ i (hi : i < vs.length), vs[i].length = q ∧ ∀ k v, vs[i][k]? = some v → a.isSome = true ∧ mc m ((sa a).add (i * q + k)) = some v) → Rd m a vs.flatten := by
  intro vs h j u hj
  have hlen : ∀ (ws : List (List Value)), (∀ l ∈ ws, l.length = q) → ∀ j u, ws.flatten[j]? = some u → ∃ (hi : j / q < ws.length), ws[j / q][j % q]? = some u := by
    intro ws
    induction ws with
    | nil => intro _ j u hj; simp at hj
    | cons l r ih =>
      intro hl j u hj
      have hl0 := hl l (by simp)
      rw [List.flatten_cons] at hj
      by_cases hlt : j < q
      · rw [List.getElem?_append_left (by omega)] at hj
        refine ⟨by rw [Nat.div_eq_of_lt hlt]; simp, ?_⟩
        simp only [Nat.div_eq_of_lt hlt, Nat.mod_eq_of_lt hlt, List.getElem_cons_zero]
        exact hj
      · rw [List.getElem?_append_right (by omega), hl0] at hj
        obtain ⟨h1, h2⟩ := ih (fun l hl' => hl l (by simp [hl'])) (j - q) u hj
        have e1 : j / q = (j - q) / q + 1 := Nat.div_eq_sub_div hq (by omega)
        have e2 : j % q = (j - q) % q := by rw [Nat.mod_eq_sub_mod (by omega)]
        refine ⟨by rw [e1]; simp; exact h1, ?_⟩
        simp only [e1, e2, List.getElem_cons_succ]
        exact h2
  obtain ⟨hi, hv⟩ := hlen vs (fun l hl => by obtain ⟨i, hi, rfl⟩ := List.getElem_of_mem hl; exact (h i hi).1) j u hj
  have := (h (j / q) hi).2 _ _ hv
  rw [show j / q * q + j % q = j by rw [Nat.mul_comm]; exact Nat.div_add_mod j q] at this
  exact this
theorem PairsE.sl {m : Mp} {v : Value} {xs : List (Int × Int)} (h : PairsE m v xs) : SlP m v xs := by
  obtain ⟨a, c, e, k, l, g⟩ := h
  refine ⟨a, c, e, ?_, big_le l⟩
  rw [List.flatMap_def]
  refine rd_rows (q := 2) (by omega) fun i hi => ?_
  rw [List.length_map] at hi
  rw [List.getElem_map]
  refine ⟨rfl, fun k' v hv => ⟨k (by omega), ?_⟩⟩
  obtain ⟨g1, g2, _⟩ := g i hi
  rcases k' with _ | _ | k'
  · simp [pV] at hv; subst hv; rw [← add_add]; exact g1.1
  · simp [pV] at hv; subst hv; rw [← add_add]; exact g2.1
  · simp [pV] at hv
theorem EvtE.row {m : Mp} {xa : Addr} {x : Evt} (h : EvtE m xa x) : ∃ l, l.length = 7 ∧ EvR m l x ∧ ∀ k v, l[k]? = some v → Wc m (xa.add k) v := by
  obtain ⟨vc, w0, w1, w2, w3, w4, w5, w6, hi, _⟩ := h
  refine ⟨[.int .i8 x.kind, iV x.side, iV x.card, iV x.id, iV x.other, iV x.n, vc], rfl, ⟨vc, rfl, hi.sl⟩, fun k v hv => ?_⟩
  rcases k with _ | _ | _ | _ | _ | _ | _ | k <;> simp at hv <;> subst hv <;> assumption
theorem EvsE.sl {m : Mp} {v : Value} {xs : List Evt} (h : EvsE m v xs) : SlE m v xs := by
  obtain ⟨a, c, e, k, l, g⟩ := h
  have hrow : ∀ i : Fin xs.length, ∃ l, l.length = 7 ∧ EvR m l xs[i] ∧ ∀ k v, l[k]? = some v → Wc m (((sa a).add (i * 7)).add k) v := fun i => (g i i.2).row
  let vs := List.ofFn fun i : Fin xs.length => (hrow i).choose
  have hvl : vs.length = xs.length := by simp [vs]
  have hvi : ∀ i (hi : i < xs.length), vs[i]'(by omega) = (hrow ⟨i, hi⟩).choose := fun i hi => by simp [vs]
  refine ⟨a, c, vs, e, rd_rows (q := 7) (by omega) (fun i hi => ?_), hvl, big_le l, fun i l ev hl he => ?_⟩
  · have hi' : i < xs.length := by omega
    rw [hvi i hi']
    have sp := (hrow ⟨i, hi'⟩).choose_spec
    refine ⟨sp.1, fun k' v hv => ⟨k (by omega), ?_⟩⟩
    rw [← add_add]
    exact (sp.2.2 k' v hv).1
  · obtain ⟨hi, rfl⟩ := List.getElem?_eq_some_iff.1 he
    have : vs[i]? = some (vs[i]'(by omega)) := List.getElem?_eq_getElem (by omega)
    rw [this, hvi i hi] at hl
    cases hl
    exact (hrow ⟨i, hi⟩).choose_spec.2.1
theorem LtA.lt {m : Mp} {l : List Value} {x : Ltr} (h : LtA m l x) : LtR m l x := let ⟨a, b, c, d, f, e, r, k, g, u, w, _⟩ := h; ⟨a, b, c, d, f, e, r.sl, k.sl, g.sl, u.sl, w.sl⟩
end Go.Proofs.Ytbpihgphicmdiaa
