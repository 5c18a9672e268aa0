/- Plain: letters, and how they lie in memory. No condition. -/
import Derived.Test.YtbpihgphicmdiaaEng2
namespace Wi
open Go Go.Eng
structure Acn where
  op : Int
  side : Int
  place : Int
  target : Int
  ids : List Int
  pairs : List (Int × Int)
deriving DecidableEq
structure Evt where
  kind : Int
  side : Int
  card : Int
  id : Int
  other : Int
  n : Int
  cards : List Int
deriving DecidableEq
structure Ltr where
  kind : Int
  table : Int
  text : List UInt8
  bytes : List UInt8
  cards : List (List UInt8)
  act : Acn
  to_ : Int
  e : Int
  evs : List Evt
deriving DecidableEq
def iV (n : Int) : Value := .int .i64 n
def sV (s : List UInt8) : Value := .string (bs s)
def pV (p : Int × Int) : List Value := [iV p.1, iV p.2]
def SlI (m : Mp) (v : Value) (xs : List Int) : Prop := ∃ a c, v = .slice a xs.length c ∧ Rd m a (xs.map iV) ∧ xs.length ≤ maxLen
def SlB (m : Mp) (v : Value) (xs : List UInt8) : Prop := ∃ a c, v = .slice a xs.length c ∧ Rd m a (xs.map byteV) ∧ xs.length ≤ maxLen
def SlS (m : Mp) (v : Value) (xs : List (List UInt8)) : Prop := ∃ a c, v = .slice a xs.length c ∧ Rd m a (xs.map sV) ∧ xs.length ≤ maxLen
def SlP (m : Mp) (v : Value) (xs : List (Int × Int)) : Prop := ∃ a c, v = .slice a xs.length c ∧ Rd m a (xs.flatMap pV) ∧ xs.length ≤ maxLen
def EvR (m : Mp) (l : List Value) (e : Evt) : Prop := ∃ v, l = [.int .i8 e.kind, iV e.side, iV e.card, iV e.id, iV e.other, iV e.n, v] ∧ SlI m v e.cards
def SlE (m : Mp) (v : Value) (es : List Evt) : Prop := ∃ (a : Option Addr) (c : Nat) (vs : List (List Value)), v = .slice a es.length c ∧ Rd m a (List.flatten vs) ∧ vs.length = es.length ∧ es.length ≤ maxLen ∧ ∀ (i : Nat) (l : List Value) (e : Evt), vs[i]? = some l → es[i]? = some e → EvR m l e
def ActR (m : Mp) (l : List Value) (x : Acn) : Prop := ∃ v w, l = [.int .i8 x.op, iV x.side, iV x.place, iV x.target, v, w] ∧ SlI m v x.ids ∧ SlP m w x.pairs
def LtR (m : Mp) (l : List Value) (x : Ltr) : Prop := ∃ vb vc vi vp ve, l = [.int .u8 x.kind, iV x.table, sV x.text, vb, vc, .int .i8 x.act.op, iV x.act.side, iV x.act.place, iV x.act.target, vi, vp, .int .u8 x.to_, iV x.e, ve] ∧ SlB m vb x.bytes ∧ SlS m vc x.cards ∧ SlI m vi x.act.ids ∧ SlP m vp x.act.pairs ∧ SlE m ve x.evs
theorem take_step {α : Type} {xs ys : List α} {i : Nat} (h : xs.take i = ys.take i) (hi : i < xs.length) (hj : i < ys.length) (e : xs[i] = ys[i]) : xs.take (i + 1) = ys.take (i + 1) := by
  rw [List.take_succ_eq_append_getElem hi, List.take_succ_eq_append_getElem hj, h, e]
theorem take_all {α : Type} {xs ys : List α} {i : Nat} (h : xs.take i = ys.take i) (hi : xs.length ≤ i) (hl : xs.length = ys.length) : xs = ys := by
  rwa [List.take_of_length_le hi, List.take_of_length_le (by omega)] at h
theorem Rd_get {m : Mp} {a : Option Addr} {α : Type} {f : α → Value} {xs : List α} (h : Rd m a (xs.map f)) {i : Nat} (hi : i < xs.length) : mc m ((sa a).add i) = some (f xs[i]) := h.at_ (by simp [hi])
theorem SlI.mono {m m' : Mp} {v : Value} {xs : List Int} (h : SlI m v xs) (hl : Le m m') : SlI m' v xs := let ⟨a, c, e, r, k⟩ := h; ⟨a, c, e, r.mono hl, k⟩
theorem SlB.mono {m m' : Mp} {v : Value} {xs : List UInt8} (h : SlB m v xs) (hl : Le m m') : SlB m' v xs := let ⟨a, c, e, r, k⟩ := h; ⟨a, c, e, r.mono hl, k⟩
theorem SlS.mono {m m' : Mp} {v : Value} {xs : List (List UInt8)} (h : SlS m v xs) (hl : Le m m') : SlS m' v xs := let ⟨a, c, e, r, k⟩ := h; ⟨a, c, e, r.mono hl, k⟩
theorem SlP.mono {m m' : Mp} {v : Value} {xs : List (Int × Int)} (h : SlP m v xs) (hl : Le m m') : SlP m' v xs := let ⟨a, c, e, r, k⟩ := h; ⟨a, c, e, r.mono hl, k⟩
theorem EvR.mono {m m' : Mp} {l : List Value} {x : Evt} (h : EvR m l x) (hl : Le m m') : EvR m' l x := let ⟨v, e, r⟩ := h; ⟨v, e, r.mono hl⟩
theorem SlE.mono {m m' : Mp} {v : Value} {es : List Evt} (h : SlE m v es) (hl : Le m m') : SlE m' v es := let ⟨a, c, vs, e, r, k, b, g⟩ := h; ⟨a, c, vs, e, r.mono hl, k, b, fun i l e hi he => (g i l e hi he).mono hl⟩
theorem ActR.mono {m m' : Mp} {l : List Value} {x : Acn} (h : ActR m l x) (hl : Le m m') : ActR m' l x := let ⟨v, w, e, r, k⟩ := h; ⟨v, w, e, r.mono hl, k.mono hl⟩
theorem LtR.mono {m m' : Mp} {l : List Value} {x : Ltr} (h : LtR m l x) (hl : Le m m') : LtR m' l x := let ⟨a, b, c, d, f, e, r, k, g, u, w⟩ := h; ⟨a, b, c, d, f, e, r.mono hl, k.mono hl, g.mono hl, u.mono hl, w.mono hl⟩
end Wi
