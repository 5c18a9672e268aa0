/- A book, a name, a deck and two numbers as they are handed in, and DeckLess on them. No condition. -/
import Derived.Test.YtccleakfgmcjpaaDoorDkR
import Derived.Test.YtccleakfgmcjpaaDoorDkN
namespace Go.Proofs.YtccleakfgmcjpaaDoor
open Go.Eng Dk Go.WideShapes
set_option maxRecDepth 100000
section
variable {H : Type} {enc : TypeId × Value → H} {base b0 b1 b2 b3 b4 base1 base2 base3 base4 fuel fuel1 fuel2 fuel3 fuel4 : Nat} {spare spare1 spare2 spare3 spare4 : Nat → Bool} {held held1 held2 held3 held4 : Bool}
theorem strs_cap {w : World} {a : Option Addr} {n c : Nat} {x : DataW H × List MemPlace} (h : DataW.trod enc Tryd.prog w base spare held fuel 26 [.slice a n c] = some x) : n ≤ c := by
  rcases DataW.trod_slice (sliceT_spec (t := 26) (e := 9) (by kernel_rfl)) h with ⟨hcs, _⟩ | ⟨a2, len, cap, elems, rest, k, _, e2, _, _, hl, hm, _⟩
  · simp only [List.cons.injEq, Value.slice.injEq, and_true] at hcs
    omega
  · simp only [List.cons.injEq, Value.slice.injEq, and_true] at e2
    omega
theorem deckLess_in (W : World) (hT : Tabs (mp W.heap)) {x0 x1 x2 x3 x4 : DataW H × List MemPlace} (v0 : Value) (o0 : Value.okWide Tryd.prog W .any b0 25 v0) (k0 : DataW.trod enc Tryd.prog W base spare held fuel 25 v0.cells.toList = some x0) (g0 : GoodR Tryd.prog W 25 x0)
    (v1 : Value) (o1 : Value.okWide Tryd.prog W .any b1 9 v1) (k1 : DataW.trod enc Tryd.prog W base1 spare1 held1 fuel1 9 v1.cells.toList = some x1) (g1 : GoodR Tryd.prog W 9 x1)
    (v2 : Value) (o2 : Value.okWide Tryd.prog W .any b2 26 v2) (k2 : DataW.trod enc Tryd.prog W base2 spare2 held2 fuel2 26 v2.cells.toList = some x2) (g2 : GoodR Tryd.prog W 26 x2)
    (v3 : Value) (o3 : Value.okWide Tryd.prog W .any b3 3 v3) (k3 : DataW.trod enc Tryd.prog W base3 spare3 held3 fuel3 3 v3.cells.toList = some x3) (_g3 : GoodR Tryd.prog W 3 x3)
    (v4 : Value) (o4 : Value.okWide Tryd.prog W .any b4 3 v4) (k4 : DataW.trod enc Tryd.prog W base4 spare4 held4 fuel4 3 v4.cells.toList = some x4) (_g4 : GoodR Tryd.prog W 3 x4) :
    C Tryd.prog 4 #[v0, v1, v2, v3, v4] W.heap fun v h' => v = .bool true ∧ Le (mp W.heap) (mp h') := by
  obtain ⟨cs, rfl⟩ := struct_form Tryd.underlying25 o0
  obtain ⟨b, hb⟩ := book_in k0 g0
  obtain ⟨s, rfl⟩ := okWide_string Tryd.underlying9 o1
  obtain ⟨fm, e1, _⟩ := str_inW (by kernel_rfl) k1 g1
  have e1' : s = bs fm := by simpa [Value.cells] using e1
  subst e1'
  obtain ⟨a, n, c, rfl⟩ := okWide_slice Tryd.underlying26 o2
  have hcap := strs_cap (show DataW.trod enc Tryd.prog W base2 spare2 held2 fuel2 26 [.slice a n c] = some x2 from k2)
  obtain ⟨A, c2, xs, e, hx, _⟩ := strs_in k2 g2
  cases e
  obtain ⟨i, rfl⟩ := okWide_int Tryd.underlying3 o3
  obtain ⟨i2, e3, w3⟩ := int_in (k := .i64) (by kernel_rfl) k3
  have e3' : i = i2 := by simpa [Value.cells] using e3
  subst e3'
  obtain ⟨j, rfl⟩ := okWide_int Tryd.underlying3 o4
  obtain ⟨j2, e4, w4⟩ := int_in (k := .i64) (by kernel_rfl) k4
  have e4' : j = j2 := by simpa [Value.cells] using e4
  subst e4'
  exact C_of_CS (DeckLess_ok hT hb fm hx hcap (i64_wf w3) (i64_wf w4))
end
end Go.Proofs.YtccleakfgmcjpaaDoor
