/- A book, a name, a deck and reasons as they are handed in, and DeckChecks on them. No condition. -/
import Derived.Test.YtccleakfgmcjpaaDoorDkZ
import Derived.Test.YtccleakfgmcjpaaDoorDkS
namespace Go.Proofs.YtccleakfgmcjpaaDoor
open Go.Eng Dk Go.WideShapes
set_option maxRecDepth 100000
section
variable {H : Type} {enc : TypeId × Value → H} {base b0 b1 b2 b3 base1 base2 base3 fuel fuel1 fuel2 fuel3 : Nat} {spare spare1 spare2 spare3 : Nat → Bool} {held held1 held2 held3 : Bool}
theorem deckChecks_in (W : World) (hT : Tabs (mp W.heap)) {x0 x1 x2 x3 : DataW H × List MemPlace} (v0 : Value) (o0 : Value.okWide Tryd.prog W .any b0 25 v0) (k0 : DataW.trod enc Tryd.prog W base spare held fuel 25 v0.cells.toList = some x0) (g0 : GoodR Tryd.prog W 25 x0)
    (v1 : Value) (o1 : Value.okWide Tryd.prog W .any b1 9 v1) (k1 : DataW.trod enc Tryd.prog W base1 spare1 held1 fuel1 9 v1.cells.toList = some x1) (g1 : GoodR Tryd.prog W 9 x1)
    (v2 : Value) (o2 : Value.okWide Tryd.prog W .any b2 26 v2) (k2 : DataW.trod enc Tryd.prog W base2 spare2 held2 fuel2 26 v2.cells.toList = some x2) (g2 : GoodR Tryd.prog W 26 x2)
    (v3 : Value) (o3 : Value.okWide Tryd.prog W .any b3 27 v3) (k3 : DataW.trod enc Tryd.prog W base3 spare3 held3 fuel3 27 v3.cells.toList = some x3) (g3 : GoodR Tryd.prog W 27 x3)
    (hbulk : Rows.uptoBulkAll [x0.1, x1.1, x2.1, x3.1] ≤ 1048576) :
    C Tryd.prog 3 #[v0, v1, v2, v3] W.heap fun v h' => v = .bool true ∧ Le (mp W.heap) (mp h') := by
  simp only [Rows.uptoBulkAll] at hbulk
  obtain ⟨cs, rfl⟩ := struct_form Tryd.underlying25 o0
  obtain ⟨b, hb⟩ := book_in k0 g0
  obtain ⟨s, rfl⟩ := okWide_string Tryd.underlying9 o1
  obtain ⟨fm, e1, _⟩ := str_inW (by kernel_rfl) k1 g1
  have e1' : s = bs fm := by simpa [Value.cells] using e1
  subst e1'
  obtain ⟨a, n, c, rfl⟩ := okWide_slice Tryd.underlying26 o2
  have hcap := strs_cap (show DataW.trod enc Tryd.prog W base2 spare2 held2 fuel2 26 [.slice a n c] = some x2 from k2)
  obtain ⟨A, c2, xs, e, hx, _⟩ := strs_in k2 g2
  cases e
  have hxk := strs_bulk (show DataW.trod enc Tryd.prog W base2 spare2 held2 fuel2 26 [.slice a xs.length c] = some x2 from k2) hx
  obtain ⟨a3, n3, c3, rfl⟩ := okWide_slice Tryd.underlying27 o3
  obtain ⟨B, k, rs, e3, hr, hrl, hR⟩ := reas_in k3 g3
  cases e3
  exact C_of_CS (DeckChecks_ok hT hb fm hx hcap (fun s hs => Nat.le_trans (hxk s hs) (by omega)) hr hrl (fun r hr => ⟨(hR r hr).1, (hR r hr).2.1, Nat.le_trans (hR r hr).2.2 (by omega)⟩))
end
end Go.Proofs.YtccleakfgmcjpaaDoor
