/- A part of the proof: contracts of functions of the program. No condition. -/
import Derived.Test.YtbpihgphicmdiaaWi3
import Derived.Test.YtbpihgphicmdiaaWi2
namespace Go.Proofs.Ytbpihgphicmdiaa
open Go.Eng Wi Go.WideShapes
set_option maxRecDepth 100000
theorem wireSame_in {H : Type} {enc : TypeId × Value → H} {base b0 fuel base1 b1 fuel1 : Nat} {spare spare1 : Nat → Bool} {held held1 : Bool} (W : World) {x0 x1 : DataW H × List MemPlace} (v0 : Value) (o0 : Value.okWide Try.prog W .any b0 32 v0) (k0 : DataW.trod enc Try.prog W base spare held fuel 32 v0.cells.toList = some x0) (g0 : GoodR Try.prog W 32 x0)
    (v1 : Value) (o1 : Value.okWide Try.prog W .any b1 32 v1) (k1 : DataW.trod enc Try.prog W base1 spare1 held1 fuel1 32 v1.cells.toList = some x1) (g1 : GoodR Try.prog W 32 x1) :
    C Try.prog 4 #[v0, v1] W.heap fun v h' => v = .bool true ∧ Le (mp W.heap) (mp h') := by
  obtain ⟨cs, rfl⟩ := struct_form Try.underlying32 o0
  obtain ⟨ds, rfl⟩ := struct_form Try.underlying32 o1
  obtain ⟨l, hl⟩ := letter_in k0 g0
  obtain ⟨r, hr⟩ := letter_in k1 g1
  exact C_of_CS (WireSame_ok hl hr)
end Go.Proofs.Ytbpihgphicmdiaa
