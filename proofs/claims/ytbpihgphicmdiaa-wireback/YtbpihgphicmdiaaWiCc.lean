/- A letter and bytes as they are handed in, and WireBack on them. No condition. -/
import Derived.Test.YtbpihgphicmdiaaWiCb
import Derived.Test.YtbpihgphicmdiaaWi2
namespace Go.Proofs.Ytbpihgphicmdiaa
open Go.Eng Wi Go.WideShapes
set_option maxRecDepth 100000
theorem wireBack_in {H : Type} {enc : TypeId × Value → H} {base b0 fuel base1 b1 fuel1 : Nat} {spare spare1 : Nat → Bool} {held held1 : Bool} (W : World) {x0 x1 : DataW H × List MemPlace} (v0 : Value) (o0 : Value.okWide Try.prog W .any b0 32 v0) (k0 : DataW.trod enc Try.prog W base spare held fuel 32 v0.cells.toList = some x0) (g0 : GoodR Try.prog W 32 x0)
    (v1 : Value) (o1 : Value.okWide Try.prog W .any b1 22 v1) (k1 : DataW.trod enc Try.prog W base1 spare1 held1 fuel1 22 v1.cells.toList = some x1) (g1 : GoodR Try.prog W 22 x1) :
    C Try.prog 6 #[v0, v1] W.heap fun v h' => v = .bool true ∧ Le (mp W.heap) (mp h') := by
  obtain ⟨cs, rfl⟩ := struct_form Try.underlying32 o0
  obtain ⟨l, hl⟩ := letter_in k0 g0
  obtain ⟨a, n, c, rfl⟩ := okWide_slice Try.underlying22 o1
  obtain ⟨v2, xs, e, A, c2, e1, hA, hlen, hw⟩ := bytes_inE k1 g1
  cases e
  cases e1
  exact C_of_CS (WireBack_ok hl (rd_map hA hw) hlen)
end Go.Proofs.Ytbpihgphicmdiaa
