/- A part of the proof: contracts of functions of the program. No condition. -/
import Derived.Test.YtbpihgphicmdiaaWi1
namespace Go.Proofs.Ytbpihgphicmdiaa
open Go.Eng Wi Go.WideShapes
set_option maxRecDepth 100000
theorem struct_form {v : Value} {W : World} {t base : Nat} {fs : Array Field} (ht : Try.prog.underlying t = some (.struct fs)) (h : Value.okWide Try.prog W .any base t v) : ∃ cs : List Value, v = .agg cs.toArray := by
  obtain ⟨cs, rfl, _⟩ := okWide_struct ht h
  exact ⟨cs.toList, by simp⟩
theorem C_of_CS {f : FuncId} {args : List Value} {h : Heap} (hc : CS Try.prog f args (mp h) [] (Gives (.bool true))) : C Try.prog f args.toArray h fun v h' => v = .bool true ∧ Le (mp h) (mp h') :=
  (CS.toLe hc).mono fun _ _ ⟨⟨_, e, _⟩, hl⟩ => ⟨e, hl⟩
theorem wireBytes_in {H : Type} {enc : TypeId × Value → H} {base b0 fuel : Nat} {spare : Nat → Bool} {held : Bool} (W : World) {x0 : DataW H × List MemPlace} (v0 : Value) (o0 : Value.okWide Try.prog W .any b0 32 v0) (k0 : DataW.trod enc Try.prog W base spare held fuel 32 v0.cells.toList = some x0) (g0 : GoodR Try.prog W 32 x0) :
    C Try.prog 3 #[v0] W.heap fun v h' => v = .bool true ∧ Le (mp W.heap) (mp h') := by
  obtain ⟨cs, rfl⟩ := struct_form Try.underlying32 o0
  obtain ⟨l, hl⟩ := letter_in k0 g0
  exact C_of_CS (WireBytes_ok hl)
end Go.Proofs.Ytbpihgphicmdiaa
