/- A part of the proof: contracts of functions of the program. No condition. -/
import Derived.Test.YtigmehimficmlaaLaTells
import Derived.Test.YtigmehimficmlaaEng
namespace Go.Proofs.Ytigmehimficmlaa
open Go.Eng La Go.WideShapes
theorem struct_form {v : Value} {W : World} {t base : Nat} {fs : Array Field} (ht : Try.prog.underlying t = some (.struct fs)) (h : Value.okWide Try.prog W .any base t v) : ∃ cs : List Value, v = .agg cs.toArray := by
  obtain ⟨cs, rfl, _⟩ := okWide_struct ht h
  exact ⟨cs.toList, by simp⟩
theorem tells_in {H : Type} {enc : TypeId × Value → H} {base : Nat} {spare : Nat → Bool} {held : Bool} (W : World) {x0 x1 : DataW H × List MemPlace} (v0 : Value) (o0 : Value.okWide Try.prog W .any 0 25 v0) (k0 : ∃ m, DataW.trod enc Try.prog W base spare held m 25 v0.cells.toList = some x0)
    (v1 : Value) (o1 : Value.okWide Try.prog W .any 0 28 v1) (k1 : ∃ m, DataW.trod enc Try.prog W base spare held m 28 v1.cells.toList = some x1) (a2 : Int) (w2 : (Lit.int .i8 a2).wf = true) (a3 : Int) (w3 : (Lit.int .i8 a3).wf = true) :
    C Try.prog 3 #[v0, v1, .int .i8 a2, .int .i8 a3] W.heap fun v h' => v = .bool true ∧ Le (mp W.heap) (mp h') := by
  obtain ⟨ns, rfl⟩ := struct_form Try.underlying25 o0
  obtain ⟨cs, rfl⟩ := struct_form Try.underlying28 o1
  obtain ⟨m0, k0⟩ := k0
  obtain ⟨m1, k1⟩ := k1
  obtain ⟨n, hn⟩ := num_in Yok _ _ _ k0
  obtain ⟨c, hc⟩ := cond_in Yok _ _ _ k1
  exact tells_core W.heap a2 a3 hn hc
end Go.Proofs.Ytigmehimficmlaa
