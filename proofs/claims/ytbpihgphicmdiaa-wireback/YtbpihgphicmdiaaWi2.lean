/- A part of the proof: contracts of functions of the program. No condition. -/
import Derived.Test.YtbpihgphicmdiaaWi1
namespace Go.Proofs.Ytbpihgphicmdiaa
open Go.Eng Wi Go.WideShapes
set_option maxRecDepth 100000
theorem struct_form {v : Value} {W : World} {t base : Nat} {fs : Array Field} (ht : Try.prog.underlying t = some (.struct fs)) (h : Value.okWide Try.prog W .any base t v) : ∃ cs : List Value, v = .agg cs.toArray := by
  obtain ⟨cs, rfl, _⟩ := okWide_struct ht h
  exact ⟨cs.toList, by simp⟩
theorem C_of_CS {f : FuncId} {args : List Value} {h : Heap} (hc : CS Try.prog f args (mp h) [] (Gives (.bool true))) : C Try.prog f args.toArray h fun v h' => v = .bool true ∧ Le (mp h) (mp h') :=
  (CS.toLe hc).mono fun _ _ ⟨⟨_, e, _⟩, hl⟩ => ⟨e, hl⟩
end Go.Proofs.Ytbpihgphicmdiaa
