/- The function's name, and that no text of the program starts a goroutine. No condition. -/
import Derived.Test.YtijakengkacnlaaGreatDoorRows
import Derived.JoinedOf
import GoSem.ClaimGoes
namespace Go.Proofs.YtijakengkacnlaaGreatDoor
open Go
set_option maxRecDepth 100000
theorem jL : Tryz.prog.funcNamed Rows.topEndsRow.func = some 3 := by kernel_rfl
theorem noGo : (Tryz.prog.funcs.toList.any Func.goes) = false := by kernel_rfl
theorem Hq {P : Program} (h : P.funcs.toList.any Func.goes = false) (f : FuncId) : P.goes f = false := by
 have hA : P.funcs.any Func.goes = false := by rw [← Array.any_toList]; exact h
 unfold Program.goes;rw [hA, Bool.and_false, Bool.or_false, List.any_eq_false];intro g _;cases hg : P.funcs[g]? with
 | none => simp
 | some fn =>
   rw [List.any_eq_false] at h;obtain ⟨hlt, rfl⟩ := Array.getElem?_eq_some_iff.1 hg
   simpa using h _ (Array.getElem_mem_toList hlt)
theorem UP {P : Program} {c : OpenClaim} {f : FuncId} (hs : c.start = .entering) (hf : P.funcNamed c.func = some f) (h : P.funcs.toList.any Func.goes = false) : false = c.goesBy P := by
 unfold OpenClaim.goesBy Program.goesAt Program.goesFrom;rw [hf, hs];exact (Bool.or_eq_false_iff.2 ⟨Hq h f, rfl⟩).symm
theorem dT : false = Rows.topEndsRow.goesBy Tryz.prog := UP rfl jL noGo
end Go.Proofs.YtijakengkacnlaaGreatDoor
