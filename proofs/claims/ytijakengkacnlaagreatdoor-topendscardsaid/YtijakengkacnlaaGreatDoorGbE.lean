/- The types' layout, in pieces: one closed fact over all passes the memory that a process may have. No condition. -/
import Derived.Test.YtijakengkacnlaaGreatDoorRows
import Derived.JoinedOf
namespace Go.Proofs.YtijakengkacnlaaGreatDoor
open Go
set_option maxRecDepth 100000
theorem Yq {f : Nat → Bool} : ∀ i < 0, f i = true := fun _ h => absurd h (Nat.not_lt_zero _)
theorem xy {f : Nat → Bool} {a k : Nat} (h : ∀ i < a, f i = true) (hk : ((List.range k).all fun j => f (a + j)) = true) : ∀ i < a + k, f i = true := fun i hi => by
 by_cases hlt : i < a
 ·exact h i hlt
 ·have e := List.all_eq_true.1 hk (i - a) (List.mem_range.2 (by omega));have e2 : a + (i - a) = i := by omega
  rw [e2] at e; exact e
theorem V0 {f : Nat → Bool} {n m : Nat} (h : ∀ i < m, f i = true) (e : n = m) : (List.range n).all f = true := by
 subst e; exact List.all_eq_true.2 fun i hi => h i (List.mem_range.1 hi)
theorem vL {a b : Bool} (ha : a = true) (hb : b = true) : (a && b) = true := by rw [ha, hb]; rfl
theorem Em : ((List.range 100).all fun j => rowFine Tryz.prog (0 + j)) = true := by kernel_rfl
theorem El : ((List.range 100).all fun j => rowFine Tryz.prog (100 + j)) = true := by kernel_rfl
theorem Ek : ((List.range 100).all fun j => rowFine Tryz.prog (200 + j)) = true := by kernel_rfl
theorem Ej : ((List.range 100).all fun j => rowFine Tryz.prog (300 + j)) = true := by kernel_rfl
theorem Ei : ((List.range 100).all fun j => rowFine Tryz.prog (400 + j)) = true := by kernel_rfl
theorem Eh : ((List.range 100).all fun j => rowFine Tryz.prog (500 + j)) = true := by kernel_rfl
theorem Eg : ((List.range 100).all fun j => rowFine Tryz.prog (600 + j)) = true := by kernel_rfl
theorem Ef : ((List.range 91).all fun j => rowFine Tryz.prog (700 + j)) = true := by kernel_rfl
theorem Js : (Tryz.prog.globals.all fun g => decide (g.type < Tryz.prog.types.size)) = true := by kernel_rfl
theorem Jt : (Tryz.prog.funcs.all fun f => f.params.all fun t => decide (t < Tryz.prog.types.size)) = true := by kernel_rfl
theorem Hk : Tryz.prog.types.size = 791 := by kernel_rfl
theorem qo : laidOutB Tryz.prog = true := vL (vL (V0 (m := 791) (xy (xy (xy (xy (xy (xy (xy (xy Yq Em) El) Ek) Ej) Ei) Eh) Eg) Ef) Hk) Js) Jt
end Go.Proofs.YtijakengkacnlaaGreatDoor
