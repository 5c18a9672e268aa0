/- The contracts of the first level. No condition. -/
import Derived.Test.YtijakengkacnlaaGreatDoorTeN
import Derived.Test.YtijakengkacnlaaGreatDoorEv43
import Derived.KernelRfl
set_option linter.all false
set_option maxRecDepth 1000000
noncomputable section
namespace Go.Ev
open Go.Eng Go.Proofs Go.Proofs.YtijakengkacnlaaGreatDoor
abbrev tP : Program := Tryz.prog
theorem kp : tP.follows .mixedOrders = true := by kernel_rfl
theorem Cs : tP.funcs.toList.all (fun fn => fn.name != "runtime.NumGoroutine") = true := by decide +kernel
theorem Yn : wq tP := fun g fn h e => by
 have h1 : fn ∈ tP.funcs.toList := by
  have := Array.mem_of_getElem? h
  simpa using this
 have := List.all_eq_true.1 Cs fn h1;rw [e] at this
 simp at this
abbrev tD : Nat -> Option DE := dN
theorem Yo : aC tP tD := BI
def nL (k : IntKind) (l : List Nat) : Lv := List.rec (motive := fun _ => Lv) [] (fun n _ r => .int k (.ofNat n) :: r) l
def y1 (l : List Nat) : Lv := nL .u8 l
def y4 (l : List Nat) : Lv := nL .u32 l
def yz (k : IntKind) (n v : Nat) : Lv := Nat.rec (motive := fun _ => Lv) [] (fun _ r => .int k (.ofNat v) :: r) n
noncomputable def a1 (g : Nat) (c : Ct) (X : ki) : ki := fun n => Bool.rec (X n) (some c) (Nat.beq g n)
noncomputable def x0 : ki := fun _ => none
theorem Cl : kN tP x0 := fun _ _ h => by cases h
theorem xZ {g : Nat} {c : Ct} {X : ki} (h : yZ tP g c) (hX : kN tP X) : kN tP (a1 g c X) := fun n c' hn => by
 replace hn : Bool.rec (X n) (some c) (Nat.beq g n) = some c' := hn
 cases hb : Nat.beq g n with
 | true => rw [hb] at hn; cases hn; cases Nat.eq_of_beq_eq_true hb; exact h
 | false => rw [hb] at hn; exact hX n c' hn
noncomputable def wP (n : Nat) : Value := .pointer (some ⟨n, 0, none⟩)
noncomputable def wS (n a b : Nat) : Value := .slice (some ⟨n, 0, none⟩) a b
noncomputable def wN : Value := .slice none 0 0
noncomputable def wI (n : Int) : Value := .int .i64 n
noncomputable def wB (n : Int) : Value := .int .i8 n
noncomputable def wQ (n : Int) : Value := .int .u64 n
noncomputable def wU (n : Int) : Value := .int .u8 n
noncomputable def wW (n : Int) : Value := .int .i32 n
noncomputable def wV (n : Int) : Value := .int .u32 n
noncomputable def wT (l : Bt) : Value := .string ⟨⟨l⟩⟩
noncomputable def wA (l : Lv) : Value := .agg ⟨l⟩
def xA : ki := a1 517 Df (a1 515 E7 (a1 514 De (a1 436 E8 (a1 394 Da (a1 393 Di (a1 329 Dd (a1 249 cRnd (a1 248 cFst (a1 175 Dg (a1 161 E9 (a1 141 Dh x0)))))))))))
theorem Vx : kN tP xA := xZ Sf (xZ R5 (xZ Sc (xZ R6 (xZ R8 (xZ Sk (xZ Sa (xZ Sb (xZ Sj (xZ Sh (xZ R7 (xZ Si Cl)))))))))))
end Go.Ev
end
