/- A part of the proof: contracts of functions of the program. No condition. -/
import Derived.Test.YtigmehimficmlaaLaDown
import Derived.Test.YtigmehimficmlaaEng
namespace Go.Proofs.Ytigmehimficmlaa
open Go.Eng La
def Y : BTy := ⟨22, 3, 9, 25, 23, 28, 26, 33, 31⟩
theorem Yok : Y.ok Try.prog = true := by kernel_rfl
theorem i64_bds {z : Int} (h : (Lit.int .i64 z).wf = true) : -9223372036854775808 ≤ z ∧ z ≤ 9223372036854775807 := by
  simp [Lit.wf, IntKind.min, IntKind.max, IntKind.signed, IntKind.bits] at h
  omega
theorem down_in {H : Type} {enc : TypeId × Value → H} {base : Nat} {spare : Nat → Bool} {held : Bool} (W : World) (a0 : Int) (w0 : (Lit.int .i64 a0).wf = true) (a1 : Int) (w1 : (Lit.int .i64 a1).wf = true) (a2 : Option Addr) (len2 cap2 : Nat)
    {fuel : Nat} {x : DataW H × List MemPlace} (hf2 : DataW.trod enc Try.prog W base spare held fuel 31 [.slice a2 len2 cap2] = some x) (a3 : Int) (w3 : (Lit.int .i64 a3).wf = true) :
    C Try.prog 6 #[.int .i64 a0, .int .i64 a1, .slice a2 len2 cap2, .int .i64 a3] W.heap fun v h' => v = .bool true ∧ Le (mp W.heap) (mp h') := by
  obtain ⟨l, hl, h1, h2⟩ := effs_in Yok hf2
  exact down_core W.heap a0 a1 a3 (i64_bds w0) (i64_bds w1) (i64_bds w3) hl h1 h2
end Go.Proofs.Ytigmehimficmlaa
