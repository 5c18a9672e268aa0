/- Plain: the words of two texts. No condition. -/
import Derived.Test.YtigfdclopkagmaaDoorWdQ
namespace Wd
open Go Go.Eng
def isOk (r : Res) (ws : List Wrd) : Bool := match r with
  | .ok l => decide (l = ws)
  | .error _ => false
def isErr (r : Res) (e : Int) (a : Nat) : Bool := match r with
  | .ok _ => false
  | .error p => decide (p = (e, a))
def t1 : List UInt8 := [99, 97, 114, 100, 32, 195, 137, 108, 97, 110, 39, 32, 51, 32, 35, 32, 120]
def elan : List UInt8 := [195, 137, 108, 97, 110, 39]
def w1 : List Wrd := [⟨1, [99, 97, 114, 100], 0, 0⟩, ⟨1, elan, 0, 5⟩, ⟨2, [], 3, 12⟩, ⟨0, [], 0, 17⟩]
theorem cut1 : isOk (cutP t1) w1 = true := by decide +kernel
theorem cut2 : isErr (cutP [48, 49]) 110 0 = true := by decide +kernel
theorem isOk_eq {r : Res} {ws : List Wrd} (h : isOk r ws = true) : r = .ok ws := by
  unfold isOk at h
  split at h
  · rw [of_decide_eq_true h]
  · cases h
theorem isErr_eq {r : Res} {e : Int} {a : Nat} (h : isErr r e a = true) : r = .error (e, a) := by
  unfold isErr at h
  split at h
  · cases h
  · rw [of_decide_eq_true h]
end Wd
