/- A book, a name, a deck and two numbers as they are handed in, and DeckLess on them. No condition. -/
import Derived.Test.YtccleakfgmcjpaaDoorDkR
import Derived.Test.YtccleakfgmcjpaaDoorDkN
namespace Go.Proofs.YtccleakfgmcjpaaDoor
open Go.Eng Dk Go.WideShapes
set_option maxRecDepth 100000
section
variable {H : Type} {enc : TypeId × Value → H} {base b0 b1 b2 b3 b4 base1 base2 base3 base4 fuel fuel1 fuel2 fuel3 fuel4 : Nat} {spare spare1 spare2 spare3 spare4 : Nat → Bool} {held held1 held2 held3 held4 : Bool}
theorem strs_cap {w : World} {a : Option Addr} {n c : Nat} {x : DataW H × List MemPlace} (h : DataW.trod enc Tryd.prog w base spare held fuel 26 [.slice a n c] = some x) : n ≤ c := by
  rcases DataW.trod_slice (sliceT_spec (t := 26) (e := 9) (by kernel_rfl)) h with ⟨hcs, _⟩ | ⟨a2, len, cap, elems, rest, k, _, e2, _, _, hl, hm, _⟩
  · simp only [List.cons.injEq, Value.slice.injEq, and_true] at hcs
    omega
  · simp only [List.cons.injEq, Value.slice.injEq, and_true] at e2
    omega
end
end Go.Proofs.YtccleakfgmcjpaaDoor
