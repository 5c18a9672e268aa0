/- A part of the proof: contracts of functions of the program. No condition. -/
import Derived.Test.YtbpihgphicmdiaaWiE
namespace Go.Proofs.Ytbpihgphicmdiaa
open Go.Eng Wi
def known (k : Int) : Bool := decide (1 ≤ k ∧ k ≤ 8 ∨ 64 ≤ k ∧ k ≤ 67)
def acn0 : Acn := ⟨0, 0, 0, 0, [], []⟩
end Go.Proofs.Ytbpihgphicmdiaa
