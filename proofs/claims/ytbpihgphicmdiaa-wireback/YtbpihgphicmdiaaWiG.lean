/- A part of the proof: contracts of functions of the program. No condition. -/
import Derived.Test.YtbpihgphicmdiaaWiF
import Derived.Test.YtbpihgphicmdiaaEng2
namespace Go.Proofs.Ytbpihgphicmdiaa
open Go.Eng Wi
def rt (x : Ltr) : Bool := decide (x.kind ≠ 1 ∧ x.kind ≠ 8 ∧ x.kind ≠ 64)
def rb (x : Ltr) : Bool := decide (x.kind = 1 ∨ x.kind = 65 ∨ x.kind = 67)
def r1 (x : Ltr) : Bool := rt x || decide (x.table = 0)
def r2 (x : Ltr) : Bool := r1 x && (rb x || decide ((x.bytes.length : Int) = 0))
def r3 (x : Ltr) : Bool := r2 x && (decide (x.kind = 2) || decide (x.text = []))
def r4 (x : Ltr) : Bool := r3 x && (decide (x.kind = 3) || decide ((x.cards.length : Int) = 0))
def r5 (x : Ltr) : Bool := r4 x && (decide (x.kind = 4) || decide (x.act = acn0))
def r6 (x : Ltr) : Bool := r5 x && (decide (x.kind = 64) || (decide (x.to_ = 0) && decide (x.e = 0)))
def r7 (x : Ltr) : Bool := r6 x && (decide (x.kind = 66) || decide ((x.evs.length : Int) = 0))
def rightP (x : Ltr) : Bool := known x.kind && r7 x
set_option maxRecDepth 100000
end Go.Proofs.Ytbpihgphicmdiaa
