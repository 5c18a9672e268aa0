/- A part of the proof: contracts of functions of the program. No condition. -/
import Derived.Test.YtccleakfgmcjpaaDoorDkK
namespace Go.Proofs.YtccleakfgmcjpaaDoor
open Go.Eng Dk
set_option maxRecDepth 100000
def PlPost (r : List Int × Int) (v : Value) (L' : List Ent) : Prop := ∃ A2 c2, v = .tuple [.slice A2 r.1.length c2, .int .i64 r.2].toArray ∧ L' = [own 3 1 A2 r.1.length c2 (r.1.map iV)]
def NmPost (r : List (List UInt8) × Int) (v : Value) (L' : List Ent) : Prop := ∃ A2 c2, v = .tuple [.slice A2 r.1.length c2, .int .i64 r.2].toArray ∧ L' = [own 9 1 A2 r.1.length c2 (r.1.map sV)]
end Go.Proofs.YtccleakfgmcjpaaDoor
