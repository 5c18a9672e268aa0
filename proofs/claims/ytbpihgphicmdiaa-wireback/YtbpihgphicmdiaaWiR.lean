/- A part of the proof: contracts of functions of the program. No condition. -/
import Derived.Test.YtbpihgphicmdiaaWiO
import Derived.Test.YtbpihgphicmdiaaEng2
namespace Go.Proofs.Ytbpihgphicmdiaa
open Go.Eng Wi
set_option maxRecDepth 100000
def outE (A : Option Addr) (c : Nat) (out : List UInt8) : List Ent := [own 5 1 A out.length c (out.map byteV)]
/-- functions of the document's answer that write behind what is there, and tell whether it could be -/
def GC (f : FuncId) (rest : List Value) (m : Mp) (Bd : Nat) (r : Option (List UInt8)) : Prop :=
  ∀ (A : Option Addr) (c : Nat) (out : List UInt8), out.length < Bd → CS Try.prog f (.slice A out.length c :: rest) m (outE A c out)
    (fun v L' => ∃ A' c' out', L' = outE A' c' out' ∧ v = .tuple [.slice A' out'.length c', .bool r.isSome].toArray ∧ ∀ e, r = some e → out' = out ++ e)
def eSz (n : Nat) : Option (List UInt8) := if n ≤ 65535 then some (sz2 n) else none
end Go.Proofs.Ytbpihgphicmdiaa
