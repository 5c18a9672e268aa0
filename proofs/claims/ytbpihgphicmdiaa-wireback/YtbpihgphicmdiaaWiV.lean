/- A part of the proof: contracts of functions of the program. No condition. -/
import Derived.Test.YtbpihgphicmdiaaWiU
namespace Go.Proofs.Ytbpihgphicmdiaa
open Go.Eng Wi
set_option maxRecDepth 100000
section
variable {P : Program} {n : Nat} {env : Env} {m : Mp} {L : List Ent} {Q : Post}
/-- the walk cut at what is written so far -/
def roundO (m : Mp) (S : Option Addr → Nat → List UInt8 → Bool → Env) (F : List UInt8 → Bool → Prop) (Q : Post) : Post := roundS m (fun y : Option Addr × Nat × List UInt8 × Bool => S y.1 y.2.1 y.2.2.1 y.2.2.2) (fun y => outE y.1 y.2.1 y.2.2.1) (fun y => F y.2.2.1 y.2.2.2) (fun _ => 0) 1 Q
end
def FO (x : Ltr) (o : List UInt8) (ok : Bool) : Prop := (ok = true → eAll x = some o) ∧ (ok = false → eAll x = none)
end Go.Proofs.Ytbpihgphicmdiaa
