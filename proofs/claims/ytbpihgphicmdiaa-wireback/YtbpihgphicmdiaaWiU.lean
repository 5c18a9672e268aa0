/- A part of the proof: contracts of functions of the program. No condition. -/
import Derived.Test.YtbpihgphicmdiaaWiT
namespace Go.Proofs.Ytbpihgphicmdiaa
open Go.Eng Wi
set_option maxRecDepth 100000
def badOut (out : List UInt8) (o : Option (List UInt8)) : List UInt8 := o.getD out
end Go.Proofs.Ytbpihgphicmdiaa
