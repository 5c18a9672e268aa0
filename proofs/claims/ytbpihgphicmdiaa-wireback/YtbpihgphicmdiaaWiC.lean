/- A part of the proof: contracts of functions of the program. No condition. -/
import Derived.Test.YtbpihgphicmdiaaWiB
namespace Go.Proofs.Ytbpihgphicmdiaa
open Go.Eng Wi
end Go.Proofs.Ytbpihgphicmdiaa
