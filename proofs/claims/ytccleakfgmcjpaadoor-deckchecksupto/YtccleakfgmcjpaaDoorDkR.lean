/- A part of the proof: contracts of functions of the program. No condition. -/
import Derived.Test.YtccleakfgmcjpaaDoorDkM
import Derived.Test.YtccleakfgmcjpaaDoorDkQ
namespace Go.Proofs.YtccleakfgmcjpaaDoor
open Go.Eng Dk
set_option maxRecDepth 100000
end Go.Proofs.YtccleakfgmcjpaaDoor
