import Derived.Test.YtmhbhlbnlmbhlaaGreatDoorCsA
import Derived.Test.YtmhbhlbnlmbhlaaGreatDoorCrE
import Derived.KernelRfl
section
namespace Go.Pd
open Go Go.Proofs
set_option maxRecDepth 100000
end Go.Pd
end
