import Derived.Test.YtmhbhlbnlmbhlaaGreatDoorCsK
import Derived.Test.YtmhbhlbnlmbhlaaGreatDoorCrK
section
namespace Go.Pd
open Go Go.Proofs Go.RowKit
set_option maxRecDepth 100000
theorem gk(l:List UInt8):ByteArray.toList (bs l)=l:=by
 rw[ByteArray.toList_eq];rfl
end Go.Pd
end
