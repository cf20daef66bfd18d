import Derived.Test.YtjhoaknnmfifgaaGreatDoorUnI
import Derived.Test.YtjhoaknnmfifgaaGreatDoorUnA
import Derived.Test.YtjhoaknnmfifgaaGreatDoorUnG
import Derived.Test.YtjhoaknnmfifgaaGreatDoorPdFf
import Derived.KernelRfl
section
namespace Go.Pd
open Go Go.Proofs Go.RowKit
abbrev Em:=ByteArray×Int×Int
def A8(s:Em):List D:=[.str s.1,.int .i64 s.2.1,.int .i64 s.2.2]
end Go.Pd
end
section
namespace Go.Pd
open Go Go.Proofs
set_option maxRecDepth 100000
end Go.Pd
end
