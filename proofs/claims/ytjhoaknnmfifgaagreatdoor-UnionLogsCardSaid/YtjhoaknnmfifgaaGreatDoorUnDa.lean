import Derived.Test.YtjhoaknnmfifgaaGreatDoorUnC
section
namespace Go.Pd
open Go Go.Proofs Go.RowKit
set_option maxRecDepth 100000
theorem C5:bR 136 [SB (fb 1),nI 1] (.tup [cF 1,.bool true]):=dE (by kernel_rfl)
theorem Hd:bR 43 [cF 1] (nI 0):=dE (by kernel_rfl)
theorem C6:bR 136 [SB (fb 2),nI 2] (.tup [cF 2,.bool true]):=dE (by kernel_rfl)
theorem He:bR 43 [cF 2] (nI 0):=dE (by kernel_rfl)
theorem C7:bR 136 [SB (fb 3),nI 3] (.tup [cF 3,.bool true]):=dE (by kernel_rfl)
theorem Hf:bR 43 [cF 3] (nI 0):=dE (by kernel_rfl)
theorem C8:bR 136 [SB (fb 4),nI 4] (.tup [cF 4,.bool true]):=dE (by kernel_rfl)
theorem Hg:bR 43 [cF 4] (nI 0):=dE (by kernel_rfl)
theorem C9:bR 136 [SB (fb 5),nI 5] (.tup [cF 5,.bool true]):=dE (by kernel_rfl)
theorem Hh:bR 43 [cF 5] (nI 0):=dE (by kernel_rfl)
theorem Da:bR 136 [SB (fb 6),nI 6] (.tup [cF 6,.bool true]):=dE (by kernel_rfl)
theorem Hk:bR 43 [cF 6] (nI 0):=dE (by kernel_rfl)
theorem Db:bR 136 [SB (fb 7),nI 7] (.tup [cF 7,.bool true]):=dE (by kernel_rfl)
theorem Hl:bR 43 [cF 7] (nI 0):=dE (by kernel_rfl)
theorem Dc:bR 136 [SB (fb 8),nI 8] (.tup [cF 8,.bool true]):=dE (by kernel_rfl)
theorem Hm:bR 43 [cF 8] (nI 0):=dE (by kernel_rfl)
end Go.Pd
end
