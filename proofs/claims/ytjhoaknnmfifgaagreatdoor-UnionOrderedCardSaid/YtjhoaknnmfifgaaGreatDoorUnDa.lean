import Derived.Test.YtjhoaknnmfifgaaGreatDoorUnC
section
namespace Go.Pd
open Go Go.Proofs Go.RowKit
set_option maxRecDepth 100000
theorem Dx:ct 136 [SB (ga 1),nI 1] (.tup [c6 1,.bool true]):=eO (by kernel_rfl)
theorem HC:ct 43 [c6 1] (nI 0):=eO (by kernel_rfl)
theorem Dy:ct 136 [SB (ga 2),nI 2] (.tup [c6 2,.bool true]):=eO (by kernel_rfl)
theorem HD:ct 43 [c6 2] (nI 0):=eO (by kernel_rfl)
theorem Dz:ct 136 [SB (ga 3),nI 3] (.tup [c6 3,.bool true]):=eO (by kernel_rfl)
theorem HE:ct 43 [c6 3] (nI 0):=eO (by kernel_rfl)
theorem DA:ct 136 [SB (ga 4),nI 4] (.tup [c6 4,.bool true]):=eO (by kernel_rfl)
theorem HF:ct 43 [c6 4] (nI 0):=eO (by kernel_rfl)
theorem DB:ct 136 [SB (ga 5),nI 5] (.tup [c6 5,.bool true]):=eO (by kernel_rfl)
theorem HG:ct 43 [c6 5] (nI 0):=eO (by kernel_rfl)
theorem DC:ct 136 [SB (ga 6),nI 6] (.tup [c6 6,.bool true]):=eO (by kernel_rfl)
theorem HH:ct 43 [c6 6] (nI 0):=eO (by kernel_rfl)
theorem DD:ct 136 [SB (ga 7),nI 7] (.tup [c6 7,.bool true]):=eO (by kernel_rfl)
theorem HI:ct 43 [c6 7] (nI 0):=eO (by kernel_rfl)
theorem DE:ct 136 [SB (ga 8),nI 8] (.tup [c6 8,.bool true]):=eO (by kernel_rfl)
theorem HJ:ct 43 [c6 8] (nI 0):=eO (by kernel_rfl)
end Go.Pd
end
