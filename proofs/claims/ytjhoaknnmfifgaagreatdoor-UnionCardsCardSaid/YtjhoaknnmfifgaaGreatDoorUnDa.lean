import Derived.Test.YtjhoaknnmfifgaaGreatDoorUnC
section
namespace Go.Pd
open Go Go.Proofs Go.RowKit
set_option maxRecDepth 100000
theorem BD:ce 136 [SB (fB 1),nI 1] (.tup [cO 1,.bool true]):=em (by kernel_rfl)
theorem ES:ce 43 [cO 1] (nI 0):=em (by kernel_rfl)
theorem BE:ce 136 [SB (fB 2),nI 2] (.tup [cO 2,.bool true]):=em (by kernel_rfl)
theorem ET:ce 43 [cO 2] (nI 0):=em (by kernel_rfl)
theorem BF:ce 136 [SB (fB 3),nI 3] (.tup [cO 3,.bool true]):=em (by kernel_rfl)
theorem EU:ce 43 [cO 3] (nI 0):=em (by kernel_rfl)
theorem BG:ce 136 [SB (fB 4),nI 4] (.tup [cO 4,.bool true]):=em (by kernel_rfl)
theorem EV:ce 43 [cO 4] (nI 0):=em (by kernel_rfl)
theorem BH:ce 136 [SB (fB 5),nI 5] (.tup [cO 5,.bool true]):=em (by kernel_rfl)
theorem EW:ce 43 [cO 5] (nI 0):=em (by kernel_rfl)
theorem BI:ce 136 [SB (fB 6),nI 6] (.tup [cO 6,.bool true]):=em (by kernel_rfl)
theorem EX:ce 43 [cO 6] (nI 0):=em (by kernel_rfl)
theorem BJ:ce 136 [SB (fB 7),nI 7] (.tup [cO 7,.bool true]):=em (by kernel_rfl)
theorem EY:ce 43 [cO 7] (nI 0):=em (by kernel_rfl)
theorem BK:ce 136 [SB (fB 8),nI 8] (.tup [cO 8,.bool true]):=em (by kernel_rfl)
theorem EZ:ce 43 [cO 8] (nI 0):=em (by kernel_rfl)
end Go.Pd
end
