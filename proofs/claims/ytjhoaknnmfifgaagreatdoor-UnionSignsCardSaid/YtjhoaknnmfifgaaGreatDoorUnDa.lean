import Derived.Test.YtjhoaknnmfifgaaGreatDoorUnC
section
namespace Go.Pd
open Go Go.Proofs Go.RowKit
set_option maxRecDepth 100000
theorem B1:co 136 [SB (fK 1),nI 1] (.tup [cT 1,.bool true]):=eE (by kernel_rfl)
theorem Fo:co 43 [cT 1] (nI 0):=eE (by kernel_rfl)
theorem B2:co 136 [SB (fK 2),nI 2] (.tup [cT 2,.bool true]):=eE (by kernel_rfl)
theorem Fp:co 43 [cT 2] (nI 0):=eE (by kernel_rfl)
theorem B3:co 136 [SB (fK 3),nI 3] (.tup [cT 3,.bool true]):=eE (by kernel_rfl)
theorem Fq:co 43 [cT 3] (nI 0):=eE (by kernel_rfl)
theorem B4:co 136 [SB (fK 4),nI 4] (.tup [cT 4,.bool true]):=eE (by kernel_rfl)
theorem Fr:co 43 [cT 4] (nI 0):=eE (by kernel_rfl)
theorem B5:co 136 [SB (fK 5),nI 5] (.tup [cT 5,.bool true]):=eE (by kernel_rfl)
theorem Fs:co 43 [cT 5] (nI 0):=eE (by kernel_rfl)
theorem B6:co 136 [SB (fK 6),nI 6] (.tup [cT 6,.bool true]):=eE (by kernel_rfl)
theorem Ft:co 43 [cT 6] (nI 0):=eE (by kernel_rfl)
theorem B7:co 136 [SB (fK 7),nI 7] (.tup [cT 7,.bool true]):=eE (by kernel_rfl)
theorem Fv:co 43 [cT 7] (nI 0):=eE (by kernel_rfl)
theorem B8:co 136 [SB (fK 8),nI 8] (.tup [cT 8,.bool true]):=eE (by kernel_rfl)
theorem Fw:co 43 [cT 8] (nI 0):=eE (by kernel_rfl)
end Go.Pd
end
