import Derived.Test.YtjhoaknnmfifgaaGreatDoorUnC
section
namespace Go.Pd
open Go Go.Proofs Go.RowKit
set_option maxRecDepth 100000
theorem AM:ci 136 [SB (ft 1),nI 1] (.tup [cI 1,.bool true]):=ec (by kernel_rfl)
theorem DE:ci 43 [cI 1] (nI 0):=ec (by kernel_rfl)
theorem AN:ci 136 [SB (ft 2),nI 2] (.tup [cI 2,.bool true]):=ec (by kernel_rfl)
theorem DF:ci 43 [cI 2] (nI 0):=ec (by kernel_rfl)
theorem AO:ci 136 [SB (ft 3),nI 3] (.tup [cI 3,.bool true]):=ec (by kernel_rfl)
theorem DG:ci 43 [cI 3] (nI 0):=ec (by kernel_rfl)
theorem AQ:ci 136 [SB (ft 4),nI 4] (.tup [cI 4,.bool true]):=ec (by kernel_rfl)
theorem DH:ci 43 [cI 4] (nI 0):=ec (by kernel_rfl)
theorem AR:ci 136 [SB (ft 5),nI 5] (.tup [cI 5,.bool true]):=ec (by kernel_rfl)
theorem DI:ci 43 [cI 5] (nI 0):=ec (by kernel_rfl)
theorem AS:ci 136 [SB (ft 6),nI 6] (.tup [cI 6,.bool true]):=ec (by kernel_rfl)
theorem DJ:ci 43 [cI 6] (nI 0):=ec (by kernel_rfl)
theorem AT:ci 136 [SB (ft 7),nI 7] (.tup [cI 7,.bool true]):=ec (by kernel_rfl)
theorem DK:ci 43 [cI 7] (nI 0):=ec (by kernel_rfl)
theorem AU:ci 136 [SB (ft 8),nI 8] (.tup [cI 8,.bool true]):=ec (by kernel_rfl)
theorem DL:ci 43 [cI 8] (nI 0):=ec (by kernel_rfl)
end Go.Pd
end
