import Derived.Test.YtjhoaknnmfifgaaGreatDoorUnC
section
namespace Go.Pd
open Go Go.Proofs Go.RowKit
set_option maxRecDepth 100000
theorem A6:bV 136 [SB (eY 1),nI 1] (.tup [cw 1,.bool true]):=dW (by kernel_rfl)
theorem Eb:bV 43 [cw 1] (nI 0):=dW (by kernel_rfl)
theorem A7:bV 136 [SB (eY 2),nI 2] (.tup [cw 2,.bool true]):=dW (by kernel_rfl)
theorem Ec:bV 43 [cw 2] (nI 0):=dW (by kernel_rfl)
theorem A8:bV 136 [SB (eY 3),nI 3] (.tup [cw 3,.bool true]):=dW (by kernel_rfl)
theorem Ed:bV 43 [cw 3] (nI 0):=dW (by kernel_rfl)
theorem A9:bV 136 [SB (eY 4),nI 4] (.tup [cw 4,.bool true]):=dW (by kernel_rfl)
theorem Ee:bV 43 [cw 4] (nI 0):=dW (by kernel_rfl)
theorem Ba:bV 136 [SB (eY 5),nI 5] (.tup [cw 5,.bool true]):=dW (by kernel_rfl)
theorem Ef:bV 43 [cw 5] (nI 0):=dW (by kernel_rfl)
theorem Bb:bV 136 [SB (eY 6),nI 6] (.tup [cw 6,.bool true]):=dW (by kernel_rfl)
theorem Eg:bV 43 [cw 6] (nI 0):=dW (by kernel_rfl)
theorem Bc:bV 136 [SB (eY 7),nI 7] (.tup [cw 7,.bool true]):=dW (by kernel_rfl)
theorem Eh:bV 43 [cw 7] (nI 0):=dW (by kernel_rfl)
theorem Bd:bV 136 [SB (eY 8),nI 8] (.tup [cw 8,.bool true]):=dW (by kernel_rfl)
theorem Ei:bV 43 [cw 8] (nI 0):=dW (by kernel_rfl)
end Go.Pd
end
