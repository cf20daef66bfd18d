import Derived.Test.YtjhoaknnmfifgaaGreatDoorUnDa
section
namespace Go.Pd
open Go Go.Proofs Go.RowKit
set_option maxRecDepth 100000
theorem Be:PF 127 [hD 0,cw 1] (.tup [hD 1,nI 0]):=jl (bF Eb ki) nG oW (by kernel_rfl:fk (BU [(43,[cw 1],nI 0)] [] []) 60 true 127 [hD 0,cw 1]=_)
theorem Bf:PF 127 [hD 1,cw 2] (.tup [hD 2,nI 0]):=jl (bF Ec ki) nG oW (by kernel_rfl:fk (BU [(43,[cw 2],nI 0)] [] []) 60 true 127 [hD 1,cw 2]=_)
theorem Bg:PF 127 [hD 2,cw 3] (.tup [hD 3,nI 0]):=jl (bF Ed ki) nG oW (by kernel_rfl:fk (BU [(43,[cw 3],nI 0)] [] []) 60 true 127 [hD 2,cw 3]=_)
theorem Bh:PF 127 [hD 3,cw 4] (.tup [hD 4,nI 0]):=jl (bF Ee ki) nG oW (by kernel_rfl:fk (BU [(43,[cw 4],nI 0)] [] []) 60 true 127 [hD 3,cw 4]=_)
theorem Bi:PF 127 [hD 4,cw 5] (.tup [hD 5,nI 0]):=jl (bF Ef ki) nG oW (by kernel_rfl:fk (BU [(43,[cw 5],nI 0)] [] []) 60 true 127 [hD 4,cw 5]=_)
theorem Bj:PF 127 [hD 5,cw 6] (.tup [hD 6,nI 0]):=jl (bF Eg ki) nG oW (by kernel_rfl:fk (BU [(43,[cw 6],nI 0)] [] []) 60 true 127 [hD 5,cw 6]=_)
theorem Bk:PF 127 [hD 6,cw 7] (.tup [hD 7,nI 0]):=jl (bF Eh ki) nG oW (by kernel_rfl:fk (BU [(43,[cw 7],nI 0)] [] []) 60 true 127 [hD 6,cw 7]=_)
theorem Bl:PF 127 [hD 7,cw 8] (.tup [hD 8,nI 0]):=jl (bF Ei ki) nG oW (by kernel_rfl:fk (BU [(43,[cw 8],nI 0)] [] []) 60 true 127 [hD 7,cw 8]=_)
theorem II:PF 53 [hD 0,SB (eY 1)] (.tup [hD 1,kk (SB ([100,111,110,101,32]++[49]))]):=jl (bF A6 ki) (dC Be nG) oW (by kernel_rfl:fk (BU [(136,[SB (eY 1),nI 1],.tup [cw 1,.bool true])] [(127,[hD 0,cw 1],.tup [hD 1,nI 0])] []) 60 true 53 [hD 0,SB (eY 1)]=_)
theorem IJ:PF 53 [hD 1,SB (eY 2)] (.tup [hD 2,kk (SB ([100,111,110,101,32]++[50]))]):=jl (bF A7 ki) (dC Bf nG) oW (by kernel_rfl:fk (BU [(136,[SB (eY 2),nI 2],.tup [cw 2,.bool true])] [(127,[hD 1,cw 2],.tup [hD 2,nI 0])] []) 60 true 53 [hD 1,SB (eY 2)]=_)
theorem IK:PF 53 [hD 2,SB (eY 3)] (.tup [hD 3,kk (SB ([100,111,110,101,32]++[51]))]):=jl (bF A8 ki) (dC Bg nG) oW (by kernel_rfl:fk (BU [(136,[SB (eY 3),nI 3],.tup [cw 3,.bool true])] [(127,[hD 2,cw 3],.tup [hD 3,nI 0])] []) 60 true 53 [hD 2,SB (eY 3)]=_)
theorem IL:PF 53 [hD 3,SB (eY 4)] (.tup [hD 4,kk (SB ([100,111,110,101,32]++[52]))]):=jl (bF A9 ki) (dC Bh nG) oW (by kernel_rfl:fk (BU [(136,[SB (eY 4),nI 4],.tup [cw 4,.bool true])] [(127,[hD 3,cw 4],.tup [hD 4,nI 0])] []) 60 true 53 [hD 3,SB (eY 4)]=_)
theorem IM:PF 53 [hD 4,SB (eY 5)] (.tup [hD 5,kk (SB ([100,111,110,101,32]++[53]))]):=jl (bF Ba ki) (dC Bi nG) oW (by kernel_rfl:fk (BU [(136,[SB (eY 5),nI 5],.tup [cw 5,.bool true])] [(127,[hD 4,cw 5],.tup [hD 5,nI 0])] []) 60 true 53 [hD 4,SB (eY 5)]=_)
theorem IN:PF 53 [hD 5,SB (eY 6)] (.tup [hD 6,kk (SB ([100,111,110,101,32]++[54]))]):=jl (bF Bb ki) (dC Bj nG) oW (by kernel_rfl:fk (BU [(136,[SB (eY 6),nI 6],.tup [cw 6,.bool true])] [(127,[hD 5,cw 6],.tup [hD 6,nI 0])] []) 60 true 53 [hD 5,SB (eY 6)]=_)
theorem IO:PF 53 [hD 6,SB (eY 7)] (.tup [hD 7,kk (SB ([100,111,110,101,32]++[55]))]):=jl (bF Bc ki) (dC Bk nG) oW (by kernel_rfl:fk (BU [(136,[SB (eY 7),nI 7],.tup [cw 7,.bool true])] [(127,[hD 6,cw 7],.tup [hD 7,nI 0])] []) 60 true 53 [hD 6,SB (eY 7)]=_)
theorem IP:PF 53 [hD 7,SB (eY 8)] (.tup [hD 8,kk (SB ([100,111,110,101,32]++[56]))]):=jl (bF Bd ki) (dC Bl nG) oW (by kernel_rfl:fk (BU [(136,[SB (eY 8),nI 8],.tup [cw 8,.bool true])] [(127,[hD 7,cw 8],.tup [hD 8,nI 0])] []) 60 true 53 [hD 7,SB (eY 8)]=_)
def Lg:List kV:=[(127,[hD 0,cw 1],.tup [hD 1,nI 0]),(127,[hD 1,cw 2],.tup [hD 2,nI 0]),(127,[hD 2,cw 3],.tup [hD 3,nI 0]),(127,[hD 3,cw 4],.tup [hD 4,nI 0]),(127,[hD 4,cw 5],.tup [hD 5,nI 0]),(127,[hD 5,cw 6],.tup [hD 6,nI 0]),(127,[hD 6,cw 7],.tup [hD 7,nI 0]),(127,[hD 7,cw 8],.tup [hD 8,nI 0])]
theorem Fb:∀e∈Lg,PF e.1 e.2.1 e.2.2:=dC Be (dC Bf (dC Bg (dC Bh (dC Bi (dC Bj (dC Bk (dC Bl (nG))))))))
theorem Lu:bV 45 [AY] (.tup [uD,nI 0,nI 0]):=yK ki Fb oW (by kernel_rfl:fk (BU [] Lg []) 60 false 45 [AY]=_)
theorem Lv:bV 61 [IH] AY:=dW (by kernel_rfl)
end Go.Pd
end
