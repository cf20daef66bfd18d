import Derived.Test.YtjhoaknnmfifgaaGreatDoorUnDa
section
namespace Go.Pd
open Go Go.Proofs Go.RowKit
set_option maxRecDepth 100000
theorem BL:PF 127 [hD 0,cO 1] (.tup [hD 1,nI 0]):=jy (bQ ES kH) oP qg (by kernel_rfl:fK (BU [(43,[cO 1],nI 0)] [] []) 60 true 127 [hD 0,cO 1]=_)
theorem BM:PF 127 [hD 1,cO 2] (.tup [hD 2,nI 0]):=jy (bQ ET kH) oP qg (by kernel_rfl:fK (BU [(43,[cO 2],nI 0)] [] []) 60 true 127 [hD 1,cO 2]=_)
theorem BN:PF 127 [hD 2,cO 3] (.tup [hD 3,nI 0]):=jy (bQ EU kH) oP qg (by kernel_rfl:fK (BU [(43,[cO 3],nI 0)] [] []) 60 true 127 [hD 2,cO 3]=_)
theorem BO:PF 127 [hD 3,cO 4] (.tup [hD 4,nI 0]):=jy (bQ EV kH) oP qg (by kernel_rfl:fK (BU [(43,[cO 4],nI 0)] [] []) 60 true 127 [hD 3,cO 4]=_)
theorem BP:PF 127 [hD 4,cO 5] (.tup [hD 5,nI 0]):=jy (bQ EW kH) oP qg (by kernel_rfl:fK (BU [(43,[cO 5],nI 0)] [] []) 60 true 127 [hD 4,cO 5]=_)
theorem BQ:PF 127 [hD 5,cO 6] (.tup [hD 6,nI 0]):=jy (bQ EX kH) oP qg (by kernel_rfl:fK (BU [(43,[cO 6],nI 0)] [] []) 60 true 127 [hD 5,cO 6]=_)
theorem BR:PF 127 [hD 6,cO 7] (.tup [hD 7,nI 0]):=jy (bQ EY kH) oP qg (by kernel_rfl:fK (BU [(43,[cO 7],nI 0)] [] []) 60 true 127 [hD 6,cO 7]=_)
theorem BS:PF 127 [hD 7,cO 8] (.tup [hD 8,nI 0]):=jy (bQ EZ kH) oP qg (by kernel_rfl:fK (BU [(43,[cO 8],nI 0)] [] []) 60 true 127 [hD 7,cO 8]=_)
theorem JW:PF 53 [hD 0,SB (fB 1)] (.tup [hD 1,kJ (SB ([100,111,110,101,32]++[49]))]):=jy (bQ BD kH) (dU BL oP) qg (by kernel_rfl:fK (BU [(136,[SB (fB 1),nI 1],.tup [cO 1,.bool true])] [(127,[hD 0,cO 1],.tup [hD 1,nI 0])] []) 60 true 53 [hD 0,SB (fB 1)]=_)
theorem JX:PF 53 [hD 1,SB (fB 2)] (.tup [hD 2,kJ (SB ([100,111,110,101,32]++[50]))]):=jy (bQ BE kH) (dU BM oP) qg (by kernel_rfl:fK (BU [(136,[SB (fB 2),nI 2],.tup [cO 2,.bool true])] [(127,[hD 1,cO 2],.tup [hD 2,nI 0])] []) 60 true 53 [hD 1,SB (fB 2)]=_)
theorem JY:PF 53 [hD 2,SB (fB 3)] (.tup [hD 3,kJ (SB ([100,111,110,101,32]++[51]))]):=jy (bQ BF kH) (dU BN oP) qg (by kernel_rfl:fK (BU [(136,[SB (fB 3),nI 3],.tup [cO 3,.bool true])] [(127,[hD 2,cO 3],.tup [hD 3,nI 0])] []) 60 true 53 [hD 2,SB (fB 3)]=_)
theorem JZ:PF 53 [hD 3,SB (fB 4)] (.tup [hD 4,kJ (SB ([100,111,110,101,32]++[52]))]):=jy (bQ BG kH) (dU BO oP) qg (by kernel_rfl:fK (BU [(136,[SB (fB 4),nI 4],.tup [cO 4,.bool true])] [(127,[hD 3,cO 4],.tup [hD 4,nI 0])] []) 60 true 53 [hD 3,SB (fB 4)]=_)
theorem J0:PF 53 [hD 4,SB (fB 5)] (.tup [hD 5,kJ (SB ([100,111,110,101,32]++[53]))]):=jy (bQ BH kH) (dU BP oP) qg (by kernel_rfl:fK (BU [(136,[SB (fB 5),nI 5],.tup [cO 5,.bool true])] [(127,[hD 4,cO 5],.tup [hD 5,nI 0])] []) 60 true 53 [hD 4,SB (fB 5)]=_)
theorem J1:PF 53 [hD 5,SB (fB 6)] (.tup [hD 6,kJ (SB ([100,111,110,101,32]++[54]))]):=jy (bQ BI kH) (dU BQ oP) qg (by kernel_rfl:fK (BU [(136,[SB (fB 6),nI 6],.tup [cO 6,.bool true])] [(127,[hD 5,cO 6],.tup [hD 6,nI 0])] []) 60 true 53 [hD 5,SB (fB 6)]=_)
theorem J2:PF 53 [hD 6,SB (fB 7)] (.tup [hD 7,kJ (SB ([100,111,110,101,32]++[55]))]):=jy (bQ BJ kH) (dU BR oP) qg (by kernel_rfl:fK (BU [(136,[SB (fB 7),nI 7],.tup [cO 7,.bool true])] [(127,[hD 6,cO 7],.tup [hD 7,nI 0])] []) 60 true 53 [hD 6,SB (fB 7)]=_)
theorem J3:PF 53 [hD 7,SB (fB 8)] (.tup [hD 8,kJ (SB ([100,111,110,101,32]++[56]))]):=jy (bQ BK kH) (dU BS oP) qg (by kernel_rfl:fK (BU [(136,[SB (fB 8),nI 8],.tup [cO 8,.bool true])] [(127,[hD 7,cO 8],.tup [hD 8,nI 0])] []) 60 true 53 [hD 7,SB (fB 8)]=_)
def Nb:List lH:=[(127,[hD 0,cO 1],.tup [hD 1,nI 0]),(127,[hD 1,cO 2],.tup [hD 2,nI 0]),(127,[hD 2,cO 3],.tup [hD 3,nI 0]),(127,[hD 3,cO 4],.tup [hD 4,nI 0]),(127,[hD 4,cO 5],.tup [hD 5,nI 0]),(127,[hD 5,cO 6],.tup [hD 6,nI 0]),(127,[hD 6,cO 7],.tup [hD 7,nI 0]),(127,[hD 7,cO 8],.tup [hD 8,nI 0])]
theorem FV:∀e∈Nb,PF e.1 e.2.1 e.2.2:=dU BL (dU BM (dU BN (dU BO (dU BP (dU BQ (dU BR (dU BS (oP))))))))
theorem Nn:ce 45 [BB] (.tup [uD,nI 0,nI 0]):=zD kH FV qg (by kernel_rfl:fK (BU [] Nb []) 60 false 45 [BB]=_)
theorem No:ce 61 [JV] BB:=em (by kernel_rfl)
end Go.Pd
end
