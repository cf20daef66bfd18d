import Derived.Test.YtjhoaknnmfifgaaGreatDoorUnDa
section
namespace Go.Pd
open Go Go.Proofs Go.RowKit
set_option maxRecDepth 100000
theorem De:PF 127 [hD 0,cF 1] (.tup [hD 1,nI 0]):=jx (bK Hd kO) oG qd (by kernel_rfl:fj (BU [(43,[cF 1],nI 0)] [] []) 60 true 127 [hD 0,cF 1]=_)
theorem Df:PF 127 [hD 1,cF 2] (.tup [hD 2,nI 0]):=jx (bK He kO) oG qd (by kernel_rfl:fj (BU [(43,[cF 2],nI 0)] [] []) 60 true 127 [hD 1,cF 2]=_)
theorem Dg:PF 127 [hD 2,cF 3] (.tup [hD 3,nI 0]):=jx (bK Hf kO) oG qd (by kernel_rfl:fj (BU [(43,[cF 3],nI 0)] [] []) 60 true 127 [hD 2,cF 3]=_)
theorem Dh:PF 127 [hD 3,cF 4] (.tup [hD 4,nI 0]):=jx (bK Hg kO) oG qd (by kernel_rfl:fj (BU [(43,[cF 4],nI 0)] [] []) 60 true 127 [hD 3,cF 4]=_)
theorem Di:PF 127 [hD 4,cF 5] (.tup [hD 5,nI 0]):=jx (bK Hh kO) oG qd (by kernel_rfl:fj (BU [(43,[cF 5],nI 0)] [] []) 60 true 127 [hD 4,cF 5]=_)
theorem Dj:PF 127 [hD 5,cF 6] (.tup [hD 6,nI 0]):=jx (bK Hk kO) oG qd (by kernel_rfl:fj (BU [(43,[cF 6],nI 0)] [] []) 60 true 127 [hD 5,cF 6]=_)
theorem Dk:PF 127 [hD 6,cF 7] (.tup [hD 7,nI 0]):=jx (bK Hl kO) oG qd (by kernel_rfl:fj (BU [(43,[cF 7],nI 0)] [] []) 60 true 127 [hD 6,cF 7]=_)
theorem Dl:PF 127 [hD 7,cF 8] (.tup [hD 8,nI 0]):=jx (bK Hm kO) oG qd (by kernel_rfl:fj (BU [(43,[cF 8],nI 0)] [] []) 60 true 127 [hD 7,cF 8]=_)
theorem Mo:PF 53 [hD 0,SB (fb 1)] (.tup [hD 1,kQ (SB ([100,111,110,101,32]++[49]))]):=jx (bK C5 kO) (dF De oG) qd (by kernel_rfl:fj (BU [(136,[SB (fb 1),nI 1],.tup [cF 1,.bool true])] [(127,[hD 0,cF 1],.tup [hD 1,nI 0])] []) 60 true 53 [hD 0,SB (fb 1)]=_)
theorem Mp:PF 53 [hD 1,SB (fb 2)] (.tup [hD 2,kQ (SB ([100,111,110,101,32]++[50]))]):=jx (bK C6 kO) (dF Df oG) qd (by kernel_rfl:fj (BU [(136,[SB (fb 2),nI 2],.tup [cF 2,.bool true])] [(127,[hD 1,cF 2],.tup [hD 2,nI 0])] []) 60 true 53 [hD 1,SB (fb 2)]=_)
theorem Mq:PF 53 [hD 2,SB (fb 3)] (.tup [hD 3,kQ (SB ([100,111,110,101,32]++[51]))]):=jx (bK C7 kO) (dF Dg oG) qd (by kernel_rfl:fj (BU [(136,[SB (fb 3),nI 3],.tup [cF 3,.bool true])] [(127,[hD 2,cF 3],.tup [hD 3,nI 0])] []) 60 true 53 [hD 2,SB (fb 3)]=_)
theorem Mr:PF 53 [hD 3,SB (fb 4)] (.tup [hD 4,kQ (SB ([100,111,110,101,32]++[52]))]):=jx (bK C8 kO) (dF Dh oG) qd (by kernel_rfl:fj (BU [(136,[SB (fb 4),nI 4],.tup [cF 4,.bool true])] [(127,[hD 3,cF 4],.tup [hD 4,nI 0])] []) 60 true 53 [hD 3,SB (fb 4)]=_)
theorem Ms:PF 53 [hD 4,SB (fb 5)] (.tup [hD 5,kQ (SB ([100,111,110,101,32]++[53]))]):=jx (bK C9 kO) (dF Di oG) qd (by kernel_rfl:fj (BU [(136,[SB (fb 5),nI 5],.tup [cF 5,.bool true])] [(127,[hD 4,cF 5],.tup [hD 5,nI 0])] []) 60 true 53 [hD 4,SB (fb 5)]=_)
theorem Mt:PF 53 [hD 5,SB (fb 6)] (.tup [hD 6,kQ (SB ([100,111,110,101,32]++[54]))]):=jx (bK Da kO) (dF Dj oG) qd (by kernel_rfl:fj (BU [(136,[SB (fb 6),nI 6],.tup [cF 6,.bool true])] [(127,[hD 5,cF 6],.tup [hD 6,nI 0])] []) 60 true 53 [hD 5,SB (fb 6)]=_)
theorem Mv:PF 53 [hD 6,SB (fb 7)] (.tup [hD 7,kQ (SB ([100,111,110,101,32]++[55]))]):=jx (bK Db kO) (dF Dk oG) qd (by kernel_rfl:fj (BU [(136,[SB (fb 7),nI 7],.tup [cF 7,.bool true])] [(127,[hD 6,cF 7],.tup [hD 7,nI 0])] []) 60 true 53 [hD 6,SB (fb 7)]=_)
theorem Mw:PF 53 [hD 7,SB (fb 8)] (.tup [hD 8,kQ (SB ([100,111,110,101,32]++[56]))]):=jx (bK Dc kO) (dF Dl oG) qd (by kernel_rfl:fj (BU [(136,[SB (fb 8),nI 8],.tup [cF 8,.bool true])] [(127,[hD 7,cF 8],.tup [hD 8,nI 0])] []) 60 true 53 [hD 7,SB (fb 8)]=_)
def PW:List lF:=[(127,[hD 0,cF 1],.tup [hD 1,nI 0]),(127,[hD 1,cF 2],.tup [hD 2,nI 0]),(127,[hD 2,cF 3],.tup [hD 3,nI 0]),(127,[hD 3,cF 4],.tup [hD 4,nI 0]),(127,[hD 4,cF 5],.tup [hD 5,nI 0]),(127,[hD 5,cF 6],.tup [hD 6,nI 0]),(127,[hD 6,cF 7],.tup [hD 7,nI 0]),(127,[hD 7,cF 8],.tup [hD 8,nI 0])]
theorem Ix:∀e∈PW,PF e.1 e.2.1 e.2.2:=dF De (dF Df (dF Dg (dF Dh (dF Di (dF Dj (dF Dk (dF Dl (oG))))))))
theorem Qf:bR 45 [C3] (.tup [uD,nI 0,nI 0]):=AV kO Ix qd (by kernel_rfl:fj (BU [] PW []) 60 false 45 [C3]=_)
theorem Qg:bR 61 [Mn] C3:=dE (by kernel_rfl)
end Go.Pd
end
