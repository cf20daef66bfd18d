import Derived.Test.YtjhoaknnmfifgaaGreatDoorUnDa
section
namespace Go.Pd
open Go Go.Proofs Go.RowKit
set_option maxRecDepth 100000
theorem DF:PF 127 [hD 0,c6 1] (.tup [hD 1,nI 0]):=kg (cb HC ly) pX rm (by kernel_rfl:gi (BU [(43,[c6 1],nI 0)] [] []) 60 true 127 [hD 0,c6 1]=_)
theorem DG:PF 127 [hD 1,c6 2] (.tup [hD 2,nI 0]):=kg (cb HD ly) pX rm (by kernel_rfl:gi (BU [(43,[c6 2],nI 0)] [] []) 60 true 127 [hD 1,c6 2]=_)
theorem DH:PF 127 [hD 2,c6 3] (.tup [hD 3,nI 0]):=kg (cb HE ly) pX rm (by kernel_rfl:gi (BU [(43,[c6 3],nI 0)] [] []) 60 true 127 [hD 2,c6 3]=_)
theorem DI:PF 127 [hD 3,c6 4] (.tup [hD 4,nI 0]):=kg (cb HF ly) pX rm (by kernel_rfl:gi (BU [(43,[c6 4],nI 0)] [] []) 60 true 127 [hD 3,c6 4]=_)
theorem DJ:PF 127 [hD 4,c6 5] (.tup [hD 5,nI 0]):=kg (cb HG ly) pX rm (by kernel_rfl:gi (BU [(43,[c6 5],nI 0)] [] []) 60 true 127 [hD 4,c6 5]=_)
theorem DK:PF 127 [hD 5,c6 6] (.tup [hD 6,nI 0]):=kg (cb HH ly) pX rm (by kernel_rfl:gi (BU [(43,[c6 6],nI 0)] [] []) 60 true 127 [hD 5,c6 6]=_)
theorem DL:PF 127 [hD 6,c6 7] (.tup [hD 7,nI 0]):=kg (cb HI ly) pX rm (by kernel_rfl:gi (BU [(43,[c6 7],nI 0)] [] []) 60 true 127 [hD 6,c6 7]=_)
theorem DM:PF 127 [hD 7,c6 8] (.tup [hD 8,nI 0]):=kg (cb HJ ly) pX rm (by kernel_rfl:gi (BU [(43,[c6 8],nI 0)] [] []) 60 true 127 [hD 7,c6 8]=_)
theorem ML:PF 53 [hD 0,SB (ga 1)] (.tup [hD 1,lA (SB ([100,111,110,101,32]++[49]))]):=kg (cb Dx ly) (ek DF pX) rm (by kernel_rfl:gi (BU [(136,[SB (ga 1),nI 1],.tup [c6 1,.bool true])] [(127,[hD 0,c6 1],.tup [hD 1,nI 0])] []) 60 true 53 [hD 0,SB (ga 1)]=_)
theorem MM:PF 53 [hD 1,SB (ga 2)] (.tup [hD 2,lA (SB ([100,111,110,101,32]++[50]))]):=kg (cb Dy ly) (ek DG pX) rm (by kernel_rfl:gi (BU [(136,[SB (ga 2),nI 2],.tup [c6 2,.bool true])] [(127,[hD 1,c6 2],.tup [hD 2,nI 0])] []) 60 true 53 [hD 1,SB (ga 2)]=_)
theorem MN:PF 53 [hD 2,SB (ga 3)] (.tup [hD 3,lA (SB ([100,111,110,101,32]++[51]))]):=kg (cb Dz ly) (ek DH pX) rm (by kernel_rfl:gi (BU [(136,[SB (ga 3),nI 3],.tup [c6 3,.bool true])] [(127,[hD 2,c6 3],.tup [hD 3,nI 0])] []) 60 true 53 [hD 2,SB (ga 3)]=_)
theorem MO:PF 53 [hD 3,SB (ga 4)] (.tup [hD 4,lA (SB ([100,111,110,101,32]++[52]))]):=kg (cb DA ly) (ek DI pX) rm (by kernel_rfl:gi (BU [(136,[SB (ga 4),nI 4],.tup [c6 4,.bool true])] [(127,[hD 3,c6 4],.tup [hD 4,nI 0])] []) 60 true 53 [hD 3,SB (ga 4)]=_)
theorem MP:PF 53 [hD 4,SB (ga 5)] (.tup [hD 5,lA (SB ([100,111,110,101,32]++[53]))]):=kg (cb DB ly) (ek DJ pX) rm (by kernel_rfl:gi (BU [(136,[SB (ga 5),nI 5],.tup [c6 5,.bool true])] [(127,[hD 4,c6 5],.tup [hD 5,nI 0])] []) 60 true 53 [hD 4,SB (ga 5)]=_)
theorem MQ:PF 53 [hD 5,SB (ga 6)] (.tup [hD 6,lA (SB ([100,111,110,101,32]++[54]))]):=kg (cb DC ly) (ek DK pX) rm (by kernel_rfl:gi (BU [(136,[SB (ga 6),nI 6],.tup [c6 6,.bool true])] [(127,[hD 5,c6 6],.tup [hD 6,nI 0])] []) 60 true 53 [hD 5,SB (ga 6)]=_)
theorem MR:PF 53 [hD 6,SB (ga 7)] (.tup [hD 7,lA (SB ([100,111,110,101,32]++[55]))]):=kg (cb DD ly) (ek DL pX) rm (by kernel_rfl:gi (BU [(136,[SB (ga 7),nI 7],.tup [c6 7,.bool true])] [(127,[hD 6,c6 7],.tup [hD 7,nI 0])] []) 60 true 53 [hD 6,SB (ga 7)]=_)
theorem MS:PF 53 [hD 7,SB (ga 8)] (.tup [hD 8,lA (SB ([100,111,110,101,32]++[56]))]):=kg (cb DE ly) (ek DM pX) rm (by kernel_rfl:gi (BU [(136,[SB (ga 8),nI 8],.tup [c6 8,.bool true])] [(127,[hD 7,c6 8],.tup [hD 8,nI 0])] []) 60 true 53 [hD 7,SB (ga 8)]=_)
def Qm:List mo:=[(127,[hD 0,c6 1],.tup [hD 1,nI 0]),(127,[hD 1,c6 2],.tup [hD 2,nI 0]),(127,[hD 2,c6 3],.tup [hD 3,nI 0]),(127,[hD 3,c6 4],.tup [hD 4,nI 0]),(127,[hD 4,c6 5],.tup [hD 5,nI 0]),(127,[hD 5,c6 6],.tup [hD 6,nI 0]),(127,[hD 6,c6 7],.tup [hD 7,nI 0]),(127,[hD 7,c6 8],.tup [hD 8,nI 0])]
theorem IO:∀e∈Qm,PF e.1 e.2.1 e.2.2:=ek DF (ek DG (ek DH (ek DI (ek DJ (ek DK (ek DL (ek DM (pX))))))))
theorem Qx:ct 45 [Dv] (.tup [uD,nI 0,nI 0]):=BQ ly IO rm (by kernel_rfl:gi (BU [] Qm []) 60 false 45 [Dv]=_)
theorem Qy:ct 61 [MK] Dv:=eO (by kernel_rfl)
end Go.Pd
end
