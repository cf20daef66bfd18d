import Derived.Test.YtjhoaknnmfifgaaGreatDoorUnDa
section
namespace Go.Pd
open Go Go.Proofs Go.RowKit
set_option maxRecDepth 100000
theorem B9:PF 127 [hD 0,cT 1] (.tup [hD 1,nI 0]):=jJ (bS Fo kU) pj qw (by kernel_rfl:fS (BU [(43,[cT 1],nI 0)] [] []) 60 true 127 [hD 0,cT 1]=_)
theorem Ca:PF 127 [hD 1,cT 2] (.tup [hD 2,nI 0]):=jJ (bS Fp kU) pj qw (by kernel_rfl:fS (BU [(43,[cT 2],nI 0)] [] []) 60 true 127 [hD 1,cT 2]=_)
theorem Cb:PF 127 [hD 2,cT 3] (.tup [hD 3,nI 0]):=jJ (bS Fq kU) pj qw (by kernel_rfl:fS (BU [(43,[cT 3],nI 0)] [] []) 60 true 127 [hD 2,cT 3]=_)
theorem Cc:PF 127 [hD 3,cT 4] (.tup [hD 4,nI 0]):=jJ (bS Fr kU) pj qw (by kernel_rfl:fS (BU [(43,[cT 4],nI 0)] [] []) 60 true 127 [hD 3,cT 4]=_)
theorem Cd:PF 127 [hD 4,cT 5] (.tup [hD 5,nI 0]):=jJ (bS Fs kU) pj qw (by kernel_rfl:fS (BU [(43,[cT 5],nI 0)] [] []) 60 true 127 [hD 4,cT 5]=_)
theorem Ce:PF 127 [hD 5,cT 6] (.tup [hD 6,nI 0]):=jJ (bS Ft kU) pj qw (by kernel_rfl:fS (BU [(43,[cT 6],nI 0)] [] []) 60 true 127 [hD 5,cT 6]=_)
theorem Cf:PF 127 [hD 6,cT 7] (.tup [hD 7,nI 0]):=jJ (bS Fv kU) pj qw (by kernel_rfl:fS (BU [(43,[cT 7],nI 0)] [] []) 60 true 127 [hD 6,cT 7]=_)
theorem Cg:PF 127 [hD 7,cT 8] (.tup [hD 8,nI 0]):=jJ (bS Fw kU) pj qw (by kernel_rfl:fS (BU [(43,[cT 8],nI 0)] [] []) 60 true 127 [hD 7,cT 8]=_)
theorem Kv:PF 53 [hD 0,SB (fK 1)] (.tup [hD 1,kW (SB ([100,111,110,101,32]++[49]))]):=jJ (bS B1 kU) (d4 B9 pj) qw (by kernel_rfl:fS (BU [(136,[SB (fK 1),nI 1],.tup [cT 1,.bool true])] [(127,[hD 0,cT 1],.tup [hD 1,nI 0])] []) 60 true 53 [hD 0,SB (fK 1)]=_)
theorem Kw:PF 53 [hD 1,SB (fK 2)] (.tup [hD 2,kW (SB ([100,111,110,101,32]++[50]))]):=jJ (bS B2 kU) (d4 Ca pj) qw (by kernel_rfl:fS (BU [(136,[SB (fK 2),nI 2],.tup [cT 2,.bool true])] [(127,[hD 1,cT 2],.tup [hD 2,nI 0])] []) 60 true 53 [hD 1,SB (fK 2)]=_)
theorem Kx:PF 53 [hD 2,SB (fK 3)] (.tup [hD 3,kW (SB ([100,111,110,101,32]++[51]))]):=jJ (bS B3 kU) (d4 Cb pj) qw (by kernel_rfl:fS (BU [(136,[SB (fK 3),nI 3],.tup [cT 3,.bool true])] [(127,[hD 2,cT 3],.tup [hD 3,nI 0])] []) 60 true 53 [hD 2,SB (fK 3)]=_)
theorem Ky:PF 53 [hD 3,SB (fK 4)] (.tup [hD 4,kW (SB ([100,111,110,101,32]++[52]))]):=jJ (bS B4 kU) (d4 Cc pj) qw (by kernel_rfl:fS (BU [(136,[SB (fK 4),nI 4],.tup [cT 4,.bool true])] [(127,[hD 3,cT 4],.tup [hD 4,nI 0])] []) 60 true 53 [hD 3,SB (fK 4)]=_)
theorem Kz:PF 53 [hD 4,SB (fK 5)] (.tup [hD 5,kW (SB ([100,111,110,101,32]++[53]))]):=jJ (bS B5 kU) (d4 Cd pj) qw (by kernel_rfl:fS (BU [(136,[SB (fK 5),nI 5],.tup [cT 5,.bool true])] [(127,[hD 4,cT 5],.tup [hD 5,nI 0])] []) 60 true 53 [hD 4,SB (fK 5)]=_)
theorem KA:PF 53 [hD 5,SB (fK 6)] (.tup [hD 6,kW (SB ([100,111,110,101,32]++[54]))]):=jJ (bS B6 kU) (d4 Ce pj) qw (by kernel_rfl:fS (BU [(136,[SB (fK 6),nI 6],.tup [cT 6,.bool true])] [(127,[hD 5,cT 6],.tup [hD 6,nI 0])] []) 60 true 53 [hD 5,SB (fK 6)]=_)
theorem KB:PF 53 [hD 6,SB (fK 7)] (.tup [hD 7,kW (SB ([100,111,110,101,32]++[55]))]):=jJ (bS B7 kU) (d4 Cf pj) qw (by kernel_rfl:fS (BU [(136,[SB (fK 7),nI 7],.tup [cT 7,.bool true])] [(127,[hD 6,cT 7],.tup [hD 7,nI 0])] []) 60 true 53 [hD 6,SB (fK 7)]=_)
theorem KC:PF 53 [hD 7,SB (fK 8)] (.tup [hD 8,kW (SB ([100,111,110,101,32]++[56]))]):=jJ (bS B8 kU) (d4 Cg pj) qw (by kernel_rfl:fS (BU [(136,[SB (fK 8),nI 8],.tup [cT 8,.bool true])] [(127,[hD 7,cT 8],.tup [hD 8,nI 0])] []) 60 true 53 [hD 7,SB (fK 8)]=_)
def Ny:List lR:=[(127,[hD 0,cT 1],.tup [hD 1,nI 0]),(127,[hD 1,cT 2],.tup [hD 2,nI 0]),(127,[hD 2,cT 3],.tup [hD 3,nI 0]),(127,[hD 3,cT 4],.tup [hD 4,nI 0]),(127,[hD 4,cT 5],.tup [hD 5,nI 0]),(127,[hD 5,cT 6],.tup [hD 6,nI 0]),(127,[hD 6,cT 7],.tup [hD 7,nI 0]),(127,[hD 7,cT 8],.tup [hD 8,nI 0])]
theorem Gt:∀e∈Ny,PF e.1 e.2.1 e.2.2:=d4 B9 (d4 Ca (d4 Cb (d4 Cc (d4 Cd (d4 Ce (d4 Cf (d4 Cg (pj))))))))
theorem NJ:co 45 [BZ] (.tup [uD,nI 0,nI 0]):=Aa kU Gt qw (by kernel_rfl:fS (BU [] Ny []) 60 false 45 [BZ]=_)
theorem NK:co 61 [Ku] BZ:=eE (by kernel_rfl)
end Go.Pd
end
