import Derived.Test.YtjhoaknnmfifgaaGreatDoorUnDa
section
namespace Go.Pd
open Go Go.Proofs Go.RowKit
set_option maxRecDepth 100000
theorem AV:PF 127 [hD 0,cI 1] (.tup [hD 1,nI 0]):=ju (bQ DE kn) nB pb (by kernel_rfl:fF (BU [(43,[cI 1],nI 0)] [] []) 60 true 127 [hD 0,cI 1]=_)
theorem AW:PF 127 [hD 1,cI 2] (.tup [hD 2,nI 0]):=ju (bQ DF kn) nB pb (by kernel_rfl:fF (BU [(43,[cI 2],nI 0)] [] []) 60 true 127 [hD 1,cI 2]=_)
theorem AX:PF 127 [hD 2,cI 3] (.tup [hD 3,nI 0]):=ju (bQ DG kn) nB pb (by kernel_rfl:fF (BU [(43,[cI 3],nI 0)] [] []) 60 true 127 [hD 2,cI 3]=_)
theorem AY:PF 127 [hD 3,cI 4] (.tup [hD 4,nI 0]):=ju (bQ DH kn) nB pb (by kernel_rfl:fF (BU [(43,[cI 4],nI 0)] [] []) 60 true 127 [hD 3,cI 4]=_)
theorem AZ:PF 127 [hD 4,cI 5] (.tup [hD 5,nI 0]):=ju (bQ DI kn) nB pb (by kernel_rfl:fF (BU [(43,[cI 5],nI 0)] [] []) 60 true 127 [hD 4,cI 5]=_)
theorem A6:PF 127 [hD 5,cI 6] (.tup [hD 6,nI 0]):=ju (bQ DJ kn) nB pb (by kernel_rfl:fF (BU [(43,[cI 6],nI 0)] [] []) 60 true 127 [hD 5,cI 6]=_)
theorem A7:PF 127 [hD 6,cI 7] (.tup [hD 7,nI 0]):=ju (bQ DK kn) nB pb (by kernel_rfl:fF (BU [(43,[cI 7],nI 0)] [] []) 60 true 127 [hD 6,cI 7]=_)
theorem A8:PF 127 [hD 7,cI 8] (.tup [hD 8,nI 0]):=ju (bQ DL kn) nB pb (by kernel_rfl:fF (BU [(43,[cI 8],nI 0)] [] []) 60 true 127 [hD 7,cI 8]=_)
theorem HT:PF 53 [hD 0,SB (ft 1)] (.tup [hD 1,kp (SB ([100,111,110,101,32]++[49]))]):=ju (bQ AM kn) (dQ AV nB) pb (by kernel_rfl:fF (BU [(136,[SB (ft 1),nI 1],.tup [cI 1,.bool true])] [(127,[hD 0,cI 1],.tup [hD 1,nI 0])] []) 60 true 53 [hD 0,SB (ft 1)]=_)
theorem HU:PF 53 [hD 1,SB (ft 2)] (.tup [hD 2,kp (SB ([100,111,110,101,32]++[50]))]):=ju (bQ AN kn) (dQ AW nB) pb (by kernel_rfl:fF (BU [(136,[SB (ft 2),nI 2],.tup [cI 2,.bool true])] [(127,[hD 1,cI 2],.tup [hD 2,nI 0])] []) 60 true 53 [hD 1,SB (ft 2)]=_)
theorem HV:PF 53 [hD 2,SB (ft 3)] (.tup [hD 3,kp (SB ([100,111,110,101,32]++[51]))]):=ju (bQ AO kn) (dQ AX nB) pb (by kernel_rfl:fF (BU [(136,[SB (ft 3),nI 3],.tup [cI 3,.bool true])] [(127,[hD 2,cI 3],.tup [hD 3,nI 0])] []) 60 true 53 [hD 2,SB (ft 3)]=_)
theorem HW:PF 53 [hD 3,SB (ft 4)] (.tup [hD 4,kp (SB ([100,111,110,101,32]++[52]))]):=ju (bQ AQ kn) (dQ AY nB) pb (by kernel_rfl:fF (BU [(136,[SB (ft 4),nI 4],.tup [cI 4,.bool true])] [(127,[hD 3,cI 4],.tup [hD 4,nI 0])] []) 60 true 53 [hD 3,SB (ft 4)]=_)
theorem HX:PF 53 [hD 4,SB (ft 5)] (.tup [hD 5,kp (SB ([100,111,110,101,32]++[53]))]):=ju (bQ AR kn) (dQ AZ nB) pb (by kernel_rfl:fF (BU [(136,[SB (ft 5),nI 5],.tup [cI 5,.bool true])] [(127,[hD 4,cI 5],.tup [hD 5,nI 0])] []) 60 true 53 [hD 4,SB (ft 5)]=_)
theorem HY:PF 53 [hD 5,SB (ft 6)] (.tup [hD 6,kp (SB ([100,111,110,101,32]++[54]))]):=ju (bQ AS kn) (dQ A6 nB) pb (by kernel_rfl:fF (BU [(136,[SB (ft 6),nI 6],.tup [cI 6,.bool true])] [(127,[hD 5,cI 6],.tup [hD 6,nI 0])] []) 60 true 53 [hD 5,SB (ft 6)]=_)
theorem HZ:PF 53 [hD 6,SB (ft 7)] (.tup [hD 7,kp (SB ([100,111,110,101,32]++[55]))]):=ju (bQ AT kn) (dQ A7 nB) pb (by kernel_rfl:fF (BU [(136,[SB (ft 7),nI 7],.tup [cI 7,.bool true])] [(127,[hD 6,cI 7],.tup [hD 7,nI 0])] []) 60 true 53 [hD 6,SB (ft 7)]=_)
theorem H0:PF 53 [hD 7,SB (ft 8)] (.tup [hD 8,kp (SB ([100,111,110,101,32]++[56]))]):=ju (bQ AU kn) (dQ A8 nB) pb (by kernel_rfl:fF (BU [(136,[SB (ft 8),nI 8],.tup [cI 8,.bool true])] [(127,[hD 7,cI 8],.tup [hD 8,nI 0])] []) 60 true 53 [hD 7,SB (ft 8)]=_)
def KF:List kW:=[(127,[hD 0,cI 1],.tup [hD 1,nI 0]),(127,[hD 1,cI 2],.tup [hD 2,nI 0]),(127,[hD 2,cI 3],.tup [hD 3,nI 0]),(127,[hD 3,cI 4],.tup [hD 4,nI 0]),(127,[hD 4,cI 5],.tup [hD 5,nI 0]),(127,[hD 5,cI 6],.tup [hD 6,nI 0]),(127,[hD 6,cI 7],.tup [hD 7,nI 0]),(127,[hD 7,cI 8],.tup [hD 8,nI 0])]
theorem Ex:∀e∈KF,PF e.1 e.2.1 e.2.2:=dQ AV (dQ AW (dQ AX (dQ AY (dQ AZ (dQ A6 (dQ A7 (dQ A8 (nB))))))))
theorem KU:ci 45 [AK] (.tup [uD,nI 0,nI 0]):=yK kn Ex pb (by kernel_rfl:fF (BU [] KF []) 60 false 45 [AK]=_)
theorem KV:ci 61 [HS] AK:=ec (by kernel_rfl)
end Go.Pd
end
