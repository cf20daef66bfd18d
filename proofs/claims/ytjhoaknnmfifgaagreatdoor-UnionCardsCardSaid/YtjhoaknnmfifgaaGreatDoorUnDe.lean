import Derived.Test.YtjhoaknnmfifgaaGreatDoorUnDa
section
namespace Go.Pd
open Go Go.Proofs Go.RowKit
set_option maxRecDepth 100000
theorem FW:ce 211 [nI (bE 0),SB (jZ 1)] (nI (bE 1)):=em (by kernel_rfl)
theorem FX:ce 212 [nI (bE 1)] (SB (j0 1)):=em (by kernel_rfl)
def FY:List lH:=[(211,[nI (bE 0),SB (jZ 1)],nI (bE 1)),(212,[nI (bE 1)],SB (j0 1)),(136,[SB (fB 1),nI 1],.tup [cO 1,.bool true]),(43,[cO 1],nI 0)]
theorem sd:∀e∈FY,ce e.1 e.2.1 e.2.2:=bQ FW (bQ FX (bQ BD (bQ ES kH)))
theorem FZ:ce 140 [cO 1,nI (bE 0)] (.tup [SB (kI 1++[10]),nI (bE 1)]):=fL sd (by kernel_rfl)
theorem F1:ce 269 [SB (kI 1),nI (bE 0)] (.tup [cO 1,nI (bE 1),nI 0]):=fL sd (by kernel_rfl)
theorem F2:ce 211 [nI (bE 1),SB (jZ 2)] (nI (bE 2)):=em (by kernel_rfl)
theorem F3:ce 212 [nI (bE 2)] (SB (j0 2)):=em (by kernel_rfl)
def F4:List lH:=[(211,[nI (bE 1),SB (jZ 2)],nI (bE 2)),(212,[nI (bE 2)],SB (j0 2)),(136,[SB (fB 2),nI 2],.tup [cO 2,.bool true]),(43,[cO 2],nI 0)]
theorem se:∀e∈F4,ce e.1 e.2.1 e.2.2:=bQ F2 (bQ F3 (bQ BE (bQ ET kH)))
theorem F5:ce 140 [cO 2,nI (bE 1)] (.tup [SB (kI 2++[10]),nI (bE 2)]):=fL se (by kernel_rfl)
theorem F6:ce 269 [SB (kI 2),nI (bE 1)] (.tup [cO 2,nI (bE 2),nI 0]):=fL se (by kernel_rfl)
theorem F7:ce 211 [nI (bE 2),SB (jZ 3)] (nI (bE 3)):=em (by kernel_rfl)
theorem F8:ce 212 [nI (bE 3)] (SB (j0 3)):=em (by kernel_rfl)
def F9:List lH:=[(211,[nI (bE 2),SB (jZ 3)],nI (bE 3)),(212,[nI (bE 3)],SB (j0 3)),(136,[SB (fB 3),nI 3],.tup [cO 3,.bool true]),(43,[cO 3],nI 0)]
theorem sh:∀e∈F9,ce e.1 e.2.1 e.2.2:=bQ F7 (bQ F8 (bQ BF (bQ EU kH)))
theorem Ga:ce 140 [cO 3,nI (bE 2)] (.tup [SB (kI 3++[10]),nI (bE 3)]):=fL sh (by kernel_rfl)
theorem Gb:ce 269 [SB (kI 3),nI (bE 2)] (.tup [cO 3,nI (bE 3),nI 0]):=fL sh (by kernel_rfl)
theorem Gc:ce 211 [nI (bE 3),SB (jZ 4)] (nI (bE 4)):=em (by kernel_rfl)
theorem Gd:ce 212 [nI (bE 4)] (SB (j0 4)):=em (by kernel_rfl)
def Ge:List lH:=[(211,[nI (bE 3),SB (jZ 4)],nI (bE 4)),(212,[nI (bE 4)],SB (j0 4)),(136,[SB (fB 4),nI 4],.tup [cO 4,.bool true]),(43,[cO 4],nI 0)]
theorem sk:∀e∈Ge,ce e.1 e.2.1 e.2.2:=bQ Gc (bQ Gd (bQ BG (bQ EV kH)))
theorem Gf:ce 140 [cO 4,nI (bE 3)] (.tup [SB (kI 4++[10]),nI (bE 4)]):=fL sk (by kernel_rfl)
theorem Gg:ce 269 [SB (kI 4),nI (bE 3)] (.tup [cO 4,nI (bE 4),nI 0]):=fL sk (by kernel_rfl)
theorem Gi:ce 211 [nI (bE 4),SB (jZ 5)] (nI (bE 5)):=em (by kernel_rfl)
theorem Gj:ce 212 [nI (bE 5)] (SB (j0 5)):=em (by kernel_rfl)
def Gk:List lH:=[(211,[nI (bE 4),SB (jZ 5)],nI (bE 5)),(212,[nI (bE 5)],SB (j0 5)),(136,[SB (fB 5),nI 5],.tup [cO 5,.bool true]),(43,[cO 5],nI 0)]
theorem sn:∀e∈Gk,ce e.1 e.2.1 e.2.2:=bQ Gi (bQ Gj (bQ BH (bQ EW kH)))
theorem Gm:ce 140 [cO 5,nI (bE 4)] (.tup [SB (kI 5++[10]),nI (bE 5)]):=fL sn (by kernel_rfl)
theorem Gn:ce 269 [SB (kI 5),nI (bE 4)] (.tup [cO 5,nI (bE 5),nI 0]):=fL sn (by kernel_rfl)
theorem Gp:ce 211 [nI (bE 5),SB (jZ 6)] (nI (bE 6)):=em (by kernel_rfl)
theorem Gq:ce 212 [nI (bE 6)] (SB (j0 6)):=em (by kernel_rfl)
def Gr:List lH:=[(211,[nI (bE 5),SB (jZ 6)],nI (bE 6)),(212,[nI (bE 6)],SB (j0 6)),(136,[SB (fB 6),nI 6],.tup [cO 6,.bool true]),(43,[cO 6],nI 0)]
theorem so:∀e∈Gr,ce e.1 e.2.1 e.2.2:=bQ Gp (bQ Gq (bQ BI (bQ EX kH)))
theorem Gs:ce 140 [cO 6,nI (bE 5)] (.tup [SB (kI 6++[10]),nI (bE 6)]):=fL so (by kernel_rfl)
theorem Gt:ce 269 [SB (kI 6),nI (bE 5)] (.tup [cO 6,nI (bE 6),nI 0]):=fL so (by kernel_rfl)
theorem Gu:ce 211 [nI (bE 6),SB (jZ 7)] (nI (bE 7)):=em (by kernel_rfl)
theorem Gv:ce 212 [nI (bE 7)] (SB (j0 7)):=em (by kernel_rfl)
def Gw:List lH:=[(211,[nI (bE 6),SB (jZ 7)],nI (bE 7)),(212,[nI (bE 7)],SB (j0 7)),(136,[SB (fB 7),nI 7],.tup [cO 7,.bool true]),(43,[cO 7],nI 0)]
theorem sr:∀e∈Gw,ce e.1 e.2.1 e.2.2:=bQ Gu (bQ Gv (bQ BJ (bQ EY kH)))
theorem Gx:ce 140 [cO 7,nI (bE 6)] (.tup [SB (kI 7++[10]),nI (bE 7)]):=fL sr (by kernel_rfl)
theorem Gy:ce 269 [SB (kI 7),nI (bE 6)] (.tup [cO 7,nI (bE 7),nI 0]):=fL sr (by kernel_rfl)
theorem Gz:ce 211 [nI (bE 7),SB (jZ 8)] (nI (bE 8)):=em (by kernel_rfl)
theorem GA:ce 212 [nI (bE 8)] (SB (j0 8)):=em (by kernel_rfl)
def GB:List lH:=[(211,[nI (bE 7),SB (jZ 8)],nI (bE 8)),(212,[nI (bE 8)],SB (j0 8)),(136,[SB (fB 8),nI 8],.tup [cO 8,.bool true]),(43,[cO 8],nI 0)]
theorem su:∀e∈GB,ce e.1 e.2.1 e.2.2:=bQ Gz (bQ GA (bQ BK (bQ EZ kH)))
theorem GC:ce 140 [cO 8,nI (bE 7)] (.tup [SB (kI 8++[10]),nI (bE 8)]):=fL su (by kernel_rfl)
theorem GD:ce 269 [SB (kI 8),nI (bE 7)] (.tup [cO 8,nI (bE 8),nI 0]):=fL su (by kernel_rfl)
def Nf:List lH:=[(140,[cO 1,nI (bE 0)],.tup [SB (kI 1++[10]),nI (bE 1)]),(140,[cO 2,nI (bE 1)],.tup [SB (kI 2++[10]),nI (bE 2)]),(140,[cO 3,nI (bE 2)],.tup [SB (kI 3++[10]),nI (bE 3)]),(140,[cO 4,nI (bE 3)],.tup [SB (kI 4++[10]),nI (bE 4)]),(140,[cO 5,nI (bE 4)],.tup [SB (kI 5++[10]),nI (bE 5)]),(140,[cO 6,nI (bE 5)],.tup [SB (kI 6++[10]),nI (bE 6)]),(140,[cO 7,nI (bE 6)],.tup [SB (kI 7++[10]),nI (bE 7)]),(140,[cO 8,nI (bE 7)],.tup [SB (kI 8++[10]),nI (bE 8)])]
theorem GE:∀e∈Nf,ce e.1 e.2.1 e.2.2:=bQ FZ (bQ F5 (bQ Ga (bQ Gf (bQ Gm (bQ Gs (bQ Gx (bQ GC (kH))))))))
theorem Nv:PF 56 [hD 8] (.tup [hD 8,SB (DE 8)]):=jy GE oP qg (by kernel_rfl:fK (BU Nf [] []) 60 true 56 [hD 8]=_)
def Ng:List lH:=[(269,[SB (kI 1),nI (bE 0)],.tup [cO 1,nI (bE 1),nI 0]),(269,[SB (kI 2),nI (bE 1)],.tup [cO 2,nI (bE 2),nI 0]),(269,[SB (kI 3),nI (bE 2)],.tup [cO 3,nI (bE 3),nI 0]),(269,[SB (kI 4),nI (bE 3)],.tup [cO 4,nI (bE 4),nI 0]),(269,[SB (kI 5),nI (bE 4)],.tup [cO 5,nI (bE 5),nI 0]),(269,[SB (kI 6),nI (bE 5)],.tup [cO 6,nI (bE 6),nI 0]),(269,[SB (kI 7),nI (bE 6)],.tup [cO 7,nI (bE 7),nI 0]),(269,[SB (kI 8),nI (bE 7)],.tup [cO 8,nI (bE 8),nI 0])]
theorem GF:∀e∈Ng,ce e.1 e.2.1 e.2.2:=bQ F1 (bQ F6 (bQ Gb (bQ Gg (bQ Gn (bQ Gt (bQ Gy (bQ GD (kH))))))))
end Go.Pd
end
