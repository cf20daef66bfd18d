import Derived.Test.YtjhoaknnmfifgaaGreatDoorUnDa
section
namespace Go.Pd
open Go Go.Proofs Go.RowKit
set_option maxRecDepth 100000
theorem Iy:bR 211 [nI (bq 0),SB (jZ 1)] (nI (bq 1)):=dE (by kernel_rfl)
theorem Iz:bR 212 [nI (bq 1)] (SB (j0 1)):=dE (by kernel_rfl)
def IA:List lF:=[(211,[nI (bq 0),SB (jZ 1)],nI (bq 1)),(212,[nI (bq 1)],SB (j0 1)),(136,[SB (fb 1),nI 1],.tup [cF 1,.bool true]),(43,[cF 1],nI 0)]
theorem sF:∀e∈IA,bR e.1 e.2.1 e.2.2:=bK Iy (bK Iz (bK C5 (bK Hd kO)))
theorem IB:bR 140 [cF 1,nI (bq 0)] (.tup [SB (kP 1++[10]),nI (bq 1)]):=fp sF (by kernel_rfl)
theorem IC:bR 269 [SB (kP 1),nI (bq 0)] (.tup [cF 1,nI (bq 1),nI 0]):=fp sF (by kernel_rfl)
theorem ID:bR 211 [nI (bq 1),SB (jZ 2)] (nI (bq 2)):=dE (by kernel_rfl)
theorem IE:bR 212 [nI (bq 2)] (SB (j0 2)):=dE (by kernel_rfl)
def IF:List lF:=[(211,[nI (bq 1),SB (jZ 2)],nI (bq 2)),(212,[nI (bq 2)],SB (j0 2)),(136,[SB (fb 2),nI 2],.tup [cF 2,.bool true]),(43,[cF 2],nI 0)]
theorem sG:∀e∈IF,bR e.1 e.2.1 e.2.2:=bK ID (bK IE (bK C6 (bK He kO)))
theorem IG:bR 140 [cF 2,nI (bq 1)] (.tup [SB (kP 2++[10]),nI (bq 2)]):=fp sG (by kernel_rfl)
theorem IH:bR 269 [SB (kP 2),nI (bq 1)] (.tup [cF 2,nI (bq 2),nI 0]):=fp sG (by kernel_rfl)
theorem II:bR 211 [nI (bq 2),SB (jZ 3)] (nI (bq 3)):=dE (by kernel_rfl)
theorem IJ:bR 212 [nI (bq 3)] (SB (j0 3)):=dE (by kernel_rfl)
def IK:List lF:=[(211,[nI (bq 2),SB (jZ 3)],nI (bq 3)),(212,[nI (bq 3)],SB (j0 3)),(136,[SB (fb 3),nI 3],.tup [cF 3,.bool true]),(43,[cF 3],nI 0)]
theorem sH:∀e∈IK,bR e.1 e.2.1 e.2.2:=bK II (bK IJ (bK C7 (bK Hf kO)))
theorem IL:bR 140 [cF 3,nI (bq 2)] (.tup [SB (kP 3++[10]),nI (bq 3)]):=fp sH (by kernel_rfl)
theorem IM:bR 269 [SB (kP 3),nI (bq 2)] (.tup [cF 3,nI (bq 3),nI 0]):=fp sH (by kernel_rfl)
theorem IN:bR 211 [nI (bq 3),SB (jZ 4)] (nI (bq 4)):=dE (by kernel_rfl)
theorem IO:bR 212 [nI (bq 4)] (SB (j0 4)):=dE (by kernel_rfl)
def IP:List lF:=[(211,[nI (bq 3),SB (jZ 4)],nI (bq 4)),(212,[nI (bq 4)],SB (j0 4)),(136,[SB (fb 4),nI 4],.tup [cF 4,.bool true]),(43,[cF 4],nI 0)]
theorem sI:∀e∈IP,bR e.1 e.2.1 e.2.2:=bK IN (bK IO (bK C8 (bK Hg kO)))
theorem IQ:bR 140 [cF 4,nI (bq 3)] (.tup [SB (kP 4++[10]),nI (bq 4)]):=fp sI (by kernel_rfl)
theorem IR:bR 269 [SB (kP 4),nI (bq 3)] (.tup [cF 4,nI (bq 4),nI 0]):=fp sI (by kernel_rfl)
theorem IS:bR 211 [nI (bq 4),SB (jZ 5)] (nI (bq 5)):=dE (by kernel_rfl)
theorem IT:bR 212 [nI (bq 5)] (SB (j0 5)):=dE (by kernel_rfl)
def IU:List lF:=[(211,[nI (bq 4),SB (jZ 5)],nI (bq 5)),(212,[nI (bq 5)],SB (j0 5)),(136,[SB (fb 5),nI 5],.tup [cF 5,.bool true]),(43,[cF 5],nI 0)]
theorem sJ:∀e∈IU,bR e.1 e.2.1 e.2.2:=bK IS (bK IT (bK C9 (bK Hh kO)))
theorem IV:bR 140 [cF 5,nI (bq 4)] (.tup [SB (kP 5++[10]),nI (bq 5)]):=fp sJ (by kernel_rfl)
theorem IW:bR 269 [SB (kP 5),nI (bq 4)] (.tup [cF 5,nI (bq 5),nI 0]):=fp sJ (by kernel_rfl)
theorem IX:bR 211 [nI (bq 5),SB (jZ 6)] (nI (bq 6)):=dE (by kernel_rfl)
theorem IY:bR 212 [nI (bq 6)] (SB (j0 6)):=dE (by kernel_rfl)
def IZ:List lF:=[(211,[nI (bq 5),SB (jZ 6)],nI (bq 6)),(212,[nI (bq 6)],SB (j0 6)),(136,[SB (fb 6),nI 6],.tup [cF 6,.bool true]),(43,[cF 6],nI 0)]
theorem sK:∀e∈IZ,bR e.1 e.2.1 e.2.2:=bK IX (bK IY (bK Da (bK Hk kO)))
theorem I6:bR 140 [cF 6,nI (bq 5)] (.tup [SB (kP 6++[10]),nI (bq 6)]):=fp sK (by kernel_rfl)
theorem I7:bR 269 [SB (kP 6),nI (bq 5)] (.tup [cF 6,nI (bq 6),nI 0]):=fp sK (by kernel_rfl)
theorem I8:bR 211 [nI (bq 6),SB (jZ 7)] (nI (bq 7)):=dE (by kernel_rfl)
theorem Ja:bR 212 [nI (bq 7)] (SB (j0 7)):=dE (by kernel_rfl)
def Jb:List lF:=[(211,[nI (bq 6),SB (jZ 7)],nI (bq 7)),(212,[nI (bq 7)],SB (j0 7)),(136,[SB (fb 7),nI 7],.tup [cF 7,.bool true]),(43,[cF 7],nI 0)]
theorem sL:∀e∈Jb,bR e.1 e.2.1 e.2.2:=bK I8 (bK Ja (bK Db (bK Hl kO)))
theorem Jc:bR 140 [cF 7,nI (bq 6)] (.tup [SB (kP 7++[10]),nI (bq 7)]):=fp sL (by kernel_rfl)
theorem Jd:bR 269 [SB (kP 7),nI (bq 6)] (.tup [cF 7,nI (bq 7),nI 0]):=fp sL (by kernel_rfl)
theorem Je:bR 211 [nI (bq 7),SB (jZ 8)] (nI (bq 8)):=dE (by kernel_rfl)
theorem Jf:bR 212 [nI (bq 8)] (SB (j0 8)):=dE (by kernel_rfl)
def Jg:List lF:=[(211,[nI (bq 7),SB (jZ 8)],nI (bq 8)),(212,[nI (bq 8)],SB (j0 8)),(136,[SB (fb 8),nI 8],.tup [cF 8,.bool true]),(43,[cF 8],nI 0)]
theorem sM:∀e∈Jg,bR e.1 e.2.1 e.2.2:=bK Je (bK Jf (bK Dc (bK Hm kO)))
theorem Jh:bR 140 [cF 8,nI (bq 7)] (.tup [SB (kP 8++[10]),nI (bq 8)]):=fp sM (by kernel_rfl)
theorem Ji:bR 269 [SB (kP 8),nI (bq 7)] (.tup [cF 8,nI (bq 8),nI 0]):=fp sM (by kernel_rfl)
def P0:List lF:=[(140,[cF 1,nI (bq 0)],.tup [SB (kP 1++[10]),nI (bq 1)]),(140,[cF 2,nI (bq 1)],.tup [SB (kP 2++[10]),nI (bq 2)]),(140,[cF 3,nI (bq 2)],.tup [SB (kP 3++[10]),nI (bq 3)]),(140,[cF 4,nI (bq 3)],.tup [SB (kP 4++[10]),nI (bq 4)]),(140,[cF 5,nI (bq 4)],.tup [SB (kP 5++[10]),nI (bq 5)]),(140,[cF 6,nI (bq 5)],.tup [SB (kP 6++[10]),nI (bq 6)]),(140,[cF 7,nI (bq 6)],.tup [SB (kP 7++[10]),nI (bq 7)]),(140,[cF 8,nI (bq 7)],.tup [SB (kP 8++[10]),nI (bq 8)])]
theorem Jj:∀e∈P0,bR e.1 e.2.1 e.2.2:=bK IB (bK IG (bK IL (bK IQ (bK IV (bK I6 (bK Jc (bK Jh (kO))))))))
theorem Qr:PF 56 [hD 8] (.tup [hD 8,SB (Fv 8)]):=jx Jj oG qd (by kernel_rfl:fj (BU P0 [] []) 60 true 56 [hD 8]=_)
def P1:List lF:=[(269,[SB (kP 1),nI (bq 0)],.tup [cF 1,nI (bq 1),nI 0]),(269,[SB (kP 2),nI (bq 1)],.tup [cF 2,nI (bq 2),nI 0]),(269,[SB (kP 3),nI (bq 2)],.tup [cF 3,nI (bq 3),nI 0]),(269,[SB (kP 4),nI (bq 3)],.tup [cF 4,nI (bq 4),nI 0]),(269,[SB (kP 5),nI (bq 4)],.tup [cF 5,nI (bq 5),nI 0]),(269,[SB (kP 6),nI (bq 5)],.tup [cF 6,nI (bq 6),nI 0]),(269,[SB (kP 7),nI (bq 6)],.tup [cF 7,nI (bq 7),nI 0]),(269,[SB (kP 8),nI (bq 7)],.tup [cF 8,nI (bq 8),nI 0])]
theorem Jk:∀e∈P1,bR e.1 e.2.1 e.2.2:=bK IC (bK IH (bK IM (bK IR (bK IW (bK I7 (bK Jd (bK Ji (kO))))))))
end Go.Pd
end
