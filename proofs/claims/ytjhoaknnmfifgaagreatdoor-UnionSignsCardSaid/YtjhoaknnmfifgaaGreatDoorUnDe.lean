import Derived.Test.YtjhoaknnmfifgaaGreatDoorUnDa
section
namespace Go.Pd
open Go Go.Proofs Go.RowKit
set_option maxRecDepth 100000
theorem Gu:co 211 [nI (bE 0),SB (kj 1)] (nI (bE 1)):=eE (by kernel_rfl)
theorem Gv:co 212 [nI (bE 1)] (SB (kk 1)):=eE (by kernel_rfl)
def Gw:List lR:=[(211,[nI (bE 0),SB (kj 1)],nI (bE 1)),(212,[nI (bE 1)],SB (kk 1)),(136,[SB (fK 1),nI 1],.tup [cT 1,.bool true]),(43,[cT 1],nI 0)]
theorem sH:∀e∈Gw,co e.1 e.2.1 e.2.2:=bS Gu (bS Gv (bS B1 (bS Fo kU)))
theorem Gx:co 140 [cT 1,nI (bE 0)] (.tup [SB (kV 1++[10]),nI (bE 1)]):=fT sH (by kernel_rfl)
theorem Gy:co 269 [SB (kV 1),nI (bE 0)] (.tup [cT 1,nI (bE 1),nI 0]):=fT sH (by kernel_rfl)
theorem Gz:co 211 [nI (bE 1),SB (kj 2)] (nI (bE 2)):=eE (by kernel_rfl)
theorem GA:co 212 [nI (bE 2)] (SB (kk 2)):=eE (by kernel_rfl)
def GB:List lR:=[(211,[nI (bE 1),SB (kj 2)],nI (bE 2)),(212,[nI (bE 2)],SB (kk 2)),(136,[SB (fK 2),nI 2],.tup [cT 2,.bool true]),(43,[cT 2],nI 0)]
theorem sI:∀e∈GB,co e.1 e.2.1 e.2.2:=bS Gz (bS GA (bS B2 (bS Fp kU)))
theorem GC:co 140 [cT 2,nI (bE 1)] (.tup [SB (kV 2++[10]),nI (bE 2)]):=fT sI (by kernel_rfl)
theorem GD:co 269 [SB (kV 2),nI (bE 1)] (.tup [cT 2,nI (bE 2),nI 0]):=fT sI (by kernel_rfl)
theorem GE:co 211 [nI (bE 2),SB (kj 3)] (nI (bE 3)):=eE (by kernel_rfl)
theorem GF:co 212 [nI (bE 3)] (SB (kk 3)):=eE (by kernel_rfl)
def GG:List lR:=[(211,[nI (bE 2),SB (kj 3)],nI (bE 3)),(212,[nI (bE 3)],SB (kk 3)),(136,[SB (fK 3),nI 3],.tup [cT 3,.bool true]),(43,[cT 3],nI 0)]
theorem sJ:∀e∈GG,co e.1 e.2.1 e.2.2:=bS GE (bS GF (bS B3 (bS Fq kU)))
theorem GH:co 140 [cT 3,nI (bE 2)] (.tup [SB (kV 3++[10]),nI (bE 3)]):=fT sJ (by kernel_rfl)
theorem GI:co 269 [SB (kV 3),nI (bE 2)] (.tup [cT 3,nI (bE 3),nI 0]):=fT sJ (by kernel_rfl)
theorem GJ:co 211 [nI (bE 3),SB (kj 4)] (nI (bE 4)):=eE (by kernel_rfl)
theorem GK:co 212 [nI (bE 4)] (SB (kk 4)):=eE (by kernel_rfl)
def GL:List lR:=[(211,[nI (bE 3),SB (kj 4)],nI (bE 4)),(212,[nI (bE 4)],SB (kk 4)),(136,[SB (fK 4),nI 4],.tup [cT 4,.bool true]),(43,[cT 4],nI 0)]
theorem sK:∀e∈GL,co e.1 e.2.1 e.2.2:=bS GJ (bS GK (bS B4 (bS Fr kU)))
theorem GM:co 140 [cT 4,nI (bE 3)] (.tup [SB (kV 4++[10]),nI (bE 4)]):=fT sK (by kernel_rfl)
theorem GN:co 269 [SB (kV 4),nI (bE 3)] (.tup [cT 4,nI (bE 4),nI 0]):=fT sK (by kernel_rfl)
theorem GO:co 211 [nI (bE 4),SB (kj 5)] (nI (bE 5)):=eE (by kernel_rfl)
theorem GP:co 212 [nI (bE 5)] (SB (kk 5)):=eE (by kernel_rfl)
def GQ:List lR:=[(211,[nI (bE 4),SB (kj 5)],nI (bE 5)),(212,[nI (bE 5)],SB (kk 5)),(136,[SB (fK 5),nI 5],.tup [cT 5,.bool true]),(43,[cT 5],nI 0)]
theorem sL:∀e∈GQ,co e.1 e.2.1 e.2.2:=bS GO (bS GP (bS B5 (bS Fs kU)))
theorem GR:co 140 [cT 5,nI (bE 4)] (.tup [SB (kV 5++[10]),nI (bE 5)]):=fT sL (by kernel_rfl)
theorem GS:co 269 [SB (kV 5),nI (bE 4)] (.tup [cT 5,nI (bE 5),nI 0]):=fT sL (by kernel_rfl)
theorem GT:co 211 [nI (bE 5),SB (kj 6)] (nI (bE 6)):=eE (by kernel_rfl)
theorem GU:co 212 [nI (bE 6)] (SB (kk 6)):=eE (by kernel_rfl)
def GV:List lR:=[(211,[nI (bE 5),SB (kj 6)],nI (bE 6)),(212,[nI (bE 6)],SB (kk 6)),(136,[SB (fK 6),nI 6],.tup [cT 6,.bool true]),(43,[cT 6],nI 0)]
theorem sM:∀e∈GV,co e.1 e.2.1 e.2.2:=bS GT (bS GU (bS B6 (bS Ft kU)))
theorem GW:co 140 [cT 6,nI (bE 5)] (.tup [SB (kV 6++[10]),nI (bE 6)]):=fT sM (by kernel_rfl)
theorem GX:co 269 [SB (kV 6),nI (bE 5)] (.tup [cT 6,nI (bE 6),nI 0]):=fT sM (by kernel_rfl)
theorem GY:co 211 [nI (bE 6),SB (kj 7)] (nI (bE 7)):=eE (by kernel_rfl)
theorem GZ:co 212 [nI (bE 7)] (SB (kk 7)):=eE (by kernel_rfl)
def G0:List lR:=[(211,[nI (bE 6),SB (kj 7)],nI (bE 7)),(212,[nI (bE 7)],SB (kk 7)),(136,[SB (fK 7),nI 7],.tup [cT 7,.bool true]),(43,[cT 7],nI 0)]
theorem sN:∀e∈G0,co e.1 e.2.1 e.2.2:=bS GY (bS GZ (bS B7 (bS Fv kU)))
theorem G1:co 140 [cT 7,nI (bE 6)] (.tup [SB (kV 7++[10]),nI (bE 7)]):=fT sN (by kernel_rfl)
theorem G2:co 269 [SB (kV 7),nI (bE 6)] (.tup [cT 7,nI (bE 7),nI 0]):=fT sN (by kernel_rfl)
theorem G3:co 211 [nI (bE 7),SB (kj 8)] (nI (bE 8)):=eE (by kernel_rfl)
theorem G4:co 212 [nI (bE 8)] (SB (kk 8)):=eE (by kernel_rfl)
def G5:List lR:=[(211,[nI (bE 7),SB (kj 8)],nI (bE 8)),(212,[nI (bE 8)],SB (kk 8)),(136,[SB (fK 8),nI 8],.tup [cT 8,.bool true]),(43,[cT 8],nI 0)]
theorem sO:∀e∈G5,co e.1 e.2.1 e.2.2:=bS G3 (bS G4 (bS B8 (bS Fw kU)))
theorem G6:co 140 [cT 8,nI (bE 7)] (.tup [SB (kV 8++[10]),nI (bE 8)]):=fT sO (by kernel_rfl)
theorem G7:co 269 [SB (kV 8),nI (bE 7)] (.tup [cT 8,nI (bE 8),nI 0]):=fT sO (by kernel_rfl)
def NB:List lR:=[(140,[cT 1,nI (bE 0)],.tup [SB (kV 1++[10]),nI (bE 1)]),(140,[cT 2,nI (bE 1)],.tup [SB (kV 2++[10]),nI (bE 2)]),(140,[cT 3,nI (bE 2)],.tup [SB (kV 3++[10]),nI (bE 3)]),(140,[cT 4,nI (bE 3)],.tup [SB (kV 4++[10]),nI (bE 4)]),(140,[cT 5,nI (bE 4)],.tup [SB (kV 5++[10]),nI (bE 5)]),(140,[cT 6,nI (bE 5)],.tup [SB (kV 6++[10]),nI (bE 6)]),(140,[cT 7,nI (bE 6)],.tup [SB (kV 7++[10]),nI (bE 7)]),(140,[cT 8,nI (bE 7)],.tup [SB (kV 8++[10]),nI (bE 8)])]
theorem G8:∀e∈NB,co e.1 e.2.1 e.2.2:=bS Gx (bS GC (bS GH (bS GM (bS GR (bS GW (bS G1 (bS G6 (kU))))))))
theorem NR:PF 56 [hD 8] (.tup [hD 8,SB (D7 8)]):=jJ G8 pj qw (by kernel_rfl:fS (BU NB [] []) 60 true 56 [hD 8]=_)
def NC:List lR:=[(269,[SB (kV 1),nI (bE 0)],.tup [cT 1,nI (bE 1),nI 0]),(269,[SB (kV 2),nI (bE 1)],.tup [cT 2,nI (bE 2),nI 0]),(269,[SB (kV 3),nI (bE 2)],.tup [cT 3,nI (bE 3),nI 0]),(269,[SB (kV 4),nI (bE 3)],.tup [cT 4,nI (bE 4),nI 0]),(269,[SB (kV 5),nI (bE 4)],.tup [cT 5,nI (bE 5),nI 0]),(269,[SB (kV 6),nI (bE 5)],.tup [cT 6,nI (bE 6),nI 0]),(269,[SB (kV 7),nI (bE 6)],.tup [cT 7,nI (bE 7),nI 0]),(269,[SB (kV 8),nI (bE 7)],.tup [cT 8,nI (bE 8),nI 0])]
theorem G9:∀e∈NC,co e.1 e.2.1 e.2.2:=bS Gy (bS GD (bS GI (bS GN (bS GS (bS GX (bS G2 (bS G7 (kU))))))))
end Go.Pd
end
