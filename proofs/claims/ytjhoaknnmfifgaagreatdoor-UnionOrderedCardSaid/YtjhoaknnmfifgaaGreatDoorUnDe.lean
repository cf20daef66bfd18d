import Derived.Test.YtjhoaknnmfifgaaGreatDoorUnDa
section
namespace Go.Pd
open Go Go.Proofs Go.RowKit
set_option maxRecDepth 100000
theorem IP:ct 211 [nI (bJ 0),SB (kL 1)] (nI (bJ 1)):=eO (by kernel_rfl)
theorem IQ:ct 212 [nI (bJ 1)] (SB (kM 1)):=eO (by kernel_rfl)
def IR:List mo:=[(211,[nI (bJ 0),SB (kL 1)],nI (bJ 1)),(212,[nI (bJ 1)],SB (kM 1)),(136,[SB (ga 1),nI 1],.tup [c6 1,.bool true]),(43,[c6 1],nI 0)]
theorem tN:∀e∈IR,ct e.1 e.2.1 e.2.2:=cb IP (cb IQ (cb Dx (cb HC ly)))
theorem IS:ct 140 [c6 1,nI (bJ 0)] (.tup [SB (lz 1++[10]),nI (bJ 1)]):=gj tN (by kernel_rfl)
theorem IT:ct 269 [SB (lz 1),nI (bJ 0)] (.tup [c6 1,nI (bJ 1),nI 0]):=gj tN (by kernel_rfl)
theorem IU:ct 211 [nI (bJ 1),SB (kL 2)] (nI (bJ 2)):=eO (by kernel_rfl)
theorem IV:ct 212 [nI (bJ 2)] (SB (kM 2)):=eO (by kernel_rfl)
def IW:List mo:=[(211,[nI (bJ 1),SB (kL 2)],nI (bJ 2)),(212,[nI (bJ 2)],SB (kM 2)),(136,[SB (ga 2),nI 2],.tup [c6 2,.bool true]),(43,[c6 2],nI 0)]
theorem tO:∀e∈IW,ct e.1 e.2.1 e.2.2:=cb IU (cb IV (cb Dy (cb HD ly)))
theorem IX:ct 140 [c6 2,nI (bJ 1)] (.tup [SB (lz 2++[10]),nI (bJ 2)]):=gj tO (by kernel_rfl)
theorem IY:ct 269 [SB (lz 2),nI (bJ 1)] (.tup [c6 2,nI (bJ 2),nI 0]):=gj tO (by kernel_rfl)
theorem IZ:ct 211 [nI (bJ 2),SB (kL 3)] (nI (bJ 3)):=eO (by kernel_rfl)
theorem I6:ct 212 [nI (bJ 3)] (SB (kM 3)):=eO (by kernel_rfl)
def I7:List mo:=[(211,[nI (bJ 2),SB (kL 3)],nI (bJ 3)),(212,[nI (bJ 3)],SB (kM 3)),(136,[SB (ga 3),nI 3],.tup [c6 3,.bool true]),(43,[c6 3],nI 0)]
theorem tP:∀e∈I7,ct e.1 e.2.1 e.2.2:=cb IZ (cb I6 (cb Dz (cb HE ly)))
theorem I8:ct 140 [c6 3,nI (bJ 2)] (.tup [SB (lz 3++[10]),nI (bJ 3)]):=gj tP (by kernel_rfl)
theorem Ja:ct 269 [SB (lz 3),nI (bJ 2)] (.tup [c6 3,nI (bJ 3),nI 0]):=gj tP (by kernel_rfl)
theorem Jb:ct 211 [nI (bJ 3),SB (kL 4)] (nI (bJ 4)):=eO (by kernel_rfl)
theorem Jc:ct 212 [nI (bJ 4)] (SB (kM 4)):=eO (by kernel_rfl)
def Jd:List mo:=[(211,[nI (bJ 3),SB (kL 4)],nI (bJ 4)),(212,[nI (bJ 4)],SB (kM 4)),(136,[SB (ga 4),nI 4],.tup [c6 4,.bool true]),(43,[c6 4],nI 0)]
theorem tQ:∀e∈Jd,ct e.1 e.2.1 e.2.2:=cb Jb (cb Jc (cb DA (cb HF ly)))
theorem Je:ct 140 [c6 4,nI (bJ 3)] (.tup [SB (lz 4++[10]),nI (bJ 4)]):=gj tQ (by kernel_rfl)
theorem Jf:ct 269 [SB (lz 4),nI (bJ 3)] (.tup [c6 4,nI (bJ 4),nI 0]):=gj tQ (by kernel_rfl)
theorem Jg:ct 211 [nI (bJ 4),SB (kL 5)] (nI (bJ 5)):=eO (by kernel_rfl)
theorem Jh:ct 212 [nI (bJ 5)] (SB (kM 5)):=eO (by kernel_rfl)
def Ji:List mo:=[(211,[nI (bJ 4),SB (kL 5)],nI (bJ 5)),(212,[nI (bJ 5)],SB (kM 5)),(136,[SB (ga 5),nI 5],.tup [c6 5,.bool true]),(43,[c6 5],nI 0)]
theorem tR:∀e∈Ji,ct e.1 e.2.1 e.2.2:=cb Jg (cb Jh (cb DB (cb HG ly)))
theorem Jj:ct 140 [c6 5,nI (bJ 4)] (.tup [SB (lz 5++[10]),nI (bJ 5)]):=gj tR (by kernel_rfl)
theorem Jk:ct 269 [SB (lz 5),nI (bJ 4)] (.tup [c6 5,nI (bJ 5),nI 0]):=gj tR (by kernel_rfl)
theorem Jl:ct 211 [nI (bJ 5),SB (kL 6)] (nI (bJ 6)):=eO (by kernel_rfl)
theorem Jm:ct 212 [nI (bJ 6)] (SB (kM 6)):=eO (by kernel_rfl)
def Jn:List mo:=[(211,[nI (bJ 5),SB (kL 6)],nI (bJ 6)),(212,[nI (bJ 6)],SB (kM 6)),(136,[SB (ga 6),nI 6],.tup [c6 6,.bool true]),(43,[c6 6],nI 0)]
theorem tS:∀e∈Jn,ct e.1 e.2.1 e.2.2:=cb Jl (cb Jm (cb DC (cb HH ly)))
theorem Jo:ct 140 [c6 6,nI (bJ 5)] (.tup [SB (lz 6++[10]),nI (bJ 6)]):=gj tS (by kernel_rfl)
theorem Jp:ct 269 [SB (lz 6),nI (bJ 5)] (.tup [c6 6,nI (bJ 6),nI 0]):=gj tS (by kernel_rfl)
theorem Jq:ct 211 [nI (bJ 6),SB (kL 7)] (nI (bJ 7)):=eO (by kernel_rfl)
theorem Jr:ct 212 [nI (bJ 7)] (SB (kM 7)):=eO (by kernel_rfl)
def Js:List mo:=[(211,[nI (bJ 6),SB (kL 7)],nI (bJ 7)),(212,[nI (bJ 7)],SB (kM 7)),(136,[SB (ga 7),nI 7],.tup [c6 7,.bool true]),(43,[c6 7],nI 0)]
theorem tT:∀e∈Js,ct e.1 e.2.1 e.2.2:=cb Jq (cb Jr (cb DD (cb HI ly)))
theorem Jt:ct 140 [c6 7,nI (bJ 6)] (.tup [SB (lz 7++[10]),nI (bJ 7)]):=gj tT (by kernel_rfl)
theorem Ju:ct 269 [SB (lz 7),nI (bJ 6)] (.tup [c6 7,nI (bJ 7),nI 0]):=gj tT (by kernel_rfl)
theorem Jv:ct 211 [nI (bJ 7),SB (kL 8)] (nI (bJ 8)):=eO (by kernel_rfl)
theorem Jw:ct 212 [nI (bJ 8)] (SB (kM 8)):=eO (by kernel_rfl)
def Jy:List mo:=[(211,[nI (bJ 7),SB (kL 8)],nI (bJ 8)),(212,[nI (bJ 8)],SB (kM 8)),(136,[SB (ga 8),nI 8],.tup [c6 8,.bool true]),(43,[c6 8],nI 0)]
theorem tU:∀e∈Jy,ct e.1 e.2.1 e.2.2:=cb Jv (cb Jw (cb DE (cb HJ ly)))
theorem Jz:ct 140 [c6 8,nI (bJ 7)] (.tup [SB (lz 8++[10]),nI (bJ 8)]):=gj tU (by kernel_rfl)
theorem JA:ct 269 [SB (lz 8),nI (bJ 7)] (.tup [c6 8,nI (bJ 8),nI 0]):=gj tU (by kernel_rfl)
def Qo:List mo:=[(140,[c6 1,nI (bJ 0)],.tup [SB (lz 1++[10]),nI (bJ 1)]),(140,[c6 2,nI (bJ 1)],.tup [SB (lz 2++[10]),nI (bJ 2)]),(140,[c6 3,nI (bJ 2)],.tup [SB (lz 3++[10]),nI (bJ 3)]),(140,[c6 4,nI (bJ 3)],.tup [SB (lz 4++[10]),nI (bJ 4)]),(140,[c6 5,nI (bJ 4)],.tup [SB (lz 5++[10]),nI (bJ 5)]),(140,[c6 6,nI (bJ 5)],.tup [SB (lz 6++[10]),nI (bJ 6)]),(140,[c6 7,nI (bJ 6)],.tup [SB (lz 7++[10]),nI (bJ 7)]),(140,[c6 8,nI (bJ 7)],.tup [SB (lz 8++[10]),nI (bJ 8)])]
theorem JB:∀e∈Qo,ct e.1 e.2.1 e.2.2:=cb IS (cb IX (cb I8 (cb Je (cb Jj (cb Jo (cb Jt (cb Jz (ly))))))))
theorem QJ:PF 56 [hD 8] (.tup [hD 8,SB (FU 8)]):=kg JB pX rm (by kernel_rfl:gi (BU Qo [] []) 60 true 56 [hD 8]=_)
def Qp:List mo:=[(269,[SB (lz 1),nI (bJ 0)],.tup [c6 1,nI (bJ 1),nI 0]),(269,[SB (lz 2),nI (bJ 1)],.tup [c6 2,nI (bJ 2),nI 0]),(269,[SB (lz 3),nI (bJ 2)],.tup [c6 3,nI (bJ 3),nI 0]),(269,[SB (lz 4),nI (bJ 3)],.tup [c6 4,nI (bJ 4),nI 0]),(269,[SB (lz 5),nI (bJ 4)],.tup [c6 5,nI (bJ 5),nI 0]),(269,[SB (lz 6),nI (bJ 5)],.tup [c6 6,nI (bJ 6),nI 0]),(269,[SB (lz 7),nI (bJ 6)],.tup [c6 7,nI (bJ 7),nI 0]),(269,[SB (lz 8),nI (bJ 7)],.tup [c6 8,nI (bJ 8),nI 0])]
theorem JC:∀e∈Qp,ct e.1 e.2.1 e.2.2:=cb IT (cb IY (cb Ja (cb Jf (cb Jk (cb Jp (cb Ju (cb JA (ly))))))))
end Go.Pd
end
