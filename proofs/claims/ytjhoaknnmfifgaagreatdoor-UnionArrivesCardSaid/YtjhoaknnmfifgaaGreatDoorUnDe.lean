import Derived.Test.YtjhoaknnmfifgaaGreatDoorUnDa
section
namespace Go.Pd
open Go Go.Proofs Go.RowKit
set_option maxRecDepth 100000
theorem Fc:bV 211 [nI (br 0),SB (jM 1)] (nI (br 1)):=dW (by kernel_rfl)
theorem Fd:bV 212 [nI (br 1)] (SB (jN 1)):=dW (by kernel_rfl)
def Fe:List kV:=[(211,[nI (br 0),SB (jM 1)],nI (br 1)),(212,[nI (br 1)],SB (jN 1)),(136,[SB (eY 1),nI 1],.tup [cw 1,.bool true]),(43,[cw 1],nI 0)]
theorem qG:∀e∈Fe,bV e.1 e.2.1 e.2.2:=bF Fc (bF Fd (bF A6 (bF Eb ki)))
theorem Ff:bV 140 [cw 1,nI (br 0)] (.tup [SB (kj 1++[10]),nI (br 1)]):=fm qG (by kernel_rfl)
theorem Fg:bV 269 [SB (kj 1),nI (br 0)] (.tup [cw 1,nI (br 1),nI 0]):=fm qG (by kernel_rfl)
theorem Fh:bV 211 [nI (br 1),SB (jM 2)] (nI (br 2)):=dW (by kernel_rfl)
theorem Fi:bV 212 [nI (br 2)] (SB (jN 2)):=dW (by kernel_rfl)
def Fj:List kV:=[(211,[nI (br 1),SB (jM 2)],nI (br 2)),(212,[nI (br 2)],SB (jN 2)),(136,[SB (eY 2),nI 2],.tup [cw 2,.bool true]),(43,[cw 2],nI 0)]
theorem qH:∀e∈Fj,bV e.1 e.2.1 e.2.2:=bF Fh (bF Fi (bF A7 (bF Ec ki)))
theorem Fk:bV 140 [cw 2,nI (br 1)] (.tup [SB (kj 2++[10]),nI (br 2)]):=fm qH (by kernel_rfl)
theorem Fl:bV 269 [SB (kj 2),nI (br 1)] (.tup [cw 2,nI (br 2),nI 0]):=fm qH (by kernel_rfl)
theorem Fm:bV 211 [nI (br 2),SB (jM 3)] (nI (br 3)):=dW (by kernel_rfl)
theorem Fo:bV 212 [nI (br 3)] (SB (jN 3)):=dW (by kernel_rfl)
def Fp:List kV:=[(211,[nI (br 2),SB (jM 3)],nI (br 3)),(212,[nI (br 3)],SB (jN 3)),(136,[SB (eY 3),nI 3],.tup [cw 3,.bool true]),(43,[cw 3],nI 0)]
theorem qI:∀e∈Fp,bV e.1 e.2.1 e.2.2:=bF Fm (bF Fo (bF A8 (bF Ed ki)))
theorem Fq:bV 140 [cw 3,nI (br 2)] (.tup [SB (kj 3++[10]),nI (br 3)]):=fm qI (by kernel_rfl)
theorem Fr:bV 269 [SB (kj 3),nI (br 2)] (.tup [cw 3,nI (br 3),nI 0]):=fm qI (by kernel_rfl)
theorem Fs:bV 211 [nI (br 3),SB (jM 4)] (nI (br 4)):=dW (by kernel_rfl)
theorem Ft:bV 212 [nI (br 4)] (SB (jN 4)):=dW (by kernel_rfl)
def Fv:List kV:=[(211,[nI (br 3),SB (jM 4)],nI (br 4)),(212,[nI (br 4)],SB (jN 4)),(136,[SB (eY 4),nI 4],.tup [cw 4,.bool true]),(43,[cw 4],nI 0)]
theorem qJ:∀e∈Fv,bV e.1 e.2.1 e.2.2:=bF Fs (bF Ft (bF A9 (bF Ee ki)))
theorem Fw:bV 140 [cw 4,nI (br 3)] (.tup [SB (kj 4++[10]),nI (br 4)]):=fm qJ (by kernel_rfl)
theorem Fy:bV 269 [SB (kj 4),nI (br 3)] (.tup [cw 4,nI (br 4),nI 0]):=fm qJ (by kernel_rfl)
theorem FA:bV 211 [nI (br 4),SB (jM 5)] (nI (br 5)):=dW (by kernel_rfl)
theorem FB:bV 212 [nI (br 5)] (SB (jN 5)):=dW (by kernel_rfl)
def FC:List kV:=[(211,[nI (br 4),SB (jM 5)],nI (br 5)),(212,[nI (br 5)],SB (jN 5)),(136,[SB (eY 5),nI 5],.tup [cw 5,.bool true]),(43,[cw 5],nI 0)]
theorem qK:∀e∈FC,bV e.1 e.2.1 e.2.2:=bF FA (bF FB (bF Ba (bF Ef ki)))
theorem FD:bV 140 [cw 5,nI (br 4)] (.tup [SB (kj 5++[10]),nI (br 5)]):=fm qK (by kernel_rfl)
theorem FE:bV 269 [SB (kj 5),nI (br 4)] (.tup [cw 5,nI (br 5),nI 0]):=fm qK (by kernel_rfl)
theorem FF:bV 211 [nI (br 5),SB (jM 6)] (nI (br 6)):=dW (by kernel_rfl)
theorem FH:bV 212 [nI (br 6)] (SB (jN 6)):=dW (by kernel_rfl)
def FI:List kV:=[(211,[nI (br 5),SB (jM 6)],nI (br 6)),(212,[nI (br 6)],SB (jN 6)),(136,[SB (eY 6),nI 6],.tup [cw 6,.bool true]),(43,[cw 6],nI 0)]
theorem qL:∀e∈FI,bV e.1 e.2.1 e.2.2:=bF FF (bF FH (bF Bb (bF Eg ki)))
theorem FJ:bV 140 [cw 6,nI (br 5)] (.tup [SB (kj 6++[10]),nI (br 6)]):=fm qL (by kernel_rfl)
theorem FK:bV 269 [SB (kj 6),nI (br 5)] (.tup [cw 6,nI (br 6),nI 0]):=fm qL (by kernel_rfl)
theorem FL:bV 211 [nI (br 6),SB (jM 7)] (nI (br 7)):=dW (by kernel_rfl)
theorem FM:bV 212 [nI (br 7)] (SB (jN 7)):=dW (by kernel_rfl)
def FN:List kV:=[(211,[nI (br 6),SB (jM 7)],nI (br 7)),(212,[nI (br 7)],SB (jN 7)),(136,[SB (eY 7),nI 7],.tup [cw 7,.bool true]),(43,[cw 7],nI 0)]
theorem qM:∀e∈FN,bV e.1 e.2.1 e.2.2:=bF FL (bF FM (bF Bc (bF Eh ki)))
theorem FO:bV 140 [cw 7,nI (br 6)] (.tup [SB (kj 7++[10]),nI (br 7)]):=fm qM (by kernel_rfl)
theorem FP:bV 269 [SB (kj 7),nI (br 6)] (.tup [cw 7,nI (br 7),nI 0]):=fm qM (by kernel_rfl)
theorem FQ:bV 211 [nI (br 7),SB (jM 8)] (nI (br 8)):=dW (by kernel_rfl)
theorem FR:bV 212 [nI (br 8)] (SB (jN 8)):=dW (by kernel_rfl)
def FS:List kV:=[(211,[nI (br 7),SB (jM 8)],nI (br 8)),(212,[nI (br 8)],SB (jN 8)),(136,[SB (eY 8),nI 8],.tup [cw 8,.bool true]),(43,[cw 8],nI 0)]
theorem qN:∀e∈FS,bV e.1 e.2.1 e.2.2:=bF FQ (bF FR (bF Bd (bF Ei ki)))
theorem FT:bV 140 [cw 8,nI (br 7)] (.tup [SB (kj 8++[10]),nI (br 8)]):=fm qN (by kernel_rfl)
theorem FU:bV 269 [SB (kj 8),nI (br 7)] (.tup [cw 8,nI (br 8),nI 0]):=fm qN (by kernel_rfl)
def Lk:List kV:=[(140,[cw 1,nI (br 0)],.tup [SB (kj 1++[10]),nI (br 1)]),(140,[cw 2,nI (br 1)],.tup [SB (kj 2++[10]),nI (br 2)]),(140,[cw 3,nI (br 2)],.tup [SB (kj 3++[10]),nI (br 3)]),(140,[cw 4,nI (br 3)],.tup [SB (kj 4++[10]),nI (br 4)]),(140,[cw 5,nI (br 4)],.tup [SB (kj 5++[10]),nI (br 5)]),(140,[cw 6,nI (br 5)],.tup [SB (kj 6++[10]),nI (br 6)]),(140,[cw 7,nI (br 6)],.tup [SB (kj 7++[10]),nI (br 7)]),(140,[cw 8,nI (br 7)],.tup [SB (kj 8++[10]),nI (br 8)])]
theorem FV:∀e∈Lk,bV e.1 e.2.1 e.2.2:=bF Ff (bF Fk (bF Fq (bF Fw (bF FD (bF FJ (bF FO (bF FT (ki))))))))
theorem LE:PF 56 [hD 8] (.tup [hD 8,SB (Db 8)]):=jl FV nG oW (by kernel_rfl:fk (BU Lk [] []) 60 true 56 [hD 8]=_)
def Ll:List kV:=[(269,[SB (kj 1),nI (br 0)],.tup [cw 1,nI (br 1),nI 0]),(269,[SB (kj 2),nI (br 1)],.tup [cw 2,nI (br 2),nI 0]),(269,[SB (kj 3),nI (br 2)],.tup [cw 3,nI (br 3),nI 0]),(269,[SB (kj 4),nI (br 3)],.tup [cw 4,nI (br 4),nI 0]),(269,[SB (kj 5),nI (br 4)],.tup [cw 5,nI (br 5),nI 0]),(269,[SB (kj 6),nI (br 5)],.tup [cw 6,nI (br 6),nI 0]),(269,[SB (kj 7),nI (br 6)],.tup [cw 7,nI (br 7),nI 0]),(269,[SB (kj 8),nI (br 7)],.tup [cw 8,nI (br 8),nI 0])]
theorem FX:∀e∈Ll,bV e.1 e.2.1 e.2.2:=bF Fg (bF Fl (bF Fr (bF Fy (bF FE (bF FK (bF FP (bF FU (ki))))))))
end Go.Pd
end
