import Derived.Test.YtjhoaknnmfifgaaGreatDoorUnC
section
namespace Go.Pd
open Go Go.Proofs Go.RowKit
set_option maxRecDepth 100000
theorem PX:bR 17 [uD] (nI 0):=dE (by kernel_rfl)
def Qh:List lF:=[(17,[uD],nI 0)]
theorem qe:∀e∈Qh,bR e.1 e.2.1 e.2.2:=bK PX kO
theorem Qi:bR 18 [uD,SB jY] (kQ (.agg [SB jY,.slc false 2 [nI 5,SB [],nI 3,SB []]])):=fp qe (by kernel_rfl)
theorem Qj:bR 19 [uD,SB jY] (kQ (.slc false 1 [nI 2])):=fp qe (by kernel_rfl)
theorem Qk:bR 20 [uD,SB jY] (kQ (.slc true 0 [])):=fp qe (by kernel_rfl)
theorem Ql:bR 21 [uD,SB jY] (nI 7):=fp qe (by kernel_rfl)
theorem PY:bR 32 [uD] (kQ (.slc false 2 Ky)):=fp qe (by kernel_rfl)
theorem Qm:bR 65 [fD] (nI 0):=dE (by kernel_rfl)
def Qn:List lF:=[(65,[fD],nI 0),(17,[uD],nI 0)]
theorem yq:∀e∈Qn,bR e.1 e.2.1 e.2.2:=bK Qm (bK PX kO)
theorem Qo:bR 69 [fD] (kQ (.slc false 1 [SB [100],nI 1,SB jY,nI 1,nI 4,SB []])):=fp yq (by kernel_rfl)
theorem Qp:bR 70 [fD] (kQ (.slc false 1 [SB [100],nI 2])):=fp yq (by kernel_rfl)
theorem Qq:bR 33 [uD,fD] (kQ (.slc false 1 [SB jY,nI 1,nI 0])):=fp yq (by kernel_rfl)
def PZ:List UInt8:=[98,101,110,58,45,49,58,49,32,97,110,110,58,49,58,50]
theorem Pc:PF 53 [hD 8,SB [98,111,97,114,100]] (.tup [hD 8,kQ (SB PZ)]):=jx (bK PY kO) oG qd (by kernel_rfl:fj (BU [(32,[uD],kQ (.slc false 2 Ky))] [] []) 60 true 53 [hD 8,SB [98,111,97,114,100]]=_)
end Go.Pd
end
