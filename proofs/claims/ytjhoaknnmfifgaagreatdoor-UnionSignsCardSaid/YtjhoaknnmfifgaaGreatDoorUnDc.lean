import Derived.Test.YtjhoaknnmfifgaaGreatDoorUnC
section
namespace Go.Pd
open Go Go.Proofs Go.RowKit
set_option maxRecDepth 100000
theorem f17:co 17 [uD] (nI 0):=eE (by kernel_rfl)
def NL:List lR:=[(17,[uD],nI 0)]
theorem qx:∀e∈NL,co e.1 e.2.1 e.2.2:=bS f17 kU
theorem f18:co 18 [uD,SB ki] (kW (.agg [SB ki,.slc false 2 [nI 5,SB [],nI 3,SB []]])):=fT qx (by kernel_rfl)
theorem f19:co 19 [uD,SB ki] (kW (.slc false 1 [nI 2])):=fT qx (by kernel_rfl)
theorem f20:co 20 [uD,SB ki] (kW (.slc true 0 [])):=fT qx (by kernel_rfl)
theorem f21:co 21 [uD,SB ki] (nI 7):=fT qx (by kernel_rfl)
theorem Nz:co 32 [uD] (kW (.slc false 2 Iw)):=fT qx (by kernel_rfl)
theorem NM:co 65 [fD] (nI 0):=eE (by kernel_rfl)
def NN:List lR:=[(65,[fD],nI 0),(17,[uD],nI 0)]
theorem xU:∀e∈NN,co e.1 e.2.1 e.2.2:=bS NM (bS f17 kU)
theorem NO:co 69 [fD] (kW (.slc false 1 [SB [100],nI 1,SB ki,nI 1,nI 4,SB []])):=fT xU (by kernel_rfl)
theorem NP:co 70 [fD] (kW (.slc false 1 [SB [100],nI 2])):=fT xU (by kernel_rfl)
theorem NQ:co 33 [uD,fD] (kW (.slc false 1 [SB ki,nI 1,nI 0])):=fT xU (by kernel_rfl)
def NA:List UInt8:=[98,101,110,58,45,49,58,49,32,97,110,110,58,49,58,50]
theorem ME:PF 53 [hD 8,SB [98,111,97,114,100]] (.tup [hD 8,kW (SB NA)]):=jJ (bS Nz kU) pj qw (by kernel_rfl:fS (BU [(32,[uD],kW (.slc false 2 Iw))] [] []) 60 true 53 [hD 8,SB [98,111,97,114,100]]=_)
end Go.Pd
end
