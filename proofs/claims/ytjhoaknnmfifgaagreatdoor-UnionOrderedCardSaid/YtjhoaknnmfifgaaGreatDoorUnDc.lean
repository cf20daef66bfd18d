import Derived.Test.YtjhoaknnmfifgaaGreatDoorUnC
section
namespace Go.Pd
open Go Go.Proofs Go.RowKit
set_option maxRecDepth 100000
theorem f17:ct 17 [uD] (nI 0):=eO (by kernel_rfl)
def Qz:List mo:=[(17,[uD],nI 0)]
theorem rn:∀e∈Qz,ct e.1 e.2.1 e.2.2:=cb f17 ly
theorem QA:ct 18 [uD,SB kK] (lA (.agg [SB kK,.slc false 2 [nI 5,SB [],nI 3,SB []]])):=gj rn (by kernel_rfl)
theorem QB:ct 19 [uD,SB kK] (lA (.slc false 1 [nI 2])):=gj rn (by kernel_rfl)
theorem QC:ct 20 [uD,SB kK] (lA (.slc true 0 [])):=gj rn (by kernel_rfl)
theorem QD:ct 21 [uD,SB kK] (nI 7):=gj rn (by kernel_rfl)
theorem f32:ct 32 [uD] (lA (.slc false 2 KW)):=gj rn (by kernel_rfl)
theorem QE:ct 65 [fD] (nI 0):=eO (by kernel_rfl)
def QF:List mo:=[(65,[fD],nI 0),(17,[uD],nI 0)]
theorem zi:∀e∈QF,ct e.1 e.2.1 e.2.2:=cb QE (cb f17 ly)
theorem QG:ct 69 [fD] (lA (.slc false 1 [SB [100],nI 1,SB kK,nI 1,nI 4,SB []])):=gj zi (by kernel_rfl)
theorem QH:ct 70 [fD] (lA (.slc false 1 [SB [100],nI 2])):=gj zi (by kernel_rfl)
theorem QI:ct 33 [uD,fD] (lA (.slc false 1 [SB kK,nI 1,nI 0])):=gj zi (by kernel_rfl)
def Qn:List UInt8:=[98,101,110,58,45,49,58,49,32,97,110,110,58,49,58,50]
theorem Pq:PF 53 [hD 8,SB [98,111,97,114,100]] (.tup [hD 8,lA (SB Qn)]):=kg (cb f32 ly) pX rm (by kernel_rfl:gi (BU [(32,[uD],lA (.slc false 2 KW))] [] []) 60 true 53 [hD 8,SB [98,111,97,114,100]]=_)
end Go.Pd
end
