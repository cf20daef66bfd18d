import Derived.Test.YtjhoaknnmfifgaaGreatDoorUnC
section
namespace Go.Pd
open Go Go.Proofs Go.RowKit
set_option maxRecDepth 100000
theorem f17:ce 17 [uD] (nI 0):=em (by kernel_rfl)
def Np:List lH:=[(17,[uD],nI 0)]
theorem qh:∀e∈Np,ce e.1 e.2.1 e.2.2:=bQ f17 kH
theorem f18:ce 18 [uD,SB jY] (kJ (.agg [SB jY,.slc false 2 [nI 5,SB [],nI 3,SB []]])):=fL qh (by kernel_rfl)
theorem f19:ce 19 [uD,SB jY] (kJ (.slc false 1 [nI 2])):=fL qh (by kernel_rfl)
theorem f20:ce 20 [uD,SB jY] (kJ (.slc true 0 [])):=fL qh (by kernel_rfl)
theorem f21:ce 21 [uD,SB jY] (nI 7):=fL qh (by kernel_rfl)
theorem Nc:ce 32 [uD] (kJ (.slc false 2 HP)):=fL qh (by kernel_rfl)
theorem Nq:ce 65 [fD] (nI 0):=em (by kernel_rfl)
def Nr:List lH:=[(65,[fD],nI 0),(17,[uD],nI 0)]
theorem xE:∀e∈Nr,ce e.1 e.2.1 e.2.2:=bQ Nq (bQ f17 kH)
theorem Ns:ce 69 [fD] (kJ (.slc false 1 [SB [100],nI 1,SB jY,nI 1,nI 4,SB []])):=fL xE (by kernel_rfl)
theorem Nt:ce 70 [fD] (kJ (.slc false 1 [SB [100],nI 2])):=fL xE (by kernel_rfl)
theorem Nu:ce 33 [uD,fD] (kJ (.slc false 1 [SB jY,nI 1,nI 0])):=fL xE (by kernel_rfl)
def Nd:List UInt8:=[98,101,110,58,45,49,58,49,32,97,110,110,58,49,58,50]
theorem L7:PF 53 [hD 8,SB [98,111,97,114,100]] (.tup [hD 8,kJ (SB Nd)]):=jy (bQ Nc kH) oP qg (by kernel_rfl:fK (BU [(32,[uD],kJ (.slc false 2 HP))] [] []) 60 true 53 [hD 8,SB [98,111,97,114,100]]=_)
end Go.Pd
end
