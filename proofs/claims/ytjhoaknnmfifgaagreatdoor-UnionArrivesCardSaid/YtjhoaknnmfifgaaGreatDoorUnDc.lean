import Derived.Test.YtjhoaknnmfifgaaGreatDoorUnC
section
namespace Go.Pd
open Go Go.Proofs Go.RowKit
set_option maxRecDepth 100000
theorem Lh:bV 17 [uD] (nI 0):=dW (by kernel_rfl)
def Lw:List kV:=[(17,[uD],nI 0)]
theorem oX:∀e∈Lw,bV e.1 e.2.1 e.2.2:=bF Lh ki
theorem Lx:bV 18 [uD,SB jL] (kk (.agg [SB jL,.slc false 2 [nI 5,SB [],nI 3,SB []]])):=fm oX (by kernel_rfl)
theorem Ly:bV 19 [uD,SB jL] (kk (.slc false 1 [nI 2])):=fm oX (by kernel_rfl)
theorem Lz:bV 20 [uD,SB jL] (kk (.slc true 0 [])):=fm oX (by kernel_rfl)
theorem LA:bV 21 [uD,SB jL] (nI 7):=fm oX (by kernel_rfl)
theorem Li:bV 32 [uD] (kk (.slc false 2 GH)):=fm oX (by kernel_rfl)
theorem f65:bV 65 [fD] (nI 0):=dW (by kernel_rfl)
def LB:List kV:=[(65,[fD],nI 0),(17,[uD],nI 0)]
theorem wy:∀e∈LB,bV e.1 e.2.1 e.2.2:=bF f65 (bF Lh ki)
theorem f69:bV 69 [fD] (kk (.slc false 1 [SB [100],nI 1,SB jL,nI 1,nI 4,SB []])):=fm wy (by kernel_rfl)
theorem LC:bV 70 [fD] (kk (.slc false 1 [SB [100],nI 2])):=fm wy (by kernel_rfl)
theorem LD:bV 33 [uD,fD] (kk (.slc false 1 [SB jL,nI 1,nI 0])):=fm wy (by kernel_rfl)
def Lj:List UInt8:=[98,101,110,58,45,49,58,49,32,97,110,110,58,49,58,50]
theorem KA:PF 53 [hD 8,SB [98,111,97,114,100]] (.tup [hD 8,kk (SB Lj)]):=jl (bF Li ki) nG oW (by kernel_rfl:fk (BU [(32,[uD],kk (.slc false 2 GH))] [] []) 60 true 53 [hD 8,SB [98,111,97,114,100]]=_)
end Go.Pd
end
