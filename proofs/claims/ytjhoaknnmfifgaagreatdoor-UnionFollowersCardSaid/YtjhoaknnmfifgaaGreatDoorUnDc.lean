import Derived.Test.YtjhoaknnmfifgaaGreatDoorUnC
section
namespace Go.Pd
open Go Go.Proofs Go.RowKit
set_option maxRecDepth 100000
theorem KG:ci 17 [uD] (nI 0):=ec (by kernel_rfl)
def KW:List kW:=[(17,[uD],nI 0)]
theorem pc:∀e∈KW,ci e.1 e.2.1 e.2.2:=bQ KG kn
theorem KX:ci 18 [uD,SB jV] (kp (.agg [SB jV,.slc false 2 [nI 5,SB [],nI 3,SB []]])):=fG pc (by kernel_rfl)
theorem KY:ci 19 [uD,SB jV] (kp (.slc false 1 [nI 2])):=fG pc (by kernel_rfl)
theorem KZ:ci 20 [uD,SB jV] (kp (.slc true 0 [])):=fG pc (by kernel_rfl)
theorem K0:ci 21 [uD,SB jV] (nI 7):=fG pc (by kernel_rfl)
theorem KH:ci 32 [uD] (kp (.slc false 2 FV)):=fG pc (by kernel_rfl)
theorem f65:ci 65 [fD] (nI 0):=ec (by kernel_rfl)
def K1:List kW:=[(65,[fD],nI 0),(17,[uD],nI 0)]
theorem wI:∀e∈K1,ci e.1 e.2.1 e.2.2:=bQ f65 (bQ KG kn)
theorem f69:ci 69 [fD] (kp (.slc false 1 [SB [100],nI 1,SB jV,nI 1,nI 4,SB []])):=fG wI (by kernel_rfl)
theorem f70:ci 70 [fD] (kp (.slc false 1 [SB [100],nI 2])):=fG wI (by kernel_rfl)
theorem K2:ci 33 [uD,fD] (kp (.slc false 1 [SB jV,nI 1,nI 0])):=fG wI (by kernel_rfl)
def KI:List UInt8:=[98,101,110,58,45,49,58,49,32,97,110,110,58,49,58,50]
theorem JP:PF 53 [hD 8,SB [98,111,97,114,100]] (.tup [hD 8,kp (SB KI)]):=ju (bQ KH kn) nB pb (by kernel_rfl:fF (BU [(32,[uD],kp (.slc false 2 FV))] [] []) 60 true 53 [hD 8,SB [98,111,97,114,100]]=_)
end Go.Pd
end
