import Derived.Test.YtjhoaknnmfifgaaGreatDoorUnDa
section
namespace Go.Pd
open Go Go.Proofs Go.RowKit
set_option maxRecDepth 100000
theorem Ey:ci 211 [nI (bE 0),SB (jW 1)] (nI (bE 1)):=ec (by kernel_rfl)
theorem Ez:ci 212 [nI (bE 1)] (SB (jX 1)):=ec (by kernel_rfl)
def EA:List kW:=[(211,[nI (bE 0),SB (jW 1)],nI (bE 1)),(212,[nI (bE 1)],SB (jX 1)),(136,[SB (ft 1),nI 1],.tup [cI 1,.bool true]),(43,[cI 1],nI 0)]
theorem qJ:∀e∈EA,ci e.1 e.2.1 e.2.2:=bQ Ey (bQ Ez (bQ AM (bQ DE kn)))
theorem EB:ci 140 [cI 1,nI (bE 0)] (.tup [SB (ko 1++[10]),nI (bE 1)]):=fG qJ (by kernel_rfl)
theorem EC:ci 269 [SB (ko 1),nI (bE 0)] (.tup [cI 1,nI (bE 1),nI 0]):=fG qJ (by kernel_rfl)
theorem ED:ci 211 [nI (bE 1),SB (jW 2)] (nI (bE 2)):=ec (by kernel_rfl)
theorem EE:ci 212 [nI (bE 2)] (SB (jX 2)):=ec (by kernel_rfl)
def EF:List kW:=[(211,[nI (bE 1),SB (jW 2)],nI (bE 2)),(212,[nI (bE 2)],SB (jX 2)),(136,[SB (ft 2),nI 2],.tup [cI 2,.bool true]),(43,[cI 2],nI 0)]
theorem qK:∀e∈EF,ci e.1 e.2.1 e.2.2:=bQ ED (bQ EE (bQ AN (bQ DF kn)))
theorem EG:ci 140 [cI 2,nI (bE 1)] (.tup [SB (ko 2++[10]),nI (bE 2)]):=fG qK (by kernel_rfl)
theorem EH:ci 269 [SB (ko 2),nI (bE 1)] (.tup [cI 2,nI (bE 2),nI 0]):=fG qK (by kernel_rfl)
theorem EI:ci 211 [nI (bE 2),SB (jW 3)] (nI (bE 3)):=ec (by kernel_rfl)
theorem EJ:ci 212 [nI (bE 3)] (SB (jX 3)):=ec (by kernel_rfl)
def EK:List kW:=[(211,[nI (bE 2),SB (jW 3)],nI (bE 3)),(212,[nI (bE 3)],SB (jX 3)),(136,[SB (ft 3),nI 3],.tup [cI 3,.bool true]),(43,[cI 3],nI 0)]
theorem qL:∀e∈EK,ci e.1 e.2.1 e.2.2:=bQ EI (bQ EJ (bQ AO (bQ DG kn)))
theorem EL:ci 140 [cI 3,nI (bE 2)] (.tup [SB (ko 3++[10]),nI (bE 3)]):=fG qL (by kernel_rfl)
theorem EM:ci 269 [SB (ko 3),nI (bE 2)] (.tup [cI 3,nI (bE 3),nI 0]):=fG qL (by kernel_rfl)
theorem EN:ci 211 [nI (bE 3),SB (jW 4)] (nI (bE 4)):=ec (by kernel_rfl)
theorem EO:ci 212 [nI (bE 4)] (SB (jX 4)):=ec (by kernel_rfl)
def EP:List kW:=[(211,[nI (bE 3),SB (jW 4)],nI (bE 4)),(212,[nI (bE 4)],SB (jX 4)),(136,[SB (ft 4),nI 4],.tup [cI 4,.bool true]),(43,[cI 4],nI 0)]
theorem qM:∀e∈EP,ci e.1 e.2.1 e.2.2:=bQ EN (bQ EO (bQ AQ (bQ DH kn)))
theorem EQ:ci 140 [cI 4,nI (bE 3)] (.tup [SB (ko 4++[10]),nI (bE 4)]):=fG qM (by kernel_rfl)
theorem ER:ci 269 [SB (ko 4),nI (bE 3)] (.tup [cI 4,nI (bE 4),nI 0]):=fG qM (by kernel_rfl)
theorem ES:ci 211 [nI (bE 4),SB (jW 5)] (nI (bE 5)):=ec (by kernel_rfl)
theorem ET:ci 212 [nI (bE 5)] (SB (jX 5)):=ec (by kernel_rfl)
def EU:List kW:=[(211,[nI (bE 4),SB (jW 5)],nI (bE 5)),(212,[nI (bE 5)],SB (jX 5)),(136,[SB (ft 5),nI 5],.tup [cI 5,.bool true]),(43,[cI 5],nI 0)]
theorem qN:∀e∈EU,ci e.1 e.2.1 e.2.2:=bQ ES (bQ ET (bQ AR (bQ DI kn)))
theorem EV:ci 140 [cI 5,nI (bE 4)] (.tup [SB (ko 5++[10]),nI (bE 5)]):=fG qN (by kernel_rfl)
theorem EW:ci 269 [SB (ko 5),nI (bE 4)] (.tup [cI 5,nI (bE 5),nI 0]):=fG qN (by kernel_rfl)
theorem EX:ci 211 [nI (bE 5),SB (jW 6)] (nI (bE 6)):=ec (by kernel_rfl)
theorem EY:ci 212 [nI (bE 6)] (SB (jX 6)):=ec (by kernel_rfl)
def EZ:List kW:=[(211,[nI (bE 5),SB (jW 6)],nI (bE 6)),(212,[nI (bE 6)],SB (jX 6)),(136,[SB (ft 6),nI 6],.tup [cI 6,.bool true]),(43,[cI 6],nI 0)]
theorem qO:∀e∈EZ,ci e.1 e.2.1 e.2.2:=bQ EX (bQ EY (bQ AS (bQ DJ kn)))
theorem E0:ci 140 [cI 6,nI (bE 5)] (.tup [SB (ko 6++[10]),nI (bE 6)]):=fG qO (by kernel_rfl)
theorem E1:ci 269 [SB (ko 6),nI (bE 5)] (.tup [cI 6,nI (bE 6),nI 0]):=fG qO (by kernel_rfl)
theorem E2:ci 211 [nI (bE 6),SB (jW 7)] (nI (bE 7)):=ec (by kernel_rfl)
theorem E3:ci 212 [nI (bE 7)] (SB (jX 7)):=ec (by kernel_rfl)
def E4:List kW:=[(211,[nI (bE 6),SB (jW 7)],nI (bE 7)),(212,[nI (bE 7)],SB (jX 7)),(136,[SB (ft 7),nI 7],.tup [cI 7,.bool true]),(43,[cI 7],nI 0)]
theorem qP:∀e∈E4,ci e.1 e.2.1 e.2.2:=bQ E2 (bQ E3 (bQ AT (bQ DK kn)))
theorem E5:ci 140 [cI 7,nI (bE 6)] (.tup [SB (ko 7++[10]),nI (bE 7)]):=fG qP (by kernel_rfl)
theorem E6:ci 269 [SB (ko 7),nI (bE 6)] (.tup [cI 7,nI (bE 7),nI 0]):=fG qP (by kernel_rfl)
theorem E7:ci 211 [nI (bE 7),SB (jW 8)] (nI (bE 8)):=ec (by kernel_rfl)
theorem E8:ci 212 [nI (bE 8)] (SB (jX 8)):=ec (by kernel_rfl)
def E9:List kW:=[(211,[nI (bE 7),SB (jW 8)],nI (bE 8)),(212,[nI (bE 8)],SB (jX 8)),(136,[SB (ft 8),nI 8],.tup [cI 8,.bool true]),(43,[cI 8],nI 0)]
theorem qQ:∀e∈E9,ci e.1 e.2.1 e.2.2:=bQ E7 (bQ E8 (bQ AU (bQ DL kn)))
theorem Fa:ci 140 [cI 8,nI (bE 7)] (.tup [SB (ko 8++[10]),nI (bE 8)]):=fG qQ (by kernel_rfl)
theorem Fb:ci 269 [SB (ko 8),nI (bE 7)] (.tup [cI 8,nI (bE 8),nI 0]):=fG qQ (by kernel_rfl)
def KJ:List kW:=[(140,[cI 1,nI (bE 0)],.tup [SB (ko 1++[10]),nI (bE 1)]),(140,[cI 2,nI (bE 1)],.tup [SB (ko 2++[10]),nI (bE 2)]),(140,[cI 3,nI (bE 2)],.tup [SB (ko 3++[10]),nI (bE 3)]),(140,[cI 4,nI (bE 3)],.tup [SB (ko 4++[10]),nI (bE 4)]),(140,[cI 5,nI (bE 4)],.tup [SB (ko 5++[10]),nI (bE 5)]),(140,[cI 6,nI (bE 5)],.tup [SB (ko 6++[10]),nI (bE 6)]),(140,[cI 7,nI (bE 6)],.tup [SB (ko 7++[10]),nI (bE 7)]),(140,[cI 8,nI (bE 7)],.tup [SB (ko 8++[10]),nI (bE 8)])]
theorem Fc:∀e∈KJ,ci e.1 e.2.1 e.2.2:=bQ EB (bQ EG (bQ EL (bQ EQ (bQ EV (bQ E0 (bQ E5 (bQ Fa (kn))))))))
theorem K3:PF 56 [hD 8] (.tup [hD 8,SB (CH 8)]):=ju Fc nB pb (by kernel_rfl:fF (BU KJ [] []) 60 true 56 [hD 8]=_)
def KL:List kW:=[(269,[SB (ko 1),nI (bE 0)],.tup [cI 1,nI (bE 1),nI 0]),(269,[SB (ko 2),nI (bE 1)],.tup [cI 2,nI (bE 2),nI 0]),(269,[SB (ko 3),nI (bE 2)],.tup [cI 3,nI (bE 3),nI 0]),(269,[SB (ko 4),nI (bE 3)],.tup [cI 4,nI (bE 4),nI 0]),(269,[SB (ko 5),nI (bE 4)],.tup [cI 5,nI (bE 5),nI 0]),(269,[SB (ko 6),nI (bE 5)],.tup [cI 6,nI (bE 6),nI 0]),(269,[SB (ko 7),nI (bE 6)],.tup [cI 7,nI (bE 7),nI 0]),(269,[SB (ko 8),nI (bE 7)],.tup [cI 8,nI (bE 8),nI 0])]
theorem Fd:∀e∈KL,ci e.1 e.2.1 e.2.2:=bQ EC (bQ EH (bQ EM (bQ ER (bQ EW (bQ E1 (bQ E6 (bQ Fb (kn))))))))
end Go.Pd
end
