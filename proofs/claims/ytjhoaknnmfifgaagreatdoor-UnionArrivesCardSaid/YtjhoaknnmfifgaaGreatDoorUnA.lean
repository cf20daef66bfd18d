import Derived.Test.YtjhoaknnmfifgaaGreatDoorPdFf
import Derived.IntWalk
import Derived.Shelf.Abstract
import Derived.Test.YtjhoaknnmfifgaaGreatDoorProg
section
namespace Go.Pd
open Go Go.RowKit
def iX(l:List Int):List D:=l.map (D.int .i64)
def AG(l:List (List Int)):List D:=l.map fun x=>D.slc false x.length (iX x)
section
variable {α β:Type}(pre:List α)(x:α)(r:List α)
theorem AH:decide ((pre.length:Int)<((pre++x::r).length:Int))=true:=by simp;omega
theorem AI:decide ((0:Int)≤(pre.length:Int)∧(pre.length:Int)<((pre++x::r).length:Int))=true:=by simp;omega
theorem xw:decide ((pre.length:Int)<((pre++([]:List α)).length:Int))=false:=by simp
theorem CR{y:Int}(h: -9223372036854775808≤y∧y≤9223372036854775807):IntKind.wrap .i64 y=y:=IntWalk.i64_in y h
theorem tY(h:(pre++x::r).length≤4611686018427387904):IntKind.wrap .i64 ((pre.length:Int)+1)=((pre++[x]).length:Int):=by
 simp at h;rw[CR (by omega)];simp
theorem m8:(pre++[x])++r=pre++x::r:=by simp
theorem tZ{γ:Type}(g:α→D)(c:D→Option γ):bi ((pre++x::r).map g) (Int.toNat (pre.length:Int)*1) c=c (g x):=by
 refine wd ?_ c;simp
theorem qC{γ:Type}(pre:List Int)(x:Int)(r:List Int)(c:D→Option γ):bi (iX (pre++x::r)) (Int.toNat (pre.length:Int)*1) c=c (.int .i64 x):=tZ pre x r _ c
theorem t6(g:α→List D)(w:Nat)(hw:∀x,(g x).length=w):∀(pre:List α) (j:Nat),j<w→((pre++x::r).flatMap g)[pre.length*w+j]?=(g x)[j]?
 |[],j,hj=>by
  rw[zb5,List.flatMap_cons,List.length_nil,Nat.zero_mul,Nat.zero_add,zb7 (by rw[hw];exact hj)]
 |y::pre,j,hj=>by
  rw[List.cons_append,List.flatMap_cons,za7,Nat.add_mul,Nat.one_mul,zb6 (by rw[hw];omega),hw];rw[show pre.length*w+w+j-w=pre.length*w+j by omega];exact t6 g w hw pre j hj
theorem co{γ:Type}(g:α→List D)(w:Nat)(hw:∀x,(g x).length=w)(j:Nat)(hj:j<w)(c:D→Option γ):bi ((pre++x::r).flatMap g) (Int.toNat (pre.length:Int)*w+j) c=bi (g x) j c:=by
 unfold bi;rw[za3,t6 x r g w hw pre j hj]
end
section
variable {P:Program}{n:Nat}{t:TypeId}{ds:List D}
theorem ms{k:IntKind}(hu:P.underlying t=some (.int k))(h:Ty P (n+1) t ds):∃x,ds=[.int k x]∧(Lit.int k x).wf=true:=by
 unfold Ty at h;rw[hu] at h;exact h
theorem wo(hu:P.underlying t=some .string)(h:Ty P (n+1) t ds):∃s,ds=[.str s]∧s.size≤maxLen:=by
 unfold Ty at h;rw[hu] at h;exact h
theorem t7{e:TypeId}(hu:P.underlying t=some (.slice e))(h:Ty P (n+1) t ds):∃gs:List (List D),ds=[.slc false gs.length gs.flatten]∧gs.length≤maxLen∧∀g∈gs,Ty P n e g:=by
 unfold Ty at h;rw[hu] at h;exact h
theorem wq{fs:Array Field}{f1 f2:Field}(hu:P.underlying t=some (.struct fs))(hfs:fs.toList=[f1,f2])(h:Ty P (n+1) t ds):∃g1 g2,ds=g1++g2∧Ty P n f1.type g1∧Ty P n f2.type g2:=by
 unfold Ty at h;rw[hu] at h;obtain⟨gs,h1,h2,h3⟩:=h;have hl:gs.length=2:=by rw[h2,←Array.length_toList,hfs];rfl
 match gs,hl with
 |[g1,g2],_=>exact⟨g1,g2,by rw[h1];simp,h3 0 f1 g1 (by rw[hfs];rfl) rfl,h3 1 f2 g2 (by rw[hfs];rfl) rfl⟩
theorem xx{α:Type}(g:α→List D){p:List D→Prop}(hp:∀d,p d→∃x,d=g x):∀gs:List (List D),(∀d∈gs,p d)→∃l:List α,l.length=gs.length∧gs.flatten=l.flatMap g
 |[],_=>⟨[],rfl,rfl⟩
 |d::gs,h=>by
  obtain⟨x,hx⟩:=hp d (h d (by simp));obtain⟨l,h1,h2⟩:=xx g hp gs fun d hd=>h d (za5 _ hd);exact⟨x::l,by simp[h1],by rw[List.flatten_cons,List.flatMap_cons,h2,hx]⟩
end
theorem CS{P:Program}{n:Nat}{t1 t2 t3:TypeId}{cs:List (List D)}(h:tT P n [t1,t2,t3] cs):∃c1 c2 c3,cs=[c1,c2,c3]∧Ty P n t1 c1∧Ty P n t2 c2∧Ty P n t3 c3:=by
 match cs,h with
 |[c1,c2,c3],h=>exact⟨c1,c2,c3,rfl,h.1,h.2.1,h.2.2.1⟩
end Go.Pd
end
section
namespace Go.Pd
open Go Go.Proofs
def powL:List D:=(List.range 20).map fun i=>D.int .u64 ((10^i:Nat):Int)
def EY:List D:=[0,1,56,2,57,49,28,3,61,58,42,50,38,29,17,4,62,47,59,36,45,43,51,22,53,39,33,30,24,18,12,5,63,55,48,27,60,41,37,16,46,35,44,21,52,32,23,11,54,26,40,15,34,20,31,10,25,14,19,9,13,8,7,6].map fun n=>D.int .u8 n
def jf:Nat→Option D:=fun g=>match g with
 |1=>some (.snap powL 0)
 |7=>some (.snap EY 0)
 |_=>none
def LL:Nat:=4611686018427387904
def C1:Nat→Nat:=fun _=>1
def O0:hN:=fun _=>none
def N0:bH:=fun _=>none
def AJ:List PK:=[.slf,.own 5 1]
def JY:List PK:=[.slf,.cl]
theorem jJ:Tryz.prog.follows .mixedOrders=true:=by kernel_rfl
abbrev bV(k:FuncId)(ds:List D)(r:D):Prop:=CallOK Tryz.prog jf k ds r
abbrev gX(c:FuncId→List D→Option D):Prop:=∀k ds r,c k ds=some r→CallOK Tryz.prog jf k ds r
def bs(l:List UInt8):ByteArray:=ByteArray.mk l.toArray
abbrev SB(l:List UInt8):D:= .str (bs l)
theorem rW(l:List UInt8):(bs l).size=l.length:=by simp[bs,ByteArray.size]
theorem ga(l:List UInt8):(bs l).data.toList=l:=by simp[bs]
theorem xy(s:ByteArray):bs s.data.toList=s:=by apply ByteArray.ext;simp[bs]
def JZ:hN:=fun id=>match id with
 |10=>some {fs:=[(47,47)],bar:=true}
 |_=>none
def J0:hN:=fun id=>match id with
 |17=>some {bar:=true}
 |_=>none
def D4:hN:=fun id=>match id with
 |1=>some {bar:=true}
 |_=>none
def Hd:hN:=fun id=>match id with
 |5=>some {bar:=true}
 |_=>none
def J1:bH:=fun p=>match p with
 |131066=>nm [19,178,179,180] [1,4,12] [1,4,12]
 |_=>none
def J2:bH:=fun p=>match p with
 |58=>nm [0,1,5] [] []
 |_=>none
def J3:bH:=fun p=>match p with
 |58=>nm [0,1,5] [] []
 |_=>none
def J4:bH:=fun p=>match p with
 |506=>nm [2,7,9,33,34,35] [3,11,13] [2,3,9,11,13,31]
 |1018=>nm [2,9,49,50,51] [3,11,13] [2,3,9,11,13,31]
 |_=>none
def J5:hN:=fun id=>match id with
 |1=>some {l:=some [0,1,2,3,4,5,6,7,8,9],ks:=[3]}
 |_=>none
def J6:bH:=fun p=>match p with
 |122=>nm [0,3,12,13,14] [5] [5,22]
 |_=>none
def J7:bH:=fun p=>match p with
 |122=>nm [0,3,4,10,11,12] [6] [3,6]
 |_=>none
def J8:bH:=fun p=>match p with
 |58=>nm [3,8,9,10] [6] [6,26]
 |_=>none
def J9:bH:=fun p=>match p with
 |26=>nm [0,1,5] [] []
 |_=>none
def Ka:bH:=fun p=>match p with
 |58=>nm [1,11,12,13] [4] [1,4]
 |_=>none
def Kb:bH:=fun p=>match p with
 |58=>nm [0,3,4] [] []
 |_=>none
def Kc:bH:=fun p=>match p with
 |58=>nm [1,3,13,14,15] [9,35] [1,9,11,35]
 |250=>nm [1,3,7,37,38,39] [9] [1,9,11,35]
 |_=>none
def Ke:bH:=fun p=>match p with
 |26=>nm [5,6,7] [] []
 |_=>none
def Kf:bH:=fun p=>match p with
 |58=>nm [1,3,14,15,16] [5,6] [1,5,6,12]
 |122=>nm [1,65,66,67] [5,6,12] [1,5,6,12]
 |_=>none
def Kg:hN:=fun id=>match id with
 |5=>some {l:=some [0,1,2,3,4,5,6,7,8],ks:=[6]}
 |_=>none
def Kh:bH:=fun p=>match p with
 |58=>nm [3,12,13,14] [1,5,8] [1,5,8,10]
 |59806=>nm [3,5,12,13,14,45,46,47] [1,8] [1,5,8,10]
 |_=>none
def Ki:bH:=fun p=>match p with
 |58=>nm [1,2,4,5,13,14] [7] [2,4,5,7,29]
 |_=>none
def Kj:bH:=fun p=>match p with
 |58=>nm [1,2,5,10,11,12] [7,8] [2,7,8,29]
 |_=>none
def Kk:hN:=fun id=>match id with
 |5=>some {l:=some [0,1,2,3,4,5,6,7,8],ks:=[8]}
 |_=>none
def Kl:bH:=fun p=>match p with
 |890=>nm [1,4,5,6,10,11,12] [8] [1,8,45,49]
 |_=>none
def He:bH:=fun p=>match p with
 |508=>nm [7,8] [] [30]
 |_=>none
def Hf:bH:=fun p=>match p with
 |26=>nm [5,6,7] [] []
 |_=>none
def Hg:bH:=fun p=>match p with
 |122=>nm [0,4,22,23,24] [6] [6,21]
 |_=>none
def Hh:bH:=fun p=>match p with
 |26=>nm [0,6] [] [6]
 |_=>none
def Hk:bH:=fun p=>match p with
 |26=>nm [6,7,8] [4] [4]
 |_=>none
def Hl:bH:=fun p=>match p with
 |122=>nm [5,14,15,16] [7] [7,13]
 |_=>none
def Hm:bH:=fun p=>match p with
 |506=>nm [2,5,6,7,8,9,11,12] [] [2,11,60,74]
 |_=>none
def Hn:bH:=fun p=>match p with
 |32762=>nm [4,11,96,97,98] [9] [4,9,11,91,114]
 |_=>none
def Ho:bH:=fun p=>match p with
 |122=>nm [3,4,5] [6,7] [3,4,5,6,7,20]
 |_=>none
def Hp:bH:=fun p=>match p with
 |58=>nm [1,2,3,7,15,16] [9,11] [3,9,11,47]
 |_=>none
def Hq:bH:=fun p=>match p with
 |122=>nm [3,6,7,8,23,24,25] [4,11] [3,4,6,7,11]
 |_=>none
def Hr:bH:=fun p=>match p with
 |58=>nm [3,6,7,8] [] []
 |_=>none
def Hs:bH:=fun p=>match p with
 |28=>nm [0,1,2,6,7,8] [] []
 |62=>nm [0,1,2,6] [] []
 |3988=>nm [0,1,2,6,7,8] [] []
 |_=>none
def Ht:hN:=fun id=>match id with
 |1=>some {l:=some [0,1,2,3,4,5,6,7,8,9],ks:=[3]}
 |_=>none
def Hu:bH:=fun p=>match p with
 |58=>nm [4,15,16,17] [] [48]
 |_=>none
def Hv:hN:=fun id=>match id with
 |1=>some {fs:=[(5,5)]}
 |_=>none
def Hw:bH:=fun p=>match p with
 |506=>nm [0,2,8,49,50,51] [3,10] [2,3,8,10,71]
 |_=>none
def Hx:hN:=fun id=>match id with
 |8=>some {no:=true}
 |10=>some {bar:=true}
 |_=>none
def Hy:hN:=fun id=>match id with
 |6=>some {no:=true}
 |13=>some {no:=true}
 |_=>none
def Hz:bH:=fun p=>match p with
 |26=>nm [0,1,7,8] [] []
 |_=>none
def HA:bH:=fun p=>match p with
 |26=>nm [0,1,7,8] [] []
 |_=>none
def HB:bH:=fun p=>match p with
 |26=>nm [0,5] [] []
 |_=>none
def HC:hN:=fun id=>match id with
 |1=>some {l:=some [0,1,2,3,4,5,6,7,8,9,10],ks:=[6]}
 |_=>none
def HD:bH:=fun p=>match p with
 |250=>some {keep:=[5,6],kl:=[],ren:=[(5,5),(6,6),(35,35),(66,35),(73,35)]}
 |8022=>some {keep:=[5,6,37,38,39],kl:=[],ren:=[(5,5),(6,6),(35,35),(66,35),(73,35)]}
 |_=>none
def HE:bH:=fun p=>match p with
 |58=>nm [1,6,9,10,11] [] [19]
 |_=>none
def HF:bH:=fun p=>match p with
 |122=>nm [7,8,16,17,18] [2,10] [2,10,34]
 |_=>none
def HG:bH:=fun p=>match p with
 |58=>nm [6,10,11,12] [2,8] [2,8,26]
 |_=>none
def HH:bH:=fun p=>match p with
 |58=>some {keep:=[1,3,16,17,18],kl:=[],ren:=[(1,1),(14,14),(26,14),(37,14)]}
 |_=>none
def HI:bH:=fun p=>match p with
 |26=>nm [0,1,7,8] [] []
 |_=>none
def HJ:bH:=fun p=>match p with
 |122=>nm [2,8,24,25,26] [10] [10,20]
 |_=>none
def HL:bH:=fun p=>match p with
 |26=>nm [0,1,7,8] [] []
 |_=>none
def HM:bH:=fun p=>match p with
 |26=>nm [0,1,7,8] [] []
 |_=>none
def HN:bH:=fun p=>match p with
 |28=>nm [0,1,2,6,7,8] [] []
 |62=>nm [0,1,2,6] [] []
 |3988=>nm [0,1,2,6,7,8] [] []
 |_=>none
def HO:bH:=fun p=>match p with
 |6=>nm [0,1,2,3,8] [] []
 |402=>nm [0,1,2,3,8,9] [] []
 |_=>none
def HP:bH:=fun p=>match p with
 |172=>nm [0,1,4,10,11] [] []
 |428=>nm [0,2,4,14,15] [] []
 |698=>nm [0,10,13] [] []
 |1020=>nm [0,1,2,3,4,18,19,20,21,22] [] []
 |1722=>nm [0,14,17] [] []
 |_=>none
def HQ:bH:=fun p=>match p with
 |58=>nm [0,3,4] [] []
 |_=>none
def HR:bH:=fun p=>match p with
 |58=>nm [0,3,7,8,9] [5] [5,36,42]
 |_=>none
def HS:bH:=fun p=>match p with
 |508=>nm [7,8] [] [30]
 |_=>none
def HT:bH:=fun p=>match p with
 |14=>nm [0,1,3,4] [8] [3,8]
 |_=>none
def HU:bH:=fun p=>match p with
 |26=>nm [0,1,7,8] [] []
 |_=>none
def HV:bH:=fun p=>match p with
 |26=>nm [5,6,7] [] []
 |_=>none
def HW:bH:=fun p=>match p with
 |250=>nm [5,6,7,21,22,23] [9] [9,37]
 |_=>none
def HX:bH:=fun p=>match p with
 |6=>nm [0,1,2,3,8] [] []
 |402=>nm [0,1,2,3,8,9] [] []
 |_=>none
def HY:bH:=fun p=>match p with
 |172=>nm [0,1,4,10,11] [] []
 |428=>nm [0,2,4,14,15] [] []
 |698=>nm [0,10,13] [] []
 |1020=>nm [0,1,2,3,4,18,19,20,21,22] [] []
 |1722=>nm [0,14,17] [] []
 |_=>none
def HZ:bH:=fun p=>match p with
 |28=>nm [0,2,4,10,11] [] []
 |_=>none
def H0:bH:=fun p=>match p with
 |26=>nm [0,1,7,8] [] []
 |_=>none
def H4:bH:=fun p=>match p with
 |26=>nm [0,3] [] []
 |_=>none
def H5:bH:=fun p=>match p with
 |6=>nm [0,1,2,4] [] []
 |_=>none
def H6:bH:=fun p=>match p with
 |28=>nm [0,2,4,10,11] [] []
 |_=>none
def H7:bH:=fun p=>match p with
 |6=>nm [0,1,2,3,10] [] []
 |_=>none
def H8:bH:=fun p=>match p with
 |6=>nm [0,1,2,3,10] [] []
 |_=>none
def H9:bH:=fun p=>match p with
 |4060=>nm [0,1,3,4,10,11,12,13,17] [] [12,98]
 |16220=>nm [0,1,3,4,10,11,12,13,14,15,16] [] [12,98]
 |_=>none
def Ia:bH:=fun p=>match p with
 |250=>nm [1,45] [6] [6,45]
 |7858=>nm [0,6,8] [45] [6,45]
 |_=>none
def Ib:bH:=fun p=>match p with
 |26=>nm [0,2,4] [] [2]
 |_=>none
def Id:bH:=fun p=>match p with
 |12=>nm [0,1] [] []
 |_=>none
def Ie:bH:=fun p=>match p with
 |12=>nm [0,1] [] []
 |_=>none
def If:bH:=fun p=>match p with
 |12=>nm [0,1] [] []
 |_=>none
def Ig:bH:=fun p=>match p with
 |12=>nm [0,1] [] []
 |_=>none
def Ih:bH:=fun p=>match p with
 |3770=>nm [5,6,47,48,49] [] []
 |_=>none
def Ii:bH:=fun p=>match p with
 |2044=>nm [0,1,5,6,7,8,9,10] [] []
 |_=>none
def Ij:bH:=fun p=>match p with
 |2044=>nm [0,1,2,3,9,10] [] [31]
 |_=>none
def Ik:bH:=fun p=>match p with
 |26=>nm [0,1,5] [] []
 |_=>none
def Il:bH:=fun p=>match p with
 |65532=>nm [7,8,9] [] [9]
 |_=>none
def nA:FuncId→bH:=fun k=>match k with
 |15=>J1
 |25=>J2
 |26=>J3
 |33=>J4
 |55=>J6
 |56=>J7
 |61=>J8
 |62=>J9
 |65=>Ka
 |79=>Kb
 |86=>Kc
 |87=>Ke
 |88=>Kf
 |89=>Kh
 |91=>Ki
 |96=>Kj
 |98=>Kl
 |102=>He
 |108=>Hf
 |109=>Hg
 |111=>Hh
 |112=>Hk
 |122=>Hl
 |132=>Hm
 |136=>Hn
 |143=>Ho
 |157=>Hp
 |160=>Hq
 |163=>Hr
 |164=>Hs
 |173=>Hu
 |180=>Hw
 |181=>Hz
 |182=>HA
 |188=>HB
 |196=>HD
 |198=>HE
 |200=>HF
 |203=>HG
 |210=>HH
 |211=>HI
 |219=>HJ
 |221=>HL
 |223=>HM
 |226=>HN
 |227=>HO
 |228=>HP
 |252=>HQ
 |259=>HR
 |260=>HS
 |268=>HT
 |275=>HU
 |277=>HV
 |280=>HW
 |281=>HX
 |282=>HY
 |283=>HZ
 |294=>H0
 |302=>H4
 |308=>H5
 |321=>H9
 |330=>H6
 |331=>H7
 |354=>H8
 |183=>Ia
 |190=>Ij
 |245=>Ib
 |257=>Ii
 |266=>Il
 |309=>Id
 |310=>Ie
 |311=>If
 |312=>Ig
 |315=>Ih
 |351=>Ik
 |_=>N0
def listA:List FuncId:=[15,17,18,19,20,21,25,26,32,33,41,43,45,53,55,56,59,61,62,65,66,69,70,77,78,79,86,87,88,89,90,91,92,93,94,96,97,98,99,100,101,102,103,108,109,110,111,112,113,114,115,116,117,118,119,120,121,122,127,130,132,133,134,135,136,137,139,140,143,146,147,153,154,155,156,157,158,159,160,161,162,163,164,165,166,167,168,169,170,171,172,173,174,175,176,177,178,179,180,181,182,183,184,188,189,190,194,195,196,197,198,199,200,201,202,203,204,205,207,208,209,210,211,212,214,217,218,219,221,222,223,224,225,226,227,228,230,231,232,233,234,235,236,237,238,239,240,241,242,243,244,245,246,251,252,255,257,258,259,260,261,262,264,265,266,268,269,272,275,276,277,278,279,280,281,282,283,284,285,286,287,288,289,290,291,292,293,294,295,296,302,308,309,310,311,312,315,318,321,322,324,325,329,330,331,332,333,337,348,349,350,351,354,355,361,364]
def yG:FuncId→Option hN:=fun k=>match listA.contains k with
 |false=>none
 |true=>some (match k with
  |33=>JZ
  |43=>J5
  |53=>J0
  |174=>D4
  |175=>Hd
  |176=>D4
  |88=>Kg
  |96=>Kk
  |127=>Hx
  |168=>Ht
  |178=>Hv
  |180=>Hy
  |195=>HC
  |_=>O0)
noncomputable def ed(call:CL)(L:Nat)(C:Nat→Nat):TE:={E:={P:=Tryz.prog,gl:=jf,call:=call,L:=L},cst:=fun _ _=>none,C:=C}
noncomputable def Im(call:CL)(L:Nat)(C:Nat→Nat)(l:Nat):TE:={ed call L C with it:=some l}
end Go.Pd
end
