import Derived.Test.YtjhoaknnmfifgaaGreatDoorPdFf
import Derived.IntWalk
import Derived.Shelf.Abstract
import Derived.Test.YtjhoaknnmfifgaaGreatDoorProg
section
namespace Go.Pd
open Go Go.RowKit
def fQ(l:List Int):List D:=l.map (D.int .i64)
def Df(l:List (List Int)):List D:=l.map fun x=>D.slc false x.length (fQ x)
section
variable {α β:Type}(pre:List α)(x:α)(r:List α)
theorem cJ:decide ((pre.length:Int)<((pre++x::r).length:Int))=true:=by simp;omega
theorem cF:decide ((0:Int)≤(pre.length:Int)∧(pre.length:Int)<((pre++x::r).length:Int))=true:=by simp;omega
theorem cz:decide ((pre.length:Int)<((pre++([]:List α)).length:Int))=false:=by simp
theorem Fw{y:Int}(h: -9223372036854775808≤y∧y≤9223372036854775807):IntKind.wrap .i64 y=y:=IntWalk.i64_in y h
theorem cq(h:(pre++x::r).length≤4611686018427387904):IntKind.wrap .i64 ((pre.length:Int)+1)=((pre++[x]).length:Int):=by
 simp at h;rw[Fw (by omega)];simp
theorem cU:(pre++[x])++r=pre++x::r:=by simp
theorem xe{γ:Type}(g:α→D)(c:D→Option γ):bu ((pre++x::r).map g) (Int.toNat (pre.length:Int)*1) c=c (g x):=by
 refine cu ?_ c;simp
theorem ox{γ:Type}(pre:List Int)(x:Int)(r:List Int)(c:D→Option γ):bu (fQ (pre++x::r)) (Int.toNat (pre.length:Int)*1) c=c (.int .i64 x):=xe pre x r _ c
theorem nc(g:α→List D)(w:Nat)(hw:∀x,(g x).length=w):∀(pre:List α) (j:Nat),j<w→((pre++x::r).flatMap g)[pre.length*w+j]?=(g x)[j]?
 |[],j,hj=>by
  rw[zb5,List.flatMap_cons,List.length_nil,Nat.zero_mul,Nat.zero_add,zb7 (by rw[hw];exact hj)]
 |y::pre,j,hj=>by
  rw[List.cons_append,List.flatMap_cons,za7,Nat.add_mul,Nat.one_mul,zb6 (by rw[hw];omega),hw];rw[show pre.length*w+w+j-w=pre.length*w+j by omega];exact nc g w hw pre j hj
theorem db{γ:Type}(g:α→List D)(w:Nat)(hw:∀x,(g x).length=w)(j:Nat)(hj:j<w)(c:D→Option γ):bu ((pre++x::r).flatMap g) (Int.toNat (pre.length:Int)*w+j) c=bu (g x) j c:=by
 unfold bu;rw[za3,nc x r g w hw pre j hj]
end
section
variable {P:Program}{n:Nat}{t:TypeId}{ds:List D}
theorem oy{k:IntKind}(hu:P.underlying t=some (.int k))(h:Ty P (n+1) t ds):∃x,ds=[.int k x]∧(Lit.int k x).wf=true:=by
 unfold Ty at h;rw[hu] at h;exact h
theorem kI(hu:P.underlying t=some .string)(h:Ty P (n+1) t ds):∃s,ds=[.str s]∧s.size≤maxLen:=by
 unfold Ty at h;rw[hu] at h;exact h
theorem ig{e:TypeId}(hu:P.underlying t=some (.slice e))(h:Ty P (n+1) t ds):∃gs:List (List D),ds=[.slc false gs.length gs.flatten]∧gs.length≤maxLen∧∀g∈gs,Ty P n e g:=by
 unfold Ty at h;rw[hu] at h;exact h
theorem mn{fs:Array Field}{f1 f2:Field}(hu:P.underlying t=some (.struct fs))(hfs:fs.toList=[f1,f2])(h:Ty P (n+1) t ds):∃g1 g2,ds=g1++g2∧Ty P n f1.type g1∧Ty P n f2.type g2:=by
 unfold Ty at h;rw[hu] at h;obtain⟨gs,h1,h2,h3⟩:=h;have hl:gs.length=2:=by rw[h2,←Array.length_toList,hfs];rfl
 match gs,hl with
 |[g1,g2],_=>exact⟨g1,g2,by rw[h1];simp,h3 0 f1 g1 (by rw[hfs];rfl) rfl,h3 1 f2 g2 (by rw[hfs];rfl) rfl⟩
theorem rb{fs:Array Field}{f1 f2 f3:Field}(hu:P.underlying t=some (.struct fs))(hfs:fs.toList=[f1,f2,f3])(h:Ty P (n+1) t ds):∃g1 g2 g3,ds=g1++g2++g3∧Ty P n f1.type g1∧Ty P n f2.type g2∧Ty P n f3.type g3:=by
 unfold Ty at h;rw[hu] at h;obtain⟨gs,h1,h2,h3⟩:=h;have hl:gs.length=3:=by rw[h2,←Array.length_toList,hfs];rfl
 match gs,hl with
 |[g1,g2,g3],_=>exact⟨g1,g2,g3,by rw[h1];simp,h3 0 f1 g1 (by rw[hfs];rfl) rfl,h3 1 f2 g2 (by rw[hfs];rfl) rfl,h3 2 f3 g3 (by rw[hfs];rfl) rfl⟩
theorem iS{α:Type}(g:α→List D){p:List D→Prop}(hp:∀d,p d→∃x,d=g x):∀gs:List (List D),(∀d∈gs,p d)→∃l:List α,l.length=gs.length∧gs.flatten=l.flatMap g
 |[],_=>⟨[],rfl,rfl⟩
 |d::gs,h=>by
  obtain⟨x,hx⟩:=hp d (h d (by simp));obtain⟨l,h1,h2⟩:=iS g hp gs fun d hd=>h d (za5 _ hd);exact⟨x::l,by simp[h1],by rw[List.flatten_cons,List.flatMap_cons,h2,hx]⟩
end
theorem Fy{P:Program}{n:Nat}{t1 t2:TypeId}{cs:List (List D)}(h:w9 P n [t1,t2] cs):∃c1 c2,cs=[c1,c2]∧Ty P n t1 c1∧Ty P n t2 c2:=by
 match cs,h with
 |[c1,c2],h=>exact⟨c1,c2,rfl,h.1,h.2.1⟩
end Go.Pd
end
section
namespace Go.Pd
open Go Go.Proofs
def powL:List D:=(List.range 20).map fun i=>D.int .u64 ((10^i:Nat):Int)
def IB:List D:=[0,1,56,2,57,49,28,3,61,58,42,50,38,29,17,4,62,47,59,36,45,43,51,22,53,39,33,30,24,18,12,5,63,55,48,27,60,41,37,16,46,35,44,21,52,32,23,11,54,26,40,15,34,20,31,10,25,14,19,9,13,8,7,6].map fun n=>D.int .u8 n
def iy:Nat→Option D:=fun g=>match g with
 |1=>some (.snap powL 0)
 |7=>some (.snap IB 0)
 |_=>none
def LL:Nat:=4611686018427387904
def C1:Nat→Nat:=fun _=>1
def O0:iG:=fun _=>none
def N0:bP:=fun _=>none
def Dg:List PK:=[.slf,.own 5 1]
def OL:List PK:=[.slf,.cl]
theorem j0:Tryz.prog.follows .mixedOrders=true:=by kernel_rfl
abbrev ct(k:FuncId)(ds:List D)(r:D):Prop:=CallOK Tryz.prog iy k ds r
abbrev ep(c:FuncId→List D→Option D):Prop:=∀k ds r,c k ds=some r→CallOK Tryz.prog iy k ds r
def bs(l:List UInt8):ByteArray:=ByteArray.mk l.toArray
abbrev SB(l:List UInt8):D:= .str (bs l)
theorem vn(l:List UInt8):(bs l).size=l.length:=by simp[bs,ByteArray.size]
theorem gS(l:List UInt8):(bs l).data.toList=l:=by simp[bs]
theorem Aq(s:ByteArray):bs s.data.toList=s:=by apply ByteArray.ext;simp[bs]
def OM:iG:=fun id=>match id with
 |10=>some {fs:=[(47,47)],bar:=true}
 |_=>none
def ON:iG:=fun id=>match id with
 |17=>some {bar:=true}
 |_=>none
def Hv:iG:=fun id=>match id with
 |1=>some {bar:=true}
 |_=>none
def Lo:iG:=fun id=>match id with
 |5=>some {bar:=true}
 |_=>none
def OO:bP:=fun p=>match p with
 |131066=>nm [19,178,179,180] [1,4,12] [1,4,12]
 |_=>none
def OP:bP:=fun p=>match p with
 |58=>nm [0,1,5] [] []
 |_=>none
def OQ:bP:=fun p=>match p with
 |58=>nm [0,1,5] [] []
 |_=>none
def OR:bP:=fun p=>match p with
 |506=>nm [2,7,9,33,34,35] [3,11,13] [2,3,9,11,13,31]
 |1018=>nm [2,9,49,50,51] [3,11,13] [2,3,9,11,13,31]
 |_=>none
def OS:iG:=fun id=>match id with
 |1=>some {l:=some [0,1,2,3,4,5,6,7,8,9],ks:=[3]}
 |_=>none
def OT:bP:=fun p=>match p with
 |122=>nm [0,3,12,13,14] [5] [5,22]
 |_=>none
def OU:bP:=fun p=>match p with
 |122=>nm [0,3,4,10,11,12] [6] [3,6]
 |_=>none
def OV:bP:=fun p=>match p with
 |58=>nm [3,8,9,10] [6] [6,26]
 |_=>none
def OW:bP:=fun p=>match p with
 |26=>nm [0,1,5] [] []
 |_=>none
def OX:bP:=fun p=>match p with
 |58=>nm [1,11,12,13] [4] [1,4]
 |_=>none
def OY:bP:=fun p=>match p with
 |58=>nm [0,3,4] [] []
 |_=>none
def OZ:bP:=fun p=>match p with
 |58=>nm [1,3,13,14,15] [9,35] [1,9,11,35]
 |250=>nm [1,3,7,37,38,39] [9] [1,9,11,35]
 |_=>none
def O1:bP:=fun p=>match p with
 |26=>nm [5,6,7] [] []
 |_=>none
def O3:bP:=fun p=>match p with
 |58=>nm [1,3,14,15,16] [5,6] [1,5,6,12]
 |122=>nm [1,65,66,67] [5,6,12] [1,5,6,12]
 |_=>none
def O4:iG:=fun id=>match id with
 |5=>some {l:=some [0,1,2,3,4,5,6,7,8],ks:=[6]}
 |_=>none
def O5:bP:=fun p=>match p with
 |58=>nm [3,12,13,14] [1,5,8] [1,5,8,10]
 |59806=>nm [3,5,12,13,14,45,46,47] [1,8] [1,5,8,10]
 |_=>none
def O6:bP:=fun p=>match p with
 |58=>nm [1,2,4,5,13,14] [7] [2,4,5,7,29]
 |_=>none
def O7:bP:=fun p=>match p with
 |58=>nm [1,2,5,10,11,12] [7,8] [2,7,8,29]
 |_=>none
def O8:iG:=fun id=>match id with
 |5=>some {l:=some [0,1,2,3,4,5,6,7,8],ks:=[8]}
 |_=>none
def O9:bP:=fun p=>match p with
 |890=>nm [1,4,5,6,10,11,12] [8] [1,8,45,49]
 |_=>none
def Lp:bP:=fun p=>match p with
 |508=>nm [7,8] [] [30]
 |_=>none
def Lq:bP:=fun p=>match p with
 |26=>nm [5,6,7] [] []
 |_=>none
def Lr:bP:=fun p=>match p with
 |122=>nm [0,4,22,23,24] [6] [6,21]
 |_=>none
def Ls:bP:=fun p=>match p with
 |26=>nm [0,6] [] [6]
 |_=>none
def Lt:bP:=fun p=>match p with
 |26=>nm [6,7,8] [4] [4]
 |_=>none
def Lu:bP:=fun p=>match p with
 |122=>nm [5,14,15,16] [7] [7,13]
 |_=>none
def Lv:bP:=fun p=>match p with
 |506=>nm [2,5,6,7,8,9,11,12] [] [2,11,60,74]
 |_=>none
def Lw:bP:=fun p=>match p with
 |32762=>nm [4,11,96,97,98] [9] [4,9,11,91,114]
 |_=>none
def Lx:bP:=fun p=>match p with
 |122=>nm [3,4,5] [6,7] [3,4,5,6,7,20]
 |_=>none
def Ly:bP:=fun p=>match p with
 |58=>nm [1,2,3,7,15,16] [9,11] [3,9,11,47]
 |_=>none
def Lz:bP:=fun p=>match p with
 |122=>nm [3,6,7,8,23,24,25] [4,11] [3,4,6,7,11]
 |_=>none
def LA:bP:=fun p=>match p with
 |58=>nm [3,6,7,8] [] []
 |_=>none
def LB:bP:=fun p=>match p with
 |28=>nm [0,1,2,6,7,8] [] []
 |62=>nm [0,1,2,6] [] []
 |3988=>nm [0,1,2,6,7,8] [] []
 |_=>none
def LC:iG:=fun id=>match id with
 |1=>some {l:=some [0,1,2,3,4,5,6,7,8,9],ks:=[3]}
 |_=>none
def LD:bP:=fun p=>match p with
 |58=>nm [4,15,16,17] [] [48]
 |_=>none
def LE:iG:=fun id=>match id with
 |1=>some {fs:=[(5,5)]}
 |_=>none
def LF:bP:=fun p=>match p with
 |506=>nm [0,2,8,49,50,51] [3,10] [2,3,8,10,71]
 |_=>none
def LG:iG:=fun id=>match id with
 |8=>some {no:=true}
 |10=>some {bar:=true}
 |_=>none
def LH:iG:=fun id=>match id with
 |6=>some {no:=true}
 |13=>some {no:=true}
 |_=>none
def LI:bP:=fun p=>match p with
 |26=>nm [0,1,7,8] [] []
 |_=>none
def LJ:bP:=fun p=>match p with
 |26=>nm [0,1,7,8] [] []
 |_=>none
def LK:bP:=fun p=>match p with
 |26=>nm [0,5] [] []
 |_=>none
def LM:iG:=fun id=>match id with
 |1=>some {l:=some [0,1,2,3,4,5,6,7,8,9,10],ks:=[6]}
 |_=>none
def LN:bP:=fun p=>match p with
 |250=>some {keep:=[5,6],kl:=[],ren:=[(5,5),(6,6),(35,35),(66,35),(73,35)]}
 |8022=>some {keep:=[5,6,37,38,39],kl:=[],ren:=[(5,5),(6,6),(35,35),(66,35),(73,35)]}
 |_=>none
def LO:bP:=fun p=>match p with
 |58=>nm [1,6,9,10,11] [] [19]
 |_=>none
def LP:bP:=fun p=>match p with
 |122=>nm [7,8,16,17,18] [2,10] [2,10,34]
 |_=>none
def LQ:bP:=fun p=>match p with
 |58=>nm [6,10,11,12] [2,8] [2,8,26]
 |_=>none
def LR:bP:=fun p=>match p with
 |58=>some {keep:=[1,3,16,17,18],kl:=[],ren:=[(1,1),(14,14),(26,14),(37,14)]}
 |_=>none
def LS:bP:=fun p=>match p with
 |26=>nm [0,1,7,8] [] []
 |_=>none
def LT:bP:=fun p=>match p with
 |122=>nm [2,8,24,25,26] [10] [10,20]
 |_=>none
def LU:bP:=fun p=>match p with
 |26=>nm [0,1,7,8] [] []
 |_=>none
def LV:bP:=fun p=>match p with
 |26=>nm [0,1,7,8] [] []
 |_=>none
def LW:bP:=fun p=>match p with
 |28=>nm [0,1,2,6,7,8] [] []
 |62=>nm [0,1,2,6] [] []
 |3988=>nm [0,1,2,6,7,8] [] []
 |_=>none
def LX:bP:=fun p=>match p with
 |6=>nm [0,1,2,3,8] [] []
 |402=>nm [0,1,2,3,8,9] [] []
 |_=>none
def LY:bP:=fun p=>match p with
 |172=>nm [0,1,4,10,11] [] []
 |428=>nm [0,2,4,14,15] [] []
 |698=>nm [0,10,13] [] []
 |1020=>nm [0,1,2,3,4,18,19,20,21,22] [] []
 |1722=>nm [0,14,17] [] []
 |_=>none
def LZ:bP:=fun p=>match p with
 |58=>nm [0,3,4] [] []
 |_=>none
def L0:bP:=fun p=>match p with
 |58=>nm [0,3,7,8,9] [5] [5,36,42]
 |_=>none
def L1:bP:=fun p=>match p with
 |508=>nm [7,8] [] [30]
 |_=>none
def L2:bP:=fun p=>match p with
 |14=>nm [0,1,3,4] [8] [3,8]
 |_=>none
def L3:bP:=fun p=>match p with
 |26=>nm [0,1,7,8] [] []
 |_=>none
def L4:bP:=fun p=>match p with
 |26=>nm [5,6,7] [] []
 |_=>none
def L5:bP:=fun p=>match p with
 |250=>nm [5,6,7,21,22,23] [9] [9,37]
 |_=>none
def L6:bP:=fun p=>match p with
 |6=>nm [0,1,2,3,8] [] []
 |402=>nm [0,1,2,3,8,9] [] []
 |_=>none
def L7:bP:=fun p=>match p with
 |172=>nm [0,1,4,10,11] [] []
 |428=>nm [0,2,4,14,15] [] []
 |698=>nm [0,10,13] [] []
 |1020=>nm [0,1,2,3,4,18,19,20,21,22] [] []
 |1722=>nm [0,14,17] [] []
 |_=>none
def L8:bP:=fun p=>match p with
 |28=>nm [0,2,4,10,11] [] []
 |_=>none
def L9:bP:=fun p=>match p with
 |26=>nm [0,1,7,8] [] []
 |_=>none
def Ma:bP:=fun p=>match p with
 |26=>nm [0,3] [] []
 |_=>none
def Mb:bP:=fun p=>match p with
 |6=>nm [0,1,2,4] [] []
 |_=>none
def Mc:bP:=fun p=>match p with
 |28=>nm [0,2,4,10,11] [] []
 |_=>none
def Md:bP:=fun p=>match p with
 |6=>nm [0,1,2,3,10] [] []
 |_=>none
def Me:bP:=fun p=>match p with
 |6=>nm [0,1,2,3,10] [] []
 |_=>none
def Mf:bP:=fun p=>match p with
 |4060=>nm [0,1,3,4,10,11,12,13,17] [] [12,98]
 |16220=>nm [0,1,3,4,10,11,12,13,14,15,16] [] [12,98]
 |_=>none
def Mg:bP:=fun p=>match p with
 |250=>nm [1,45] [6] [6,45]
 |7858=>nm [0,6,8] [45] [6,45]
 |_=>none
def Mh:bP:=fun p=>match p with
 |26=>nm [0,2,4] [] [2]
 |_=>none
def Mi:bP:=fun p=>match p with
 |12=>nm [0,1] [] []
 |_=>none
def Mj:bP:=fun p=>match p with
 |12=>nm [0,1] [] []
 |_=>none
def Mk:bP:=fun p=>match p with
 |12=>nm [0,1] [] []
 |_=>none
def Ml:bP:=fun p=>match p with
 |12=>nm [0,1] [] []
 |_=>none
def Mm:bP:=fun p=>match p with
 |3770=>nm [5,6,47,48,49] [] []
 |_=>none
def Mn:bP:=fun p=>match p with
 |2044=>nm [0,1,5,6,7,8,9,10] [] []
 |_=>none
def Mo:bP:=fun p=>match p with
 |2044=>nm [0,1,2,3,9,10] [] [31]
 |_=>none
def Mp:bP:=fun p=>match p with
 |26=>nm [0,1,5] [] []
 |_=>none
def Mq:bP:=fun p=>match p with
 |65532=>nm [7,8,9] [] [9]
 |_=>none
def nA:FuncId→bP:=fun k=>match k with
 |15=>OO
 |25=>OP
 |26=>OQ
 |33=>OR
 |55=>OT
 |56=>OU
 |61=>OV
 |62=>OW
 |65=>OX
 |79=>OY
 |86=>OZ
 |87=>O1
 |88=>O3
 |89=>O5
 |91=>O6
 |96=>O7
 |98=>O9
 |102=>Lp
 |108=>Lq
 |109=>Lr
 |111=>Ls
 |112=>Lt
 |122=>Lu
 |132=>Lv
 |136=>Lw
 |143=>Lx
 |157=>Ly
 |160=>Lz
 |163=>LA
 |164=>LB
 |173=>LD
 |180=>LF
 |181=>LI
 |182=>LJ
 |188=>LK
 |196=>LN
 |198=>LO
 |200=>LP
 |203=>LQ
 |210=>LR
 |211=>LS
 |219=>LT
 |221=>LU
 |223=>LV
 |226=>LW
 |227=>LX
 |228=>LY
 |252=>LZ
 |259=>L0
 |260=>L1
 |268=>L2
 |275=>L3
 |277=>L4
 |280=>L5
 |281=>L6
 |282=>L7
 |283=>L8
 |294=>L9
 |302=>Ma
 |308=>Mb
 |321=>Mf
 |330=>Mc
 |331=>Md
 |354=>Me
 |183=>Mg
 |190=>Mo
 |245=>Mh
 |257=>Mn
 |266=>Mq
 |309=>Mi
 |310=>Mj
 |311=>Mk
 |312=>Ml
 |315=>Mm
 |351=>Mp
 |_=>N0
def listA:List FuncId:=[15,17,18,19,20,21,25,26,32,33,41,43,45,53,55,56,59,61,62,65,66,69,70,77,78,79,86,87,88,89,90,91,92,93,94,96,97,98,99,100,101,102,103,108,109,110,111,112,113,114,115,116,117,118,119,120,121,122,127,130,132,133,134,135,136,137,139,140,143,146,147,153,154,155,156,157,158,159,160,161,162,163,164,165,166,167,168,169,170,171,172,173,174,175,176,177,178,179,180,181,182,183,184,188,189,190,194,195,196,197,198,199,200,201,202,203,204,205,207,208,209,210,211,212,214,217,218,219,221,222,223,224,225,226,227,228,230,231,232,233,234,235,236,237,238,239,240,241,242,243,244,245,246,251,252,255,257,258,259,260,261,262,264,265,266,268,269,272,275,276,277,278,279,280,281,282,283,284,285,286,287,288,289,290,291,292,293,294,295,296,302,308,309,310,311,312,315,318,321,322,324,325,329,330,331,332,333,337,348,349,350,351,354,355,361,364]
def BM:FuncId→Option iG:=fun k=>match listA.contains k with
 |false=>none
 |true=>some (match k with
  |33=>OM
  |43=>OS
  |53=>ON
  |174=>Hv
  |175=>Lo
  |176=>Hv
  |88=>O4
  |96=>O8
  |127=>LG
  |168=>LC
  |178=>LE
  |180=>LH
  |195=>LM
  |_=>O0)
noncomputable def cD(call:CL)(L:Nat)(C:Nat→Nat):TE:={E:={P:=Tryz.prog,gl:=iy,call:=call,L:=L},cst:=fun _ _=>none,C:=C}
noncomputable def Mr(call:CL)(L:Nat)(C:Nat→Nat)(l:Nat):TE:={cD call L C with it:=some l}
def Dh:D:= .msnap [.str (ByteArray.mk #[]),.str (ByteArray.mk #[99]),.str (ByteArray.mk #[120]),.str (ByteArray.mk #[45])]
 [.agg [.fn (.func 284) [] [],.fn (.func 138) [] []],.agg [.fn (.func 284) [] [],.fn (.func 286) [] []],.agg [.fn (.func 285) [] [],.fn (.func 287) [] []],.agg [.fn (.func 285) [] [],.fn (.func 288) [] []]]
def FA:x6:=fun k ds=>match k,ds with
 |231,[]=>some Dh
 |_,_=>none
noncomputable def Pa(call:CL)(L:Nat)(C:Nat→Nat):TE:={cD call L C with cst:=FA}
end Go.Pd
end
