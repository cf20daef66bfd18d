import Derived.Test.YtjhoaknnmfifgaaGreatDoorPdFf
import Derived.IntWalk
import Derived.Shelf.Abstract
import Derived.Test.YtjhoaknnmfifgaaGreatDoorProg
section
namespace Go.Pd
open Go Go.RowKit
def b9(l:List Int):List D:=l.map (D.int .i64)
def CJ(l:List (List Int)):List D:=l.map fun x=>D.slc false x.length (b9 x)
section
variable {α β:Type}(pre:List α)(x:α)(r:List α)
theorem eF:decide ((pre.length:Int)<((pre++x::r).length:Int))=true:=by simp;omega
theorem eh:decide ((0:Int)≤(pre.length:Int)∧(pre.length:Int)<((pre++x::r).length:Int))=true:=by simp;omega
theorem dI:decide ((pre.length:Int)<((pre++([]:List α)).length:Int))=false:=by simp
theorem bS{y:Int}(h: -9223372036854775808≤y∧y≤9223372036854775807):IntKind.wrap .i64 y=y:=IntWalk.i64_in y h
theorem cX(h:(pre++x::r).length≤4611686018427387904):IntKind.wrap .i64 ((pre.length:Int)+1)=((pre++[x]).length:Int):=by
 simp at h;rw[bS (by omega)];simp
theorem Fa:(pre++[x])++r=pre++x::r:=by simp
theorem wc{γ:Type}(g:α→D)(c:D→Option γ):bc ((pre++x::r).map g) (Int.toNat (pre.length:Int)*1) c=c (g x):=by
 refine yb ?_ c;simp
theorem AQ{γ:Type}(pre:List Int)(x:Int)(r:List Int)(c:D→Option γ):bc (b9 (pre++x::r)) (Int.toNat (pre.length:Int)*1) c=c (.int .i64 x):=wc pre x r _ c
theorem wd(g:α→List D)(w:Nat)(hw:∀x,(g x).length=w):∀(pre:List α) (j:Nat),j<w→((pre++x::r).flatMap g)[pre.length*w+j]?=(g x)[j]?
 |[],j,hj=>by
  rw[zb7,List.flatMap_cons,zb5,Nat.zero_mul,Nat.zero_add,zb9 (by rw[hw];exact hj)]
 |y::pre,j,hj=>by
  rw[List.cons_append,List.flatMap_cons,za7,Nat.add_mul,Nat.one_mul,zb8 (by rw[hw];omega),hw];rw[show pre.length*w+w+j-w=pre.length*w+j by omega];exact wd g w hw pre j hj
theorem bX{γ:Type}(g:α→List D)(w:Nat)(hw:∀x,(g x).length=w)(j:Nat)(hj:j<w)(c:D→Option γ):bc ((pre++x::r).flatMap g) (Int.toNat (pre.length:Int)*w+j) c=bc (g x) j c:=by
 unfold bc;rw[za3,wd x r g w hw pre j hj]
end
section
variable {P:Program}{n:Nat}{t:TypeId}{ds:List D}
theorem CK{k:IntKind}(hu:P.underlying t=some (.int k))(h:Ty P (n+1) t ds):∃x,ds=[.int k x]∧(Lit.int k x).wf=true:=by
 unfold Ty at h;rw[hu] at h;exact h
theorem tW(hu:P.underlying t=some .string)(h:Ty P (n+1) t ds):∃s,ds=[.str s]∧s.size≤maxLen:=by
 unfold Ty at h;rw[hu] at h;exact h
theorem we{e:TypeId}(hu:P.underlying t=some (.slice e))(h:Ty P (n+1) t ds):∃gs:List (List D),ds=[.slc false gs.length gs.flatten]∧gs.length≤maxLen∧∀g∈gs,Ty P n e g:=by
 unfold Ty at h;rw[hu] at h;exact h
theorem tX{α:Type}(g:α→List D){p:List D→Prop}(hp:∀d,p d→∃x,d=g x):∀gs:List (List D),(∀d∈gs,p d)→∃l:List α,l.length=gs.length∧gs.flatten=l.flatMap g
 |[],_=>⟨[],rfl,rfl⟩
 |d::gs,h=>by
  obtain⟨x,hx⟩:=hp d (h d (by simp));obtain⟨l,h1,h2⟩:=tX g hp gs fun d hd=>h d (za5 _ hd);exact⟨x::l,by simp[h1],by rw[List.flatten_cons,List.flatMap_cons,h2,hx]⟩
end
theorem Fb{P:Program}{n:Nat}{t1 t2:TypeId}{cs:List (List D)}(h:v6 P n [t1,t2] cs):∃c1 c2,cs=[c1,c2]∧Ty P n t1 c1∧Ty P n t2 c2:=by
 match cs,h with
 |[c1,c2],h=>exact⟨c1,c2,rfl,h.1,h.2.1⟩
end Go.Pd
end
section
namespace Go.Pd
open Go Go.Proofs
def powL:List D:=(List.range 20).map fun i=>D.int .u64 ((10^i:Nat):Int)
def Ih:List D:=[0,1,56,2,57,49,28,3,61,58,42,50,38,29,17,4,62,47,59,36,45,43,51,22,53,39,33,30,24,18,12,5,63,55,48,27,60,41,37,16,46,35,44,21,52,32,23,11,54,26,40,15,34,20,31,10,25,14,19,9,13,8,7,6].map fun n=>D.int .u8 n
def je:Nat→Option D:=fun g=>match g with
 |1=>some (.snap powL 0)
 |7=>some (.snap Ih 0)
 |_=>none
def LL:Nat:=4611686018427387904
def C1:Nat→Nat:=fun _=>1
def O0:hZ:=fun _=>none
def N0:bA:=fun _=>none
def CM:List PK:=[.slf,.own 5 1]
def Oz:List PK:=[.slf,.cl]
theorem fk:Tryz.prog.follows .mixedOrders=true:=by kernel_rfl
abbrev bR(k:FuncId)(ds:List D)(r:D):Prop:=CallOK Tryz.prog je k ds r
abbrev gY(c:FuncId→List D→Option D):Prop:=∀k ds r,c k ds=some r→CallOK Tryz.prog je k ds r
def bs(l:List UInt8):ByteArray:=ByteArray.mk l.toArray
abbrev SB(l:List UInt8):D:= .str (bs l)
theorem bm(l:List UInt8):(bs l).size=l.length:=by simp[bs,ByteArray.size]
theorem cH(l:List UInt8):(bs l).data.toList=l:=by simp[bs]
theorem oE(s:ByteArray):bs s.data.toList=s:=by apply ByteArray.ext;simp[bs]
def OA:hZ:=fun id=>match id with
 |10=>some {fs:=[(47,47)],bar:=true}
 |_=>none
def OB:hZ:=fun id=>match id with
 |17=>some {bar:=true}
 |_=>none
def G3:hZ:=fun id=>match id with
 |1=>some {bar:=true}
 |_=>none
def K5:hZ:=fun id=>match id with
 |5=>some {bar:=true}
 |_=>none
def OC:bA:=fun p=>match p with
 |131066=>nm [19,178,179,180] [1,4,12] [1,4,12]
 |_=>none
def OD:bA:=fun p=>match p with
 |58=>nm [0,1,5] [] []
 |_=>none
def OE:bA:=fun p=>match p with
 |58=>nm [0,1,5] [] []
 |_=>none
def OF:bA:=fun p=>match p with
 |506=>nm [2,7,9,33,34,35] [3,11,13] [2,3,9,11,13,31]
 |1018=>nm [2,9,49,50,51] [3,11,13] [2,3,9,11,13,31]
 |_=>none
def OG:hZ:=fun id=>match id with
 |1=>some {l:=some [0,1,2,3,4,5,6,7,8,9],ks:=[3]}
 |_=>none
def OH:bA:=fun p=>match p with
 |122=>nm [0,3,12,13,14] [5] [5,22]
 |_=>none
def OI:bA:=fun p=>match p with
 |122=>nm [0,3,4,10,11,12] [6] [3,6]
 |_=>none
def OJ:bA:=fun p=>match p with
 |58=>nm [3,8,9,10] [6] [6,26]
 |_=>none
def OK:bA:=fun p=>match p with
 |26=>nm [0,1,5] [] []
 |_=>none
def OL:bA:=fun p=>match p with
 |58=>nm [1,11,12,13] [4] [1,4]
 |_=>none
def OM:bA:=fun p=>match p with
 |58=>nm [0,3,4] [] []
 |_=>none
def ON:bA:=fun p=>match p with
 |58=>nm [1,3,13,14,15] [9,35] [1,9,11,35]
 |250=>nm [1,3,7,37,38,39] [9] [1,9,11,35]
 |_=>none
def OO:bA:=fun p=>match p with
 |26=>nm [5,6,7] [] []
 |_=>none
def OP:bA:=fun p=>match p with
 |58=>nm [1,3,14,15,16] [5,6] [1,5,6,12]
 |122=>nm [1,65,66,67] [5,6,12] [1,5,6,12]
 |_=>none
def OQ:hZ:=fun id=>match id with
 |5=>some {l:=some [0,1,2,3,4,5,6,7,8],ks:=[6]}
 |_=>none
def OR:bA:=fun p=>match p with
 |58=>nm [3,12,13,14] [1,5,8] [1,5,8,10]
 |59806=>nm [3,5,12,13,14,45,46,47] [1,8] [1,5,8,10]
 |_=>none
def OS:bA:=fun p=>match p with
 |58=>nm [1,2,4,5,13,14] [7] [2,4,5,7,29]
 |_=>none
def OT:bA:=fun p=>match p with
 |58=>nm [1,2,5,10,11,12] [7,8] [2,7,8,29]
 |_=>none
def OU:hZ:=fun id=>match id with
 |5=>some {l:=some [0,1,2,3,4,5,6,7,8],ks:=[8]}
 |_=>none
def OV:bA:=fun p=>match p with
 |890=>nm [1,4,5,6,10,11,12] [8] [1,8,45,49]
 |_=>none
def K6:bA:=fun p=>match p with
 |508=>nm [7,8] [] [30]
 |_=>none
def K7:bA:=fun p=>match p with
 |26=>nm [5,6,7] [] []
 |_=>none
def K8:bA:=fun p=>match p with
 |122=>nm [0,4,22,23,24] [6] [6,21]
 |_=>none
def K9:bA:=fun p=>match p with
 |26=>nm [0,6] [] [6]
 |_=>none
def La:bA:=fun p=>match p with
 |26=>nm [6,7,8] [4] [4]
 |_=>none
def Lb:bA:=fun p=>match p with
 |122=>nm [5,14,15,16] [7] [7,13]
 |_=>none
def Lc:bA:=fun p=>match p with
 |506=>nm [2,5,6,7,8,9,11,12] [] [2,11,60,74]
 |_=>none
def Ld:bA:=fun p=>match p with
 |32762=>nm [4,11,96,97,98] [9] [4,9,11,91,114]
 |_=>none
def Le:bA:=fun p=>match p with
 |122=>nm [3,4,5] [6,7] [3,4,5,6,7,20]
 |_=>none
def Lf:bA:=fun p=>match p with
 |58=>nm [1,2,3,7,15,16] [9,11] [3,9,11,47]
 |_=>none
def Lg:bA:=fun p=>match p with
 |122=>nm [3,6,7,8,23,24,25] [4,11] [3,4,6,7,11]
 |_=>none
def Lh:bA:=fun p=>match p with
 |58=>nm [3,6,7,8] [] []
 |_=>none
def Li:bA:=fun p=>match p with
 |28=>nm [0,1,2,6,7,8] [] []
 |62=>nm [0,1,2,6] [] []
 |3988=>nm [0,1,2,6,7,8] [] []
 |_=>none
def Lj:hZ:=fun id=>match id with
 |1=>some {l:=some [0,1,2,3,4,5,6,7,8,9],ks:=[3]}
 |_=>none
def Lk:bA:=fun p=>match p with
 |58=>nm [4,15,16,17] [] [48]
 |_=>none
def Ll:hZ:=fun id=>match id with
 |1=>some {fs:=[(5,5)]}
 |_=>none
def Lm:bA:=fun p=>match p with
 |506=>nm [0,2,8,49,50,51] [3,10] [2,3,8,10,71]
 |_=>none
def Lo:hZ:=fun id=>match id with
 |8=>some {no:=true}
 |10=>some {bar:=true}
 |_=>none
def Lp:hZ:=fun id=>match id with
 |6=>some {no:=true}
 |13=>some {no:=true}
 |_=>none
def Lq:bA:=fun p=>match p with
 |26=>nm [0,1,7,8] [] []
 |_=>none
def Lr:bA:=fun p=>match p with
 |26=>nm [0,1,7,8] [] []
 |_=>none
def Ls:bA:=fun p=>match p with
 |26=>nm [0,5] [] []
 |_=>none
def Lt:hZ:=fun id=>match id with
 |1=>some {l:=some [0,1,2,3,4,5,6,7,8,9,10],ks:=[6]}
 |_=>none
def Lu:bA:=fun p=>match p with
 |250=>some {keep:=[5,6],kl:=[],ren:=[(5,5),(6,6),(35,35),(66,35),(73,35)]}
 |8022=>some {keep:=[5,6,37,38,39],kl:=[],ren:=[(5,5),(6,6),(35,35),(66,35),(73,35)]}
 |_=>none
def Lv:bA:=fun p=>match p with
 |58=>nm [1,6,9,10,11] [] [19]
 |_=>none
def Lw:bA:=fun p=>match p with
 |122=>nm [7,8,16,17,18] [2,10] [2,10,34]
 |_=>none
def Lx:bA:=fun p=>match p with
 |58=>nm [6,10,11,12] [2,8] [2,8,26]
 |_=>none
def Ly:bA:=fun p=>match p with
 |58=>some {keep:=[1,3,16,17,18],kl:=[],ren:=[(1,1),(14,14),(26,14),(37,14)]}
 |_=>none
def Lz:bA:=fun p=>match p with
 |26=>nm [0,1,7,8] [] []
 |_=>none
def LA:bA:=fun p=>match p with
 |122=>nm [2,8,24,25,26] [10] [10,20]
 |_=>none
def LB:bA:=fun p=>match p with
 |26=>nm [0,1,7,8] [] []
 |_=>none
def LC:bA:=fun p=>match p with
 |26=>nm [0,1,7,8] [] []
 |_=>none
def LD:bA:=fun p=>match p with
 |28=>nm [0,1,2,6,7,8] [] []
 |62=>nm [0,1,2,6] [] []
 |3988=>nm [0,1,2,6,7,8] [] []
 |_=>none
def LE:bA:=fun p=>match p with
 |6=>nm [0,1,2,3,8] [] []
 |402=>nm [0,1,2,3,8,9] [] []
 |_=>none
def LF:bA:=fun p=>match p with
 |172=>nm [0,1,4,10,11] [] []
 |428=>nm [0,2,4,14,15] [] []
 |698=>nm [0,10,13] [] []
 |1020=>nm [0,1,2,3,4,18,19,20,21,22] [] []
 |1722=>nm [0,14,17] [] []
 |_=>none
def LG:bA:=fun p=>match p with
 |58=>nm [0,3,4] [] []
 |_=>none
def LH:bA:=fun p=>match p with
 |58=>nm [0,3,7,8,9] [5] [5,36,42]
 |_=>none
def LI:bA:=fun p=>match p with
 |508=>nm [7,8] [] [30]
 |_=>none
def LJ:bA:=fun p=>match p with
 |14=>nm [0,1,3,4] [8] [3,8]
 |_=>none
def LK:bA:=fun p=>match p with
 |26=>nm [0,1,7,8] [] []
 |_=>none
def LM:bA:=fun p=>match p with
 |26=>nm [5,6,7] [] []
 |_=>none
def LN:bA:=fun p=>match p with
 |250=>nm [5,6,7,21,22,23] [9] [9,37]
 |_=>none
def LO:bA:=fun p=>match p with
 |6=>nm [0,1,2,3,8] [] []
 |402=>nm [0,1,2,3,8,9] [] []
 |_=>none
def LP:bA:=fun p=>match p with
 |172=>nm [0,1,4,10,11] [] []
 |428=>nm [0,2,4,14,15] [] []
 |698=>nm [0,10,13] [] []
 |1020=>nm [0,1,2,3,4,18,19,20,21,22] [] []
 |1722=>nm [0,14,17] [] []
 |_=>none
def LQ:bA:=fun p=>match p with
 |28=>nm [0,2,4,10,11] [] []
 |_=>none
def LR:bA:=fun p=>match p with
 |26=>nm [0,1,7,8] [] []
 |_=>none
def LS:bA:=fun p=>match p with
 |26=>nm [0,3] [] []
 |_=>none
def LT:bA:=fun p=>match p with
 |6=>nm [0,1,2,4] [] []
 |_=>none
def LU:bA:=fun p=>match p with
 |28=>nm [0,2,4,10,11] [] []
 |_=>none
def LV:bA:=fun p=>match p with
 |6=>nm [0,1,2,3,10] [] []
 |_=>none
def LW:bA:=fun p=>match p with
 |6=>nm [0,1,2,3,10] [] []
 |_=>none
def LX:bA:=fun p=>match p with
 |4060=>nm [0,1,3,4,10,11,12,13,17] [] [12,98]
 |16220=>nm [0,1,3,4,10,11,12,13,14,15,16] [] [12,98]
 |_=>none
def LY:bA:=fun p=>match p with
 |250=>nm [1,45] [6] [6,45]
 |7858=>nm [0,6,8] [45] [6,45]
 |_=>none
def LZ:bA:=fun p=>match p with
 |26=>nm [0,2,4] [] [2]
 |_=>none
def L0:bA:=fun p=>match p with
 |12=>nm [0,1] [] []
 |_=>none
def L1:bA:=fun p=>match p with
 |12=>nm [0,1] [] []
 |_=>none
def L2:bA:=fun p=>match p with
 |12=>nm [0,1] [] []
 |_=>none
def L3:bA:=fun p=>match p with
 |12=>nm [0,1] [] []
 |_=>none
def L4:bA:=fun p=>match p with
 |3770=>nm [5,6,47,48,49] [] []
 |_=>none
def L5:bA:=fun p=>match p with
 |2044=>nm [0,1,5,6,7,8,9,10] [] []
 |_=>none
def L6:bA:=fun p=>match p with
 |2044=>nm [0,1,2,3,9,10] [] [31]
 |_=>none
def L7:bA:=fun p=>match p with
 |26=>nm [0,1,5] [] []
 |_=>none
def L8:bA:=fun p=>match p with
 |65532=>nm [7,8,9] [] [9]
 |_=>none
def nA:FuncId→bA:=fun k=>match k with
 |15=>OC
 |25=>OD
 |26=>OE
 |33=>OF
 |55=>OH
 |56=>OI
 |61=>OJ
 |62=>OK
 |65=>OL
 |79=>OM
 |86=>ON
 |87=>OO
 |88=>OP
 |89=>OR
 |91=>OS
 |96=>OT
 |98=>OV
 |102=>K6
 |108=>K7
 |109=>K8
 |111=>K9
 |112=>La
 |122=>Lb
 |132=>Lc
 |136=>Ld
 |143=>Le
 |157=>Lf
 |160=>Lg
 |163=>Lh
 |164=>Li
 |173=>Lk
 |180=>Lm
 |181=>Lq
 |182=>Lr
 |188=>Ls
 |196=>Lu
 |198=>Lv
 |200=>Lw
 |203=>Lx
 |210=>Ly
 |211=>Lz
 |219=>LA
 |221=>LB
 |223=>LC
 |226=>LD
 |227=>LE
 |228=>LF
 |252=>LG
 |259=>LH
 |260=>LI
 |268=>LJ
 |275=>LK
 |277=>LM
 |280=>LN
 |281=>LO
 |282=>LP
 |283=>LQ
 |294=>LR
 |302=>LS
 |308=>LT
 |321=>LX
 |330=>LU
 |331=>LV
 |354=>LW
 |183=>LY
 |190=>L6
 |245=>LZ
 |257=>L5
 |266=>L8
 |309=>L0
 |310=>L1
 |311=>L2
 |312=>L3
 |315=>L4
 |351=>L7
 |_=>N0
def listA:List FuncId:=[15,17,18,19,20,21,25,26,32,33,41,43,45,53,55,56,59,61,62,65,66,69,70,77,78,79,86,87,88,89,90,91,92,93,94,96,97,98,99,100,101,102,103,108,109,110,111,112,113,114,115,116,117,118,119,120,121,122,127,130,132,133,134,135,136,137,139,140,143,146,147,153,154,155,156,157,158,159,160,161,162,163,164,165,166,167,168,169,170,171,172,173,174,175,176,177,178,179,180,181,182,183,184,188,189,190,194,195,196,197,198,199,200,201,202,203,204,205,207,208,209,210,211,212,214,217,218,219,221,222,223,224,225,226,227,228,230,231,232,233,234,235,236,237,238,239,240,241,242,243,244,245,246,251,252,255,257,258,259,260,261,262,264,265,266,268,269,272,275,276,277,278,279,280,281,282,283,284,285,286,287,288,289,290,291,292,293,294,295,296,302,308,309,310,311,312,315,318,321,322,324,325,329,330,331,332,333,337,348,349,350,351,354,355,361,364]
def AR:FuncId→Option hZ:=fun k=>match listA.contains k with
 |false=>none
 |true=>some (match k with
  |33=>OA
  |43=>OG
  |53=>OB
  |174=>G3
  |175=>K5
  |176=>G3
  |88=>OQ
  |96=>OU
  |127=>Lo
  |168=>Lj
  |178=>Ll
  |180=>Lp
  |195=>Lt
  |_=>O0)
noncomputable def cv(call:CL)(L:Nat)(C:Nat→Nat):TE:={E:={P:=Tryz.prog,gl:=je,call:=call,L:=L},cst:=fun _ _=>none,C:=C}
noncomputable def L9(call:CL)(L:Nat)(C:Nat→Nat)(l:Nat):TE:={cv call L C with it:=some l}
end Go.Pd
end
