import Derived.Test.YtmhbhlbnlmbhlaaGreatDoorCrB
import Derived.Test.YtmhbhlbnlmbhlaaGreatDoorPdFd
import Derived.KernelRfl
import Derived.Test.YtmhbhlbnlmbhlaaGreatDoorCrA
import Derived.Test.YtmhbhlbnlmbhlaaGreatDoorPdFf
section
namespace Go.Pd
open Go Go.Proofs Go.RowKit
def TV:bY:=fun p=>match p with
 |122=>nm [9,26,27,28] [3,4,5,11] [3,4,5,11,43]
 |_=>none
def TW:bY:=fun p=>match p with
 |58=>nm [7,8,9] [4,5,6,12] [4,5,6,7,8,9,12]
 |_=>none
def TX:bY:=fun p=>match p with
 |122=>nm [2,3,4,5,8,11,12,13] [15] [4,5,8,11,15]
 |7826=>nm [2,3,4,5,8,11,12,13,14] [15] [4,5,8,11,15]
 |_=>none
def TY:bY:=fun p=>match p with
 |122=>nm [0,1,2,9,33,34,35] [11,18,62,109] [11,18,32,62,109]
 |2042=>nm [0,1,13,14,63,64] [11,18,32] [11,18,32,62,109]
 |1045706=>nm [0,1,13,14,15,63,64,67,68] [11,18,32] [11,18,32,62,109]
 |2091418=>nm [0,1,13,14,15,63,64,82,83,84] [11,18,32] [11,18,32,62,109]
 |_=>none
def TZ:bY:=fun p=>match p with
 |122=>nm [5] [7] [5,7]
 |_=>none
def T3:bY:=fun p=>match p with
 |250=>nm [2,4,9,10,34,35,36] [] [4]
 |_=>none
def T4:bY:=fun p=>match p with
 |26=>nm [5,6,7] [] []
 |_=>none
def T5:bY:=fun p=>match p with
 |26=>nm [1,2,10,11] [9] [2,9]
 |6758=>nm [1,2,7,10,11,15,16,17] [9] [2,9]
 |_=>none
def T6:bY:=fun p=>match p with
 |58=>nm [3,4,5] [7] [3,4,5,7]
 |_=>none
def T7:bY:=fun p=>match p with
 |26=>nm [0,6] [] [6]
 |_=>none
def T8:bY:=fun p=>match p with
 |122=>nm [3,4,5,9,39,40,41] [11,13,14,17,18,120] [3,4,5,9,11,13,14,17,18,55,120]
 |4090=>nm [3,4,9,14,15,16] [5,11,13,17,18] [3,4,5,9,11,13,14,17,18,55,120]
 |31334=>nm [3,4,5,9,39,40,41] [11,13,14,17,18,120] [3,4,5,9,11,13,14,17,18,55,120]
 |_=>none
def T9:fX:=fun id=>match id with
 |19=>some {l:=some [0,1,2,3,4,5,6,7,8,9,10,11,12,13],ks:=[17]}
 |20=>some {l:=some [0,1,2,3,4,5,6,7,8,9,10,11,12,13,14,15,16,17,18,19,20],ks:=[18]}
 |_=>none
def P0:bY:=fun p=>match p with
 |218=>nm [1,2,3] [4,5,7] [1,2,3,4,5,7]
 |6998=>nm [1,2,3,4,5] [7] [1,2,3,4,5,7]
 |_=>none
def P1:bY:=fun p=>match p with
 |58=>nm [0,21,22,23] [7] [7]
 |_=>none
def P2:bY:=fun p=>match p with
 |58=>nm [2,4,5,26,27,28] [3,7] [2,3,4,5,7,42]
 |_=>none
def P3:fX:=fun id=>match id with
 |1=>some {l:=some [0,1,2,3,4,5,6,7,8,9,10,11,12,13,14,15,16,17,18],ks:=[5]}
 |_=>none
def P4:bY:=fun p=>match p with
 |26=>nm [2,3,4,5] [] [2,3]
 |_=>none
def P5:bY:=fun p=>match p with
 |26=>nm [0,1,7,8] [] []
 |_=>none
def P6:bY:=fun p=>match p with
 |506=>nm [4,7,12,67,68,69] [3,5,8,10,11,14,15] [3,4,5,7,8,10,11,14,15,89]
 |_=>none
def P7:fX:=fun id=>match id with
 |1=>some {l:=some [0,1,2,3,4,5,6,7,8,9,10,11],ks:=[7,8]}
 |4=>some {l:=some [0,1,2,3,4,5,6,7,8,9,10,11],ks:=[10]}
 |5=>some {l:=some [0,1,2,3,4,5,6,7,8,9,10,11],ks:=[11]}
 |15=>some {l:=some [0,1,2,3,4,5,6,7,8,9,10,11,12],ks:=[15]}
 |_=>none
def P8:bY:=fun p=>match p with
 |58=>nm [3,4,5] [7] [3,4,5,7]
 |_=>none
def P9:bY:=fun p=>match p with
 |58=>nm [1,2,7,11,12,13] [9] [9,46]
 |_=>none
def Qa:bY:=fun p=>match p with
 |252=>nm [3,4,5,6] [1,10] [1,10,52]
 |4090=>nm [6,10,11] [1] [1,10,52]
 |_=>none
def Qb:bY:=fun p=>match p with
 |26=>nm [0,1,7,8] [] []
 |_=>none
def Qc:bY:=fun p=>match p with
 |6=>nm [0,1,5,6,7] [4] [4]
 |_=>none
def Qd:bY:=fun p=>match p with
 |58=>nm [2,5,8,9,10] [7] [2,7,20]
 |_=>none
def Qe:bY:=fun p=>match p with
 |26=>nm [0,1,7,8] [] []
 |_=>none
def Qf:fX:=fun id=>match id with
 |2=>some {l:=some [0,1,2,3,4,5,6,7,8,9,10,11,12],ks:=[6]}
 |_=>none
def Qg:bY:=fun p=>match p with
 |28=>nm [2,3,4] [5,6] [2,3,4,5,6]
 |_=>none
def Qh:bY:=fun p=>match p with
 |250=>nm [0,1,4,5,6,7,16,17] [9] [9,13,14,74]
 |506=>nm [1,5,6,7,57,58] [9,13] [9,13,14,74]
 |1018=>nm [1,5,6,7,11] [9,13] [9,13,14,74]
 |128202=>nm [0,1,4,5,6,7,16,17,19,20,21] [9] [9,13,14,74]
 |_=>none
def FT:bY:=fun p=>match p with
 |58=>nm [0,1,5] [] []
 |59690=>nm [0,1,5,6,7] [] []
 |_=>none
def FU:bY:=fun p=>match p with
 |14=>nm [0,1,2,3,4,10,11] [] []
 |_=>none
def FV:bY:=fun p=>match p with
 |6=>nm [0,1,2,3,8] [] []
 |402=>nm [0,1,2,3,8,9] [] []
 |_=>none
def Qi:bY:=fun p=>match p with
 |6=>nm [0,1,3] [] []
 |_=>none
def Ua:bY:=fun p=>match p with
 |58=>nm [0,1,5] [] []
 |_=>none
def Ub:bY:=fun p=>match p with
 |122=>nm [5,6,24,25,26] [1,8] [1,6,8,24]
 |_=>none
def Uc:fX:=fun id=>match id with
 |4=>some {l:=some [0,1,2,3,4],ks:=[6]}
 |_=>none
def Qj:bY:=fun p=>match p with
 |7=>nm [2,3,4] [5] [2,3,4,5]
 |_=>none
def Qk:bY:=fun p=>match p with
 |7=>nm [2,3,4] [] [2,3,4]
 |13=>nm [2,3,4,18] [] [2,3,4]
 |107=>nm [2,3,4,6,34] [] [2,3,4]
 |_=>none
def Ql:bY:=fun p=>match p with
 |13=>nm [2,3,12] [] [2,3]
 |_=>none
def Qm:bY:=fun p=>match p with
 |7=>nm [2,3,4] [] [2,3,4]
 |13=>nm [2,3,4,17] [] [2,3,4]
 |_=>none
def Qn:bY:=fun p=>match p with
 |7=>nm [2,3,4,5] [14,15] [2,3,4,5,14,15]
 |13=>nm [2,3,4,5,28] [14,15] [2,3,4,5,14,15]
 |_=>none
def Qo:fX:=fun id=>match id with
 |12=>some {fs:=[(4,4),(5,5),(14,14),(15,15)]}
 |_=>none
def Qp:fX:=fun id=>match id with
 |4=>some {fs:=[(2,2),(3,3),(6,6)]}
 |_=>none
def Ud:bY:=fun p=>match p with
 |122=>nm [0,4,5] [] []
 |_=>none
def Ue:bY:=fun p=>match p with
 |15=>nm [0,3] [39] [3,39]
 |62=>nm [0,3,8] [39] [3,39]
 |_=>none
def Uf:fX:=fun id=>match id with
 |7=>some {bar:=true,ks:=[39]}
 |_=>none
def nA:FuncId→bY:=fun k=>match k with
 |20=>Ub
 |26=>TV
 |27=>TW
 |34=>TX
 |36=>TY
 |37=>Ue
 |42=>Ua
 |52=>TZ
 |60=>T3
 |76=>T4
 |78=>T5
 |80=>T6
 |82=>Ud
 |85=>T7
 |91=>T8
 |107=>P0
 |113=>P1
 |114=>Qh
 |117=>P2
 |118=>P4
 |142=>P5
 |145=>P6
 |148=>FT
 |154=>P8
 |155=>P9
 |159=>Qa
 |160=>Qi
 |172=>Qb
 |176=>Qc
 |178=>Qd
 |191=>Qe
 |194=>Qj
 |196=>FU
 |198=>Qk
 |199=>Ql
 |200=>Qm
 |236=>Qg
 |238=>FV
 |287=>Qn
 |_=>N0
def listA:List FuncId:=[17,19,20,26,27,34,36,37,42,45,50,52,58,60,64,74,76,77,78,79,80,82,83,84,85,86,87,88,91,92,93,94,100,101,102,107,108,109,110,113,115,117,118,135,136,137,138,139,140,141,142,143,144,145,146,147,148,149,150,151,152,153,154,155,156,157,158,159,160,172,174,175,176,178,191,192,193,194,195,196,197,198,199,200,201,202,203,234,235,236,237,238,246,247,248,249,250,256,257,264,286,287,295]
def sP:FuncId→Option fX:=fun k=>match listA.contains k with
 |false=>none
 |true=>some (match k with
  |20=>Uc
  |37=>Uf
  |91=>T9
  |117=>P3
  |145=>P7
  |202=>Qf
  |236=>Qp
  |287=>Qo
  |_=>O0)
def MK:List D→Option D
 |[.int .u64 x,.int .u64 y]=>match decide ((0≤x∧x<18446744073709551616)∧(0≤y∧y<18446744073709551616)) with
  |true=>some (.tup [.int .u64 (x*y/18446744073709551616),.int .u64 (x*y%18446744073709551616)])
  |false=>none
 |_=>none
theorem Jj:∀ds d,MK ds=some d→OK2 248 ds d:=by
 intro ds d hd;unfold MK at hd;split at hd
 ·rename_i x y;split at hd
  ·rename_i hc;simp only[zc7] at hc;obtain⟨⟨x0,x1⟩,y0,y1⟩:=hc;cases hd;obtain⟨x,rfl⟩:=Int.eq_ofNat_of_zero_le x0;obtain⟨y,rfl⟩:=Int.eq_ofNat_of_zero_le y0;exact PX x y (by omega) (by omega)
  ·cases hd
 ·cases hd
def FW(n:Nat):List UInt8:=match decide (n<10) with
 |true=>[(48+n).toUInt8]
 |false=>[(48+n/10).toUInt8,(48+n%10).toUInt8]
theorem FX:∀i,i<100→Go.Lib.decDigits i=FW i:=by
 have:(List.range 100).all (fun i=>Go.Lib.decDigits i==FW i)=true:=by kernel_rfl
 intro i hi;have:=zd9.1 this i (by simpa using hi);simpa using this
def FY:List D→Option D
 |[.int .i64 n]=>match decide (0≤n∧n<100) with
  |true=>some (.str ⟨(FW n.toNat).toArray⟩)
  |false=>none
 |_=>none
theorem Jk:∀ds r,FY ds=some r→OK2 125 ds r:=by
 intro ds r h;unfold FY at h;split at h
 ·rename_i n;split at h
  ·rename_i hn;simp only[zc7] at hn;cases h;refine⟨enters_of Tryz.func125 (by kernel_rfl) rfl,fun I w vs hI hgl hl hr=> ?_⟩;obtain⟨l⟩:=vs
   match l,hl with
   |[v],_=>
    have hv:=rK (hr 0 _ v rfl rfl);subst hv;have:=Tryz.strconv_Itoa_small n.toNat (by omega) w;rw[FX _ (by omega),show((n.toNat:Nat):Int)=n by omega] at this;refine this.mono ?_
    rintro e w' ⟨rfl,rfl⟩
    exact⟨_,rfl,.str _,.refl _ _⟩
  ·cases h
 ·cases h
def X0:S8:=fun k=>match k with
 |125=>some (fun _=>FY)
 |248=>some (fun _=>MK)
 |_=>none
theorem LD:∀f g,X0 f=some g→∀call:FuncId→List D→Option D,(∀k ds r,call k ds=some r→CallOK Tryz.prog ig k ds r)→∀ds r,g call ds=some r→CallOK Tryz.prog ig f ds r:=by
 intro f g h call _ ds r hr;unfold X0 at h;split at h
 ·cases h;exact Jk ds r hr
 ·cases h;exact Jj ds r hr
 ·cases h
def sQ(P:Program)(od:Nat→Option fX):List Nat→Bool
 |[]=>true
 |f::l=>match od f,P.funcs[f]? with
  |some o,some fn=>(match eh P o fn with
   |true=>sQ P od l
   |false=>false)
  |_,_=>sQ P od l
theorem iT{P:Program}{od:Nat→Option fX}:∀(l:List Nat),sQ P od l=true→∀f∈l,∀o fn,od f=some o→P.funcs[f]?=some fn→eh P o fn=true
 |[],_,f,hf,_,_,_,_=>by cases hf
 |g::l,h,f,hf,o,fn,ho,hfn=>by
  unfold sQ at h;rcases List.mem_cons.1 hf with rfl|hf
  ·rw[ho,hfn] at h;dsimp only at h;split at h
   ·assumption
   ·cases h
  ·split at h
   ·split at h
    ·exact iT l h f hf o fn ho hfn
    ·cases h
   ·exact iT l h f hf o fn ho hfn
end Go.Pd
end
section
namespace Go.Pd
open Go Go.Proofs Go.RowKit
set_option maxRecDepth 100000
def lV(l:List (Int×Int)):List D:=l.flatMap fun x=>[.int .i64 x.1,.nils,.int .i64 x.2,.nils]
def Ey:List (Int×Int):=[(0,1),(1,1),(9,10),(1,10),(9,10),(1,2),(2,5)]
def xm:List (Int×Int):=[(0,1),(1,10),(2,5),(1,2),(9,10),(9,10),(1,1)]
def Qq:List (Int×Int):=[(0,1),(1,10),(2,5),(1,2),(9,10),(1,1)]
def unL:List D→Option (List (Int×Int))
 |[]=>some []
 | .int .i64 a:: .nils:: .int .i64 b:: .nils::r=>(match unL r with
  |some l=>some ((a,b)::l)
  |none=>none)
 |_=>none
theorem ML:∀(cs:List D) (l:List (Int×Int)),unL cs=some l→cs=lV l:=by
 intro cs
 induction cs using unL.induct with
 |case1=>intro l h;cases h;rfl
 |case2 a b r l' hl ih=>
  intro l h;simp only[unL,hl] at h;cases h;rw[ih l' hl];rfl
 |case3 a b r hl ih=>intro l h;simp only[unL,hl] at h;cases h
 |case4 cs h1 h2=>intro l h;unfold unL at h;split at h<;>first|exact absurd rfl h1|(exact absurd rfl (h2 _ _ _))|cases h
def Ez(k:FuncId)(n0:Nat)(l0:List (Int×Int))(q:List D→Bool)(m:Nat)(l1:List (Int×Int)):FuncId→List D→Option D:=fun k' ds=>match k'==k,ds with
 |true,.slc false n cs::rest=>(match unL cs with
  |some l=>(match(l==l0)&&((n==n0)&&q rest) with
   |true=>some (.slc false m (lV l1))
   |false=>none)
  |none=>none)
 |_,_=>none
theorem rL{k:FuncId}{n0:Nat}{l0:List (Int×Int)}{q:List D→Bool}{m:Nat}{l1:List (Int×Int)}{rest0:List D}(hq:∀r,q r=true→r=rest0)(h:Db Tryz.prog ig k (lV l0) n0 rest0 (lV l1) (match jA k with|true=>some m|false=>none)):lG jA (Ez k n0 l0 q m l1):=by
 intro k' cs len rest f m' cs' he;unfold Ez at he;split at he
 ·rename_i hk hd;split at he
  ·rename_i l hl;split at he
   ·rename_i hc;simp only[zc4,ze8] at hc hk;obtain⟨c1,c2,c3⟩:=hc;cases hd;cases he;rw[ML _ _ hl,c1,hq _ c3,hk,c2];exact h
   ·cases he
  ·cases he
 ·cases he
def MM(l:List FuncId):FuncId→Option fX:=fun k=>match l.contains k with
 |true=>sP k
 |false=>none
theorem FZ{l:List FuncId}:∀f od,MM l f=some od→f∈l∧sP f=some od:=by
 intro f od h;unfold MM at h;split at h
 ·rename_i hc;exact⟨by simpa using hc,h⟩
 ·cases h
def LE:List FuncId:=[147,149,158,192,193,194,197,198,199,200,234,235,246,247,249]
noncomputable def vJ:FuncId→List D→Option D:=fun k ds=>match[147,149,197].contains k with
 |true=>Pe Tryz.prog ig X0 (MM LE) (fun _=>none) LL 10 k ds
 |false=>none
theorem V2:sQ Tryz.prog sP LE=true:=by kernel_rfl
theorem MN{l:List FuncId}(h:sQ Tryz.prog sP l=true){P:FuncId→Option fX}(hP:∀f od,P f=some od→f∈l∧sP f=some od){n:Nat}{f:FuncId}{ds:List D}{r:D}(he:Pe Tryz.prog ig X0 P (fun _=>none) LL n f ds=some r):OK2 f ds r:=
 Id gd LD (fun _ _ h=>by cases h) (fun _ _ _ h=>by cases h) (fun f od fn _ ho hf=>iT l h f (hP f od ho).1 od fn (hP f od ho).2 hf) n f ds r he
theorem om:dA vJ:=by
 intro k ds r h;unfold vJ at h;split at h
 ·exact MN V2 FZ h
 ·cases h
def EA:D:= .fn (.func 147) [] []
def LF:D:= .fn (.func 149) [] []
def F1(e:TypeId)(n len m:Nat)(cs:List D):Option D:=bH (decide (e=e)) (bH (decide (n=n)) (bH (decide (cs.length=len*n)) (bH (cs.all D.plain) (some (.slc false m cs)))))
theorem Ug(e n:Nat):qy (PB (bw vJ) yW LL C1 e n) O0 FV e n Tryz.f238 7 (lV Ey) [.int .i64 0,.int .i64 7,EA]=F1 e n 7 7 (lV xm):=by kernel_rfl
theorem p6{e n len m:Nat}{cs:List D}(h:cs.length=len*n)(hp:cs.all D.plain=true):F1 e n len m cs=some (.slc false m cs):=by
 unfold F1;rw[show decide (e=e)=true by simp,show decide (n=n)=true by simp,show decide (cs.length=len*n)=true by simpa using h,hp];rfl
def VT:FuncId→List D→Option D:=Ez 238 7 Ey (fun r=>match r with
 |[.int .i64 0,.int .i64 7,.fn (.func 147) [] []]=>true
 |_=>false) 7 xm
theorem BM{a b:List (Int×Int)}(h:a.length=b.length):(lV a).length=(lV b).length:=by
 have:∀l:List (Int×Int),(lV l).length=l.length*4:=fun l=>by
  induction l with
  |nil=>rfl
  |cons x l ih=>
   show(_::_::_::_::lV l).length=_;simp only[za7,ih];omega
 rw[this,this,h]
theorem Qr:eh Tryz.prog O0 Tryz.f238=true:=by kernel_rfl
theorem MO:lG jA VT:=rL (rest0:=[.int .i64 0,.int .i64 7,EA]) (fun r hr=>by
  split at hr
  ·rfl
  ·cases hr) (TT om kU Tryz.func238 (ord:=O0) (N:=FV) Qr (by kernel_rfl) fun e n h=>by
   rw[Ug];exact p6 ((BM (by rfl)).trans h) (by rfl))
theorem Uh(e n:Nat):qy (PB (bw vJ) VT LL C1 e n) O0 FU e n Tryz.f196 7 (lV Ey) [.int .i64 0,.int .i64 7,.int .i64 3,EA]=F1 e n 7 7 (lV xm):=by kernel_rfl
def VU:FuncId→List D→Option D:=Ez 196 7 Ey (fun r=>match r with
 |[.int .i64 0,.int .i64 7,.int .i64 3,.fn (.func 147) [] []]=>true
 |_=>false) 7 xm
theorem Qs:eh Tryz.prog O0 Tryz.f196=true:=by kernel_rfl
theorem MP:lG jA VU:=rL (rest0:=[.int .i64 0,.int .i64 7,.int .i64 3,EA]) (fun r hr=>by
  split at hr
  ·rfl
  ·cases hr) (TT om MO Tryz.func196 (ord:=O0) (N:=FU) Qs (by kernel_rfl) fun e n h=>by
   rw[Uh];exact p6 ((BM (by rfl)).trans h) (by rfl))
theorem Ui(e n:Nat):qy (PB (bw vJ) VU LL C1 e n) O0 N0 e n Tryz.f146 7 (lV Ey) [EA]=F1 e n 7 7 (lV xm):=by kernel_rfl
def VV:FuncId→List D→Option D:=Ez 146 7 Ey (fun r=>match r with
 |[.fn (.func 147) [] []]=>true
 |_=>false) 7 xm
theorem MQ:lG jA VV:=rL (rest0:=[EA]) (fun r hr=>by
  split at hr
  ·rfl
  ·cases hr) (TT om MP Tryz.func146 (ord:=O0) (N:=N0) (by kernel_rfl) (by kernel_rfl) fun e n h=>by
   rw[Ui];exact p6 ((BM (by rfl)).trans h) (by rfl))
def Qt(e n len len0 m:Nat)(cs:List D):Option D:=bH (decide (e=e)) (bH (decide (n=n)) (bH (decide (0<m)) (bH (decide (m≤len0)) (bH (decide (cs.length=len*n)) (bH (cs.all D.plain) (some (.slc false m (cs.take (m*n)))))))))
def Uj:List D:=lV Qq++[.int .i64 0,.nils,.int .i64 0,.nils]
theorem Uk(e n:Nat):yB (PB (bw vJ) yW LL C1 e n) O0 FT e n Tryz.f148 7 (lV xm) [LF]=Qt e n 7 7 6 Uj:=by kernel_rfl
end Go.Pd
end
section
namespace Go.Pd
open Go Go.Proofs
set_option maxRecDepth 100000
def MR:bY:=fun p=>match p with
 |6=>nm [0,1,3] [] []
 |_=>none
noncomputable def xn(call:CL)(L:Nat)(C:Nat→Nat)(l n:Nat)(K:Bool)(M:Nat)(z:List D)(q:Int):Option (List (List D)):=
 Ep (LC call L C l) O0 MR FinM.raw Tryz.f160 [true,false] [] n (St.mk (D.fn (Fn.yield l) [] []::D.snap [D.slc K M z] 0::J::D.int .i64 q::jn 15 []) (zn 19 []))
theorem vK(call:CL)(L:Nat)(C:Nat→Nat)(l n:Nat)(K:Bool)(J:Nat)(z:List D)(q:Int):xn call L C l (n+1) K J z q=
 (bz (decide (q≥0))
 (bH (decide (0≤q∧q<(J:Int)))
 (bu z (Int.toNat q*9+0) fun d=>bD .i64 d fun x=>bu z (Int.toNat q*9+1) fun M=>bB (uM M) fun _=>bu z (Int.toNat q*9+2) fun O=>bD .i64 O fun Z=>bu z (Int.toNat q*9+3) fun S=>bB (uM S) fun _=>bu z (Int.toNat q*9+4) fun U=>bD .i64 U fun a0=>bu z (Int.toNat q*9+5) fun V=>bB (uM V) fun _=>bu z (Int.toNat q*9+6) fun W=>bD .i64 W fun a1=>bu z (Int.toNat q*9+7) fun X=>bB (uM X) fun _=>bu z (Int.toNat q*9+8) fun Y=>bU Y fun s=>bH (decide (l=l))
 (qW [D.int .i64 q,D.agg [D.int .i64 x,D.nils,D.int .i64 Z,D.nils,D.int .i64 a0,D.nils,D.int .i64 a1,D.nils,D.str s]]
 (xn call L C l n K J z (IntKind.wrap .i64 (q-1)))
 (some []))))
 (some [])):=by kernel_rfl
theorem Jl(call:CL)(L:Nat)(C:Nat→Nat)(l:Nat)(J:Bool)(q:Nat)(z:List D):lk (fG (LC call L C l) O0 MR (uQ Tryz.f160) 1 (cx Tryz.f160 [D.fn (Fn.yield l) [] [],D.snap [D.slc J q z] 0]) (jz (LC call L C l).E FinM.raw Tryz.f160))=
 (xn call L C l L J q z (IntKind.wrap .i64 ((q:Int)-1))):=by kernel_rfl
end Go.Pd
end
section
namespace Go.Pd
open Go Go.Proofs Go.RowKit
set_option maxRecDepth 100000
theorem Um{base mu:FuncId→List D→Option D}(hb:dA base)(hm:lG jA mu){f:FuncId}{fn:Func}(hf:Tryz.prog.funcs[f]?=some fn){ord:fX}{N:bY}(hok:eh Tryz.prog ord fn=true)(h0:qD fn=true){cs rest cs':List D}{len m:Nat}
  (he:∀e n,cs.length=len*n→yB (PB (bw base) mu LL C1 e n) ord N e n fn len cs rest=some (.slc false m cs')):Db Tryz.prog ig f cs len rest cs' (some m):=
 FC (Te:=PR (bw base) mu LL C1) gd ⟨yk (gW hb),kS hm,kT,fun _ _ hi=>nomatch hi⟩ eP rfl iA hf hok h0 he
theorem Qu:eh Tryz.prog O0 Tryz.f148=true:=by kernel_rfl
def VW:FuncId→List D→Option D:=Ez 148 7 xm (fun r=>match r with
 |[.fn (.func 149) [] []]=>true
 |_=>false) 6 Qq
theorem Jm:(lV xm).length=28:=by rfl
theorem MS:lG jA VW:=rL (rest0:=[LF]) (fun r hr=>by
  split at hr
  ·rfl
  ·cases hr) (Um om kU Tryz.func148 (ord:=O0) (N:=FT) Qu (by kernel_rfl) fun e n h=>by
   rw[Jm] at h;have hn:n=4:=by omega
   subst hn;rw[Uk];unfold Qt;rw[show decide (e=e)=true by simp];rfl)
def Tv:FuncId→List D→Option D:=fun k ds=>match k with
 |146=>VV 146 ds
 |148=>VW 148 ds
 |_=>none
theorem F2:lG jA Tv:=by
 intro k cs len rest f m cs' h;unfold Tv at h;split at h
 ·exact MQ _ cs len rest f m cs' h
 ·exact MS _ cs len rest f m cs' h
 ·cases h
def xo(c:List D):Nat→Option (List (List D))
 |0=>some []
 |k+1=>bu c (k*9+0) fun d=>bD .i64 d fun x=>bu c (k*9+1) fun d1=>bB (uM d1) fun _=>bu c (k*9+2) fun d2=>bD .i64 d2 fun x1=>bu c (k*9+3) fun d3=>bB (uM d3) fun _=>
   bu c (k*9+4) fun d4=>bD .i64 d4 fun x2=>bu c (k*9+5) fun d5=>bB (uM d5) fun _=>bu c (k*9+6) fun d6=>bD .i64 d6 fun x3=>bu c (k*9+7) fun d7=>bB (uM d7) fun _=>bu c (k*9+8) fun d8=>bU d8 fun s=>
    qW [.int .i64 k,.agg [.int .i64 x,.nils,.int .i64 x1,.nils,.int .i64 x2,.nils,.int .i64 x3,.nils,.str s]] (xo c k) (some [])
theorem Dl(l:Nat)(f:Bool)(n:Nat)(c:List D)(hn:n<4611686018427387904):∀(k fuel:Nat),k≤n→k<fuel→xn (bw fun _ _=>none) LL C1 l fuel f n c ((k:Int)-1)=xo c k
 |0,fuel+1,_,_=>by
  rw[vK];rfl
 |k+1,fuel+1,hk,hf=>by
  have ih:=Dl l f n c hn k fuel (by omega) (by omega);have e0:((k+1:Nat):Int)-1=(k:Int):=by omega
  have e1:decide ((k:Int)≥0)=true:=by simp
  have e2:decide ((0:Int)≤(k:Int)∧(k:Int)<n)=true:=by simp;omega
  have e3:IntKind.wrap .i64 ((k:Int)-1)=(k:Int)-1:=bS (by omega);rw[vK,e0,e1,bx,e2,bC,e3,ih];simp only[xo,za3,bC,decide_true]
def Qv:FuncId→List D→Option (List (List D)):=fun g cs=>match g,cs with
 |160,[.snap [.slc _ n c] 0]=>bH (decide (n<4611686018427387904)) (xo c n)
 |g,cs=>IQ g cs
theorem BN:TS Qv:=by
 intro g cs ys h;unfold Qv at h;split at h
 ·rename_i f n c;obtain⟨hn,h⟩:=Bz h;simp only[zc7] at hn;refine PW Tryz.func160 (ord:=O0) (N:=MR) (by kernel_rfl) rfl rfl fun l=> ?_;refine(Jl _ _ _ l f n c).trans ?_;rw[show IntKind.wrap .i64 ((n:Int)-1)=(n:Int)-1 from bS (by omega)];exact(Dl l f n c hn n LL (zb0 _) (by unfold LL;omega)).trans h
 ·exact iA _ _ _ h
def MT:FuncId→Bool:=fun k=>[92,144,147,149,150,151,152,154,156,157,158,159,192,193,194,195,198,199,200,201,202,203,234,235,236,237,256,257,286,287,295].contains k
def vj(f:D→D→Bool):List D→List D→Bool
 |[],[]=>true
 |x::xs,y::ys=>(match f x y with
  |true=>vj f xs ys
  |false=>false)
 |_,_=>false
def xp:Nat→D→D→Bool
 |0,_,_=>false
 |n+1,a,b=>match a,b with
  | .int k x,.int k' y=>decide (k=k')&&decide (x=y)
  | .str x,.str y=>x.data.toList==y.data.toList
  | .bool x,.bool y=>x==y
  | .nils,.nils=>true
  | .slc f n1 cs,.slc f' n1' cs'=>(f==f')&&(decide (n1=n1')&&vj (xp n) cs cs')
  | .agg cs,.agg cs'=>vj (xp n) cs cs'
  | .snap cs o,.snap cs' o'=>decide (o=o')&&vj (xp n) cs cs'
  | .fn (.func g) x y,.fn (.func g') x' y'=>decide (g=g')&&(vj (xp n) x x'&&vj (xp n) y y')
  |_,_=>false
theorem rM{f:D→D→Bool}(hf:∀a b,f a b=true→a=b):∀xs ys,vj f xs ys=true→xs=ys
 |[],[],_=>rfl
 |x::xs,y::ys,h=>by
  simp only[vj] at h;split at h
  ·rename_i hx;rw[hf _ _ hx,rM hf xs ys h]
  ·cases h
 |[],_::_,h=>by cases h
 |_::_,[],h=>by cases h
theorem xq:∀(n:Nat) (a b:D),xp n a b=true→a=b
 |0,_,_,h=>by cases h
 |n+1,a,b,h=>by
  have ih:=rM (xq n);unfold xp at h;split at h
  ·simp only[zc4,zc7] at h;rw[h.1,h.2]
  ·rename_i x y;have h2:x.data=y.data:=by
    have:=eq_of_beq h;rw[←Array.toArray_toList (xs:=x.data),this]
   rw[ByteArray.ext h2]
  ·rw[eq_of_beq h]
  ·rfl
  ·simp only[zc4,zc7,ze8] at h;rw[h.1,h.2.1,ih _ _ h.2.2]
  ·rw[ih _ _ h]
  ·simp only[zc4,zc7] at h;rw[h.1,ih _ _ h.2]
  ·simp only[zc4,zc7] at h;rw[h.1,ih _ _ h.2.1,ih _ _ h.2.2]
  ·cases h
abbrev sR:=FuncId×List D×D
def EB:List sR→FuncId→List D→Option D
 |[],_,_=>none
 |e::l,k,ds=>match decide (e.1=k) with
  |true=>(match vj (xp 8) e.2.1 ds with
   |true=>some e.2.2
   |false=>EB l k ds)
  |false=>EB l k ds
theorem xr:∀{l:List sR},(∀e∈l,OK2 e.1 e.2.1 e.2.2)→dA (EB l)
 |[],_=>fun _ _ _ h=>by cases h
 |e::l,hl=>fun k ds r h=>by
  have ih:=xr fun e he=>hl e (za5 _ he);simp only[EB] at h;split at h
  ·rename_i hk;simp only[zc7] at hk;split at h
   ·rename_i hd;cases h;rw[←hk,←rM (xq 8) _ _ hd];exact hl e (za4 ..)
   ·exact ih k ds r h
  ·exact ih k ds r h
def X1(l:List sR):S8:=fun k=>match l.any fun e=>decide (e.1=k) with
 |true=>some (fun _=>EB l k)
 |false=>X0 k
theorem F3{l:List sR}(hl:∀e∈l,OK2 e.1 e.2.1 e.2.2):∀f g,X1 l f=some g→∀call:FuncId→List D→Option D,(∀k ds r,call k ds=some r→CallOK Tryz.prog ig k ds r)→∀ds r,g call ds=some r→CallOK Tryz.prog ig f ds r:=by
 intro f g h call hc ds r hr;unfold X1 at h;split at h
 ·cases h;exact xr hl f ds r hr
 ·exact LD f g h call hc ds r hr
noncomputable def RB(l:List sR):Run:={P:=Tryz.prog,gl:=ig,X:=X1 l,ord:=sP,N:=nA,K:=MT,cst:=ja,sq:=Qv,M:=IR Tv,L:=LL,C:=C1}
def fq:D:= .agg [S [111,110,101],.int .i64 0,.int .i64 0,.int .i64 100,.int .i64 0,.slc true 0 [],.slc true 4 [
 S [114,111,117,103,104],.slc true 4 [.int .i64 (-10),.int .i64 (-20),.int .i64 120,.int .i64 (-20),.int .i64 120,.int .i64 20,.int .i64 (-10),.int .i64 20],
 S [102,97,105,114,119,97,121],.slc true 4 [.int .i64 10,.int .i64 (-10),.int .i64 90,.int .i64 (-10),.int .i64 90,.int .i64 10,.int .i64 10,.int .i64 10],
 S [103,114,101,101,110],.slc true 4 [.int .i64 90,.int .i64 (-5),.int .i64 110,.int .i64 (-5),.int .i64 110,.int .i64 5,.int .i64 90,.int .i64 5],
 S [119,97,116,101,114],.slc true 4 [.int .i64 40,.int .i64 (-20),.int .i64 50,.int .i64 (-20),.int .i64 50,.int .i64 20,.int .i64 40,.int .i64 20]]]
def pl(a b:Int):D:= .agg [.int .i64 a,.int .i64 b]
end Go.Pd
end
