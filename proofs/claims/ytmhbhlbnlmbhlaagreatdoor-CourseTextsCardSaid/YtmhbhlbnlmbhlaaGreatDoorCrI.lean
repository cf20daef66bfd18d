import Derived.Test.YtmhbhlbnlmbhlaaGreatDoorCrH
import Derived.Test.YtmhbhlbnlmbhlaaGreatDoorCrF
import Derived.Test.YtmhbhlbnlmbhlaaGreatDoorCrG
section
namespace Go.Pd
open Go Go.Proofs
set_option maxRecDepth 100000
def E1:List sR:=[(21,[fq],.int .i64 0),(91,[fq,pl 0 0,pl 100 0],.slc false 5 U8)]
theorem vX:∀e∈E1,OK2 e.1 e.2.1 e.2.2:=by
 intro e he;simp only[E1,List.mem_cons,List.not_mem_nil,or_false] at he;rcases he with rfl|rfl
 ·exact Ny
 ·exact Va
def xG:D:=S [119,97,116,101,114]
theorem Vb:OK2 27 [fq,pl 0 0,pl 100 0,xG] (.tup [.str (ByteArray.mk #[50,47,53]),.int .i64 0]):=iC vX (n:=30) (by kernel_rfl)
def Rt:List D:=[S [48],S [49,47,49,48],S [114,111,117,103,104],
 S [49,47,49,48],S [50,47,53],S [102,97,105,114,119,97,121],
 S [50,47,53],S [49,47,50],S [119,97,116,101,114],
 S [49,47,50],S [57,47,49,48],S [102,97,105,114,119,97,121],
 S [57,47,49,48],S [49],S [103,114,101,101,110]]
theorem Vc:OK2 26 [fq,pl 0 0,pl 100 0] (.tup [.slc false 5 Rt,.int .i64 0]):=iC vX (n:=30) (by kernel_rfl)
theorem Vd:OK2 74 [] fq:=iC vX (n:=30) (by kernel_rfl)
def DB:D:= .agg [S [111,110,101],.int .i64 0,.int .i64 0,.int .i64 0,.int .i64 100,.slc true 0 [],.slc false 4 [
 S [114,111,117,103,104],.slc false 4 [.int .i64 (20),.int .i64 (-10),.int .i64 20,.int .i64 120,.int .i64 (-20),.int .i64 120,.int .i64 (-20),.int .i64 (-10)],
 S [102,97,105,114,119,97,121],.slc false 4 [.int .i64 10,.int .i64 10,.int .i64 10,.int .i64 90,.int .i64 (-10),.int .i64 90,.int .i64 (-10),.int .i64 10],
 S [103,114,101,101,110],.slc false 4 [.int .i64 5,.int .i64 90,.int .i64 5,.int .i64 110,.int .i64 (-5),.int .i64 110,.int .i64 (-5),.int .i64 90],
 S [119,97,116,101,114],.slc false 4 [.int .i64 20,.int .i64 40,.int .i64 20,.int .i64 50,.int .i64 (-20),.int .i64 50,.int .i64 (-20),.int .i64 40]]]
theorem Ve:OK2 64 [fq,.int .i64 1] (.tup [DB,.int .i64 0]):=iC vX (n:=30) (by kernel_rfl)
def qb(x:Int):D:= .slc true 3 [.int .i64 0,.int .i64 1,.int .i64 3,.int .i64 1,.int .i64 2,.int .i64 2,.int .i64 2,.int .i64 0,.int .i64 x]
theorem Vf:OK2 60 [.int .i64 3,qb (-4),.slc true 3 [.int .i64 0,.int .i64 1,.int .i64 2]] (.int .i64 0):=iC vX (n:=30) (by kernel_rfl)
theorem Vg:OK2 36 [.slc true 3 [.int .i64 0,.int .i64 0,.int .i64 10,.int .i64 0,.int .i64 3,.int .i64 4],.int .i64 5,.int .i64 4] (.tup [.slc false 4 [.int .i64 0,.int .i64 1,.int .i64 0,.int .i64 1],.int .i64 0]):=iC vX (n:=30) (by kernel_rfl)
theorem Nz:eh Tryz.prog Q6 Tryz.f114=true:=by kernel_rfl
def zq:D:= .slc false 3 [.int .i64 0,.int .i64 3,.int .i64 5]
theorem Ru:OK2 114 [.int .i64 3,qb (-6)] (.tup [zq,.nils]):=
 V1 cK kU Tryz.func114 (ord:=Q6) (N:=UM) (.inr rfl) Nz (by kernel_rfl)
def NA:Bn:=fun k ds=>match EB [(114,[.int .i64 3,qb (-6)],.tup [zq,.nils])] k ds with
 |some r=>some r
 |none=>ja k ds
theorem JP:dA NA:=by
 intro k ds r h;unfold NA at h;split at h
 ·rename_i x hx;cases h;exact xr (fun e he=>by rw[zd4.1 he];exact Ru) k ds _ hx
 ·exact xk k ds r h
noncomputable def RC:Run:={P:=Tryz.prog,gl:=ig,X:=X1 [],ord:=sP,N:=nA,K:=MT,cst:=NA,sq:=Qv,M:=IR Tv,L:=LL,C:=C1}
theorem Vh:OK2 58 [.int .i64 3,qb (-6)] (.tup [zq,.int .i64 0]):=
 uS (R:=RC) gd (F3 ij) JP BN (kS F2) kT (fun f od fn _ ho hf=>iT listA UN f (tA ho) od fn ho hf) 30 58 _ _ (by kernel_rfl)
theorem Vi:OK2 34 [fq,pl 45 0,xG,.int .i64 10] (.tup [pl 39 0,.int .i64 0]):=by
 have h:=UL hA DA (45,0) (ByteArray.mk #[119,97,116,101,114]) 10;rw[show Nt hA (45,0) (ByteArray.mk #[119,97,116,101,114]) 10= .tup [pl 39 0,.int .i64 0] by kernel_rfl] at h;exact h
def Rv:FuncId→List D→Option D:=fun k ds=>match k==173,ds with
 |true,[.slc _ n cs]=>(match decide (n≤1000)&&(decide (cs.length=n*1)&&(cs.all D.plain&&cs.all D.one)) with
  |true=>some (Tx n cs)
  |false=>none)
 |_,_=>none
theorem DC{k:FuncId}{ds:List D}{r:D}(h:Rv k ds=some r):k=173∧∃f n cs,ds=[.slc f n cs]∧r=Tx n cs∧n≤1000∧cs.length=n*1∧cs.all D.plain=true∧cs.all D.one=true:=by
 unfold Rv at h;split at h
 ·rename_i hk;split at h
  ·rename_i hc;simp only[zc4,zc7] at hc;cases h;exact⟨by simpa using hk,_,_,_,rfl,rfl,hc.1,hc.2.1,hc.2.2.1,hc.2.2.2⟩
  ·cases h
 ·cases h
theorem NB:dA Rv:=by
 intro k ds r h;obtain⟨rfl,f,n,cs,rfl,rfl,h1,h2,h3,h4⟩:=DC h;exact Q3 (by omega) h2 h3 h4
theorem JQ:Np Rv:=by
 intro ds len cs h;rw[y4 (k:=173) (ds:=ds) rfl] at h;obtain⟨_,f,n,c,rfl,h0,h1,h2,h3,h4⟩:=DC h
 match n,h0,h1,h2 with
 |0,h0,_,_=>cases h0
 |n+1,h0,h1,h2=>
  cases h0;exact tw (by omega) (by unfold maxLen;omega) h2 (by omega) h3 h4
def Rw:D:= .slc true 3 [.int .i64 5,.int .i64 4,.int .i64 3]
abbrev nE:=List D×D×List D×D
def Rx:List nE→FuncId→List D→Option D
 |[],_,_=>none
 |e::l,k,ds=>match vj (xp 8) [Rw,.int .i64 8,.slc false e.1.length e.1,e.2.1] ds with
  |true=>some (.tup [.slc false e.1.length e.2.2.1,e.2.2.2])
  |false=>Rx l k ds
abbrev nF(e:nE):Prop:=PlcC Tryz.prog ig 104 2 [Rw,.int .i64 8,.nils,e.2.1] e.1 e.1.length e.2.2.1 e.2.2.2
theorem Gi:∀{l:List nE},(∀e∈l,nF e)→No (Rx l):=by
 intro l hl;refine IF Q4 fun ds cs len f m cs' r hp h=> ?_
 induction l with
 |nil=>cases h
 |cons e l ih=>
  simp only[Rx] at h;split at h
  ·rename_i hb;have hb:=rM (xq 8) _ _ hb;have g2:=congrArg (fun l:List D=>l[2]?) hb;rw[List.getElem?_set_self hp] at g2;have g2:D.slc false e.1.length e.1= .slc false len cs:=Option.some.inj g2;cases g2;have h:D.tup [.slc false e.1.length e.2.2.1,e.2.2.2]= .tup [.slc f m cs',r]:=Option.some.inj h;cases h;exact(hl e (za4 ..)).congr (x:= .slc false e.1.length e.1) (by rw[←hb];rfl)
  ·exact ih (fun e he=>hl e (za5 _ he)) h
def LP:bY:=fun p=>match p with
 |122=>nm [0,1,2,3,10,26,27] [50,53] [50,53]
 |_=>none
theorem NC:eh Tryz.prog O0 Tryz.f104=true:=by kernel_rfl
def Ry(e n len:Nat)(cs:List D)(r:D):Option D:=bH (decide (e=e)) (bH (decide (n=n)) (bH (decide (cs.length=len*n)) (bH (cs.all D.plain) (some (.tup [.slc false len cs,r])))))
theorem EH{l:List nE}(hl:∀e∈l,nF e){x:nE}(hp:x.2.2.1.all D.plain=true)(hx:x.2.2.1.length=x.1.length)
  (he:∀e n,yA (Ts (bw Rv) (Rx l) LL C1 e n) O0 LP 2 e n Tryz.f104 x.1.length x.1 [Rw,.int .i64 8,.nils,x.2.1]=Ry e n x.1.length x.2.2.1 x.2.2.2):nF x:=
 V4 NB (Gi hl) JQ Tryz.func104 (ord:=O0) (N:=LP) NC (by kernel_rfl) fun e n h=>by
  rw[he];unfold Ry;rw[show decide (e=e)=true by simp,show decide (n=n)=true by simp,hx,hp,za1 h];rfl
def i0(n:Int):D:= .int .i64 n
def JR(l:List D):D:= .tup [.slc false l.length l,.bool true]
def LQ:D:= .tup [.slc true 0 [],.bool false]
def sl(l:List D):D:= .slc false l.length l
def nl:D:= .slc true 0 []
def V6:nE:=([i0 5],sl [i0 0],[i0 5],LQ)
def eA0:nE:=([i0 0],nl,[i0 0],LQ)
def V7:nE:=([i0 8,i0 4],sl [i0 0,i0 1,i0 0],[i0 8,i0 4],JR [i0 0,i0 1,i0 0])
def V8:nE:=([i0 5,i0 4],sl [i0 0,i0 1],[i0 8,i0 4],JR [i0 0,i0 1,i0 0])
def V9:nE:=([i0 5,i0 0],sl [i0 0],[i0 8,i0 4],JR [i0 0,i0 1,i0 0])
def eB0:nE:=([i0 0,i0 0],nl,[i0 8,i0 4],JR [i0 0,i0 1,i0 0])
theorem VY:∀e∈([]:List nE),nF e:=fun e he=>by cases he
theorem JS{x:nE}(h:nF x):∀e∈[x],nF e:=fun e he=>by rw[zd4.1 he];exact h
theorem Wa:nF V6:=EH VY rfl rfl (by intro e n;kernel_rfl)
theorem Wb:nF eA0:=EH (JS Wa) rfl rfl (by intro e n;kernel_rfl)
theorem Wc:nF V7:=EH VY rfl rfl (by intro e n;kernel_rfl)
theorem Wd:nF V8:=EH (JS Wc) rfl rfl (by intro e n;kernel_rfl)
theorem We:nF V9:=EH (JS Wd) rfl rfl (by intro e n;kernel_rfl)
theorem Wf:nF eB0:=EH (JS We) rfl rfl (by intro e n;kernel_rfl)
theorem Rz{x:nE}(h:nF x)(hx:x.2.1=nl):nF (x.1,.nils,x.2.2.1,x.2.2.2):=by
 refine PlcC.canon (ds':=[Rw,.int .i64 8,.nils,x.2.1]) h rfl fun j d hj hd=> ?_;rw[hx]
 match j,hj,hd with
 |0,_,hd=>cases hd;rfl
 |1,_,hd=>cases hd;rfl
 |2,hj,_=>exact absurd rfl hj
 |3,_,hd=>cases hd;rfl
def ND:List nE:=[(eA0.1,.nils,eA0.2.2.1,eA0.2.2.2),(eB0.1,.nils,eB0.2.2.1,eB0.2.2.2)]
theorem JT:∀e∈ND,nF e:=by
 intro e he;simp only[ND,List.mem_cons,List.not_mem_nil,or_false] at he;rcases he with rfl|rfl
 ·exact Rz Wb rfl
 ·exact Rz Wf rfl
def RA:FuncId→Option Mu:=fun k=>match k==104 with
 |true=>some (.plc 2 (Rx ND 104))
 |false=>none
theorem NE:∀k g,RA k=some g→HH Tryz.prog ig k g:=by
 intro k g h;unfold RA at h;split at h
 ·rename_i hk;cases h;rw[show k=104 by simpa using hk];exact Gi JT
 ·cases h
theorem NF{Q:FuncId→TypeId→Nat→Prop}:∀k e n,RA k=some (.own e n)→Q k e n:=by
 intro k e n h;unfold RA at h;split at h<;>cases h
def NG:FuncId→Option fX:=fun k=>match k==103 with
 |true=>some O0
 |false=>sP k
theorem NH:eh Tryz.prog O0 Tryz.f103=true:=by kernel_rfl
theorem JU:∀f od fn,NG f=some od→Tryz.prog.funcs[f]?=some fn→eh Tryz.prog od fn=true:=by
 intro f od fn ho hf;unfold NG at ho;split at ho
 ·rename_i hk;cases ho;rw[show f=103 by simpa using hk,Tryz.func103] at hf;cases hf;exact NH
 ·exact iT listA UN f (tA ho) od fn ho hf
noncomputable def RD:Run:={P:=Tryz.prog,gl:=ig,X:=X1 [],ord:=NG,N:=nA,K:=MT,cst:=ja,sq:=Qv,M:=RA,L:=LL,C:=C1}
theorem Vj:OK2 37 [Rw,.int .i64 8] (.tup [.slc false 3 [.int .i64 0,.int .i64 1,.int .i64 0],.int .i64 0]):=
 uS (R:=RD) gd (F3 ij) xk BN NE NF (fun f od fn _ ho hf=>JU f od fn ho hf) 30 37 _ _ (by kernel_rfl)
def TA:D:= .slc true 4 (Nw 1)
theorem Vk:OK2 19 [fq,pl 90 0] (.tup [S [103,114,101,101,110],.int .i64 2,.int .i64 0]):=by
 have h:=Q0 hA DA (90,0);rw[show xE (cI [cv hA,bz (cb (90,0)) 3 0]) (gv hA (90,0))= .tup [S [103,114,101,101,110],.int .i64 2,.int .i64 0] by kernel_rfl] at h;exact h
theorem RE:OK2 19 [fq,pl 121 0] (.tup [S [111,117,116],.int .i64 (-1),.int .i64 0]):=by
 have h:=Q0 hA DA (121,0);rw[show xE (cI [cv hA,bz (cb (121,0)) 3 0]) (gv hA (121,0))= .tup [S [111,117,116],.int .i64 (-1),.int .i64 0] by kernel_rfl] at h;exact h
def E2:List sR:=[(21,[fq],.int .i64 0),(81,[.slc true 0 []],.slc true 0 [])]
theorem RF:∀e∈E2,OK2 e.1 e.2.1 e.2.2:=by
 intro e he;simp only[E2,List.mem_cons,List.not_mem_nil,or_false] at he;rcases he with rfl|rfl
 ·exact Ny
 ·exact UI (f:=true) (n:=0) (cs:=[]) (by decide) rfl rfl rfl
theorem Vl:OK2 20 [fq] (.tup [.int .i64 100,.int .i64 0]):=iC RF (n:=30) (by kernel_rfl)
def vY:List Pt:=[(10,-10),(90,-10),(90,10),(10,10)]
theorem Vm:OK2 52 [TA] (.tup [.int .i64 3200,.int .i64 0]):=by
 have h:=Uq (f:=true) vY (by decide);rw[show vM (dG vY) (MW (Dr (ff vY) 0))= .tup [.int .i64 3200,.int .i64 0] by kernel_rfl] at h;exact h
theorem Vn:OK2 45 [TA,pl 10 0] (.tup [.int .i64 0,.int .i64 0]):=by
 have h:=Up (f:=true) vY (10,0) (by decide);rw[show vM (cI [dG vY,bz (cb (10,0)) 3 0]) (gt (10,0) (ff vY) (-1))= .tup [.int .i64 0,.int .i64 0] by kernel_rfl] at h;exact h
theorem Vo:OK2 50 [.slc true 4 [.int .i64 0,.int .i64 0,.int .i64 2,.int .i64 2,.int .i64 2,.int .i64 0,.int .i64 0,.int .i64 2]] (.int .i64 16):=by
 have h:=Jr (f:=true) [(0,0),(2,2),(2,0),(0,2)] (by decide);rw[show dG [(0,0),(2,2),(2,0),(0,2)]=16 by kernel_rfl] at h;exact h
def RG:D:= .slc false 4 [.int .i64 0,.int .i64 1,.int .i64 0,.int .i64 1]
def RH:D:= .slc false 3 [.int .i64 0,.int .i64 1,.int .i64 0]
def VZ:List sR:=[(74,[],fq),(19,[fq,pl 90 0],.tup [S [103,114,101,101,110],.int .i64 2,.int .i64 0]),(19,[fq,pl 121 0],.tup [S [111,117,116],.int .i64 (-1),.int .i64 0]),
 (20,[fq],.tup [.int .i64 100,.int .i64 0]),(52,[TA],.tup [.int .i64 3200,.int .i64 0]),(45,[TA,pl 10 0],.tup [.int .i64 0,.int .i64 0]),
 (26,[fq,pl 0 0,pl 100 0],.tup [.slc false 5 Rt,.int .i64 0]),(27,[fq,pl 0 0,pl 100 0,xG],.tup [.str (ByteArray.mk #[50,47,53]),.int .i64 0]),
 (34,[fq,pl 45 0,xG,.int .i64 10],.tup [pl 39 0,.int .i64 0]),(64,[fq,.int .i64 1],.tup [DB,.int .i64 0]),(58,[.int .i64 3,qb (-6)],.tup [zq,.int .i64 0]),
 (36,[.slc true 3 [.int .i64 0,.int .i64 0,.int .i64 10,.int .i64 0,.int .i64 3,.int .i64 4],.int .i64 5,.int .i64 4],.tup [RG,.int .i64 0]),
 (37,[.slc true 3 [.int .i64 5,.int .i64 4,.int .i64 3],.int .i64 8],.tup [RH,.int .i64 0]),
 (50,[.slc true 4 [.int .i64 0,.int .i64 0,.int .i64 2,.int .i64 2,.int .i64 2,.int .i64 0,.int .i64 0,.int .i64 2]],.int .i64 16),
 (42,[zq,.slc true 3 [.int .i64 0,.int .i64 3,.int .i64 5]],.bool true),(42,[RG,.slc true 4 [.int .i64 0,.int .i64 1,.int .i64 0,.int .i64 1]],.bool true),(42,[RH,.slc true 3 [.int .i64 0,.int .i64 1,.int .i64 0]],.bool true),
 (60,[.int .i64 3,qb (-4),.slc true 3 [.int .i64 0,.int .i64 1,.int .i64 2]],.int .i64 0)]
theorem NI:∀e∈VZ,OK2 e.1 e.2.1 e.2.2:=by
 intro e he;simp only[VZ,List.mem_cons,List.not_mem_nil,or_false] at he;rcases he with rfl|rfl|rfl|rfl|rfl|rfl|rfl|rfl|rfl|rfl|rfl|rfl|rfl|rfl|rfl|rfl|rfl|rfl
 ·exact Vd
 ·exact Vk
 ·exact RE
 ·exact Vl
 ·exact Vm
 ·exact Vn
 ·exact Vc
 ·exact Vb
 ·exact Vi
 ·exact Ve
 ·exact Vh
 ·exact Vg
 ·exact Vj
 ·exact Vo
 ·exact Nm (f:=false) (g:=true) [0,3,5] (by decide)
 ·exact Nm (f:=false) (g:=true) [0,1,0,1] (by decide)
 ·exact Nm (f:=false) (g:=true) [0,1,0] (by decide)
 ·exact Vf
theorem RI:OK2 17 [] (.bool true):=iC NI (n:=3) (by kernel_rfl)
end Go.Pd
end
