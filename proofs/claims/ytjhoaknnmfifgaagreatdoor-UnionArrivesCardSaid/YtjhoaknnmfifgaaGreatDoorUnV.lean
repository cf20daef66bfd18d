import Derived.Test.YtjhoaknnmfifgaaGreatDoorUnU
import Derived.Test.YtjhoaknnmfifgaaGreatDoorUnQ
import Derived.Test.YtjhoaknnmfifgaaGreatDoorUnI
import Derived.Test.YtjhoaknnmfifgaaGreatDoorUnH
import Derived.Test.YtjhoaknnmfifgaaGreatDoorUnA
import Derived.KernelRfl
import Derived.Test.YtjhoaknnmfifgaaGreatDoorUnF
section
namespace Go.Pd
open Go Go.Proofs Go.RowKit
set_option maxRecDepth 100000
abbrev mS(f:Bool)(l:List MsgV):D:= .slc f l.length (l.flatMap bp)
theorem fO(l:List MsgV):(l.flatMap bp).length=l.length*6:=uB bp 6 (fun _=>rfl) l
theorem fP{l m:List MsgV}(h:l.flatMap bp=m.flatMap bp):l=m:=uz (w:=6) (by omega) (fun _=>rfl) (fun _ _=>gv) h
theorem ix:∀l:List MsgV,(l.flatMap bp).all D.one=true
 |[]=>rfl
 |x::l=>by
  rw[List.flatMap_cons,List.all_append,ix l];rfl
theorem Gs{f g:Bool}{l m:List MsgV}(h:mS f l=mS g m):l=m:=by
 simp only[D.slc.injEq] at h;exact fP h.2.2
theorem mC(p q:List MsgV):List.take (p.length*6) ((p++q).flatMap bp)=p.flatMap bp:=by
 rw[zd3,←fO,List.take_left]
theorem mD(p q:List MsgV):List.drop (p.length*6) ((p++q).flatMap bp)=q.flatMap bp:=by
 rw[zd3,←fO,List.drop_left]
theorem uM(q:List MsgV):List.take (q.length*6) (q.flatMap bp)=q.flatMap bp:=List.take_of_length_le (by rw[fO];omega)
theorem qY(A:List MsgV)(x:MsgV)(b:List MsgV):lV A (x::b)=(match km A x with
   |some a'=>lV a' b
   |none=>none):=rfl
def jF:Bool→List MsgV→List MsgV→Bool
 |f,_,[]=>f
 |f,a,x::b=>match km a x with
  |some a'=>jF (f&&a'.length==a.length) a' b
  |none=>f
def xV(a b:List MsgV):Int:=match lV a b with
 |none=>29
 |some l=>bB (decide ((l.length:Int)>1000)) 5 0
def sv(a b:List MsgV):List MsgV:=(lV a b).getD []
def DJ(e:Int)(l:List MsgV):List MsgV:=bB (e !=0) [] l
def yU(f:Bool)(e:Int)(l:List MsgV):D:=mS (e !=0||f) (DJ e l)
theorem BF{f:Bool}{e:Int}{l:List MsgV}(h:(e !=0)=true):yU f e l= .slc true 0 []:=by
 unfold yU DJ;rw[h];rfl
theorem DK{A A':List MsgV}{x:MsgV}(h:km A x=some A'):A'.length≤A.length+1:=by
 have hb:=congrArg List.length (bb A x);rw[za6] at hb;unfold km at h;split at h
 ·cases h;simp
 ·rename_i y r he;split at h
  ·split at h
   ·cases h;omega
   ·cases h
  ·cases h;rw[he] at hb;simp at hb ⊢;omega
def jR(a b:List MsgV):D:=match lV a b with
 |none=> .tup [.slc true 0 [],.bool false]
 |some l=> .tup [mS false l,.bool true]
theorem DL{A:List MsgV}{x:MsgV}(h:(match g6 A x with
   |[]=>false
   |y::_=>fN y x)=false):km A x=some (fp A x++x::g6 A x):=by
 have hb:=bb A x;unfold km;cases hq:g6 A x with
 |nil=>
  rw[hq,zb4] at hb;show some (A++[x])=some (fp A x++[x]);rw[hb]
 |cons y r=>
  rw[hq] at h;show(match fN y x with|true=>_|false=>_)=_;rw[show fN y x=false from h]
theorem yV(P Q:List MsgV)(x:MsgV):List.take (P.length*6) ((P++Q).flatMap bp)++([D.str x.1,.int .i64 x.2.1,.str x.2.2.1,.int .i64 x.2.2.2.1,.int .i64 x.2.2.2.2.1,.str x.2.2.2.2.2]++List.drop (P.length*6) ((P++Q).flatMap bp))=(P++x::Q).flatMap bp:=by
 rw[mC,mD,zd3,List.flatMap_cons];rfl
def Jq:={l:List MsgV//l.length≤100000∧gZ l}×MsgV
def yW(l:List MsgV)(x:MsgV):D:= .tup [.int .i64 ((fp l x).length:Int),.bool (match g6 l x with
   |[]=>false
   |y::_=>fN y x)]
def fa273:Fam:=⟨273,Jq,fun i=>[mS false i.1.1,.agg (bp i.2),.fn (.func 146) [] []],fun i=>yW i.1.1 i.2⟩
theorem wO:fa273.Good:=⟨fun i=>Jp i.1.1 i.2 i.1.2.1 i.1.2.2,fun i j h=>by
 obtain⟨⟨l,hl⟩,x⟩:=i;obtain⟨⟨m,hm⟩,y⟩:=j;have h:[mS false l,D.agg (bp x),.fn (.func 146) [] []]=[mS false m,D.agg (bp y),.fn (.func 146) [] []]:=h;simp only[zc3,and_true,D.agg.injEq,D.slc.injEq] at h;have e1:=fP h.1.2.2;have e2:=gv h.2;show yW l x=yW m y;rw[e1,e2]⟩
theorem Jr{B mu:FuncId→List D→Option D}{b:List MsgV}{g:Bool}(hB:∀i:Jq,B 273 [mS false i.1.1,.agg (bp i.2),.fn (.func 146) [] []]=some (yW i.1.1 i.2))(hb:b.length≤1000):
  ∀(r pre A:List MsgV) (fuel:Nat),b=pre++r→A.length+r.length≤100000→gZ A→r.length<fuel→
  jS B mu LL C1 fuel g b.length (b.flatMap bp) A.length (b.length:Int) (pre.length:Int) (A.flatMap bp)=some (jR A r):=by
 intro r
 induction r with
 |nil=>
  intro pre A fuel hp hA ha hf;cases fuel with
  |zero=>exact absurd hf (Nat.not_lt_zero _)
  |succ fuel=>
   rw[zb4] at hp;rw[mX,show decide ((pre.length:Int)<(b.length:Int))=false by rw[hp];simp,bj];rfl
 |cons x r ih=>
  intro pre A fuel hp hA ha hf;cases fuel with
  |zero=>exact absurd hf (Nat.not_lt_zero _)
  |succ fuel=>
   have hpl:pre.length+1≤b.length:=by rw[hp];simp
   have d0:decide ((pre.length:Int)<(b.length:Int))=true:=by simp;omega
   have d1:decide ((0:Int)≤(pre.length:Int)∧(pre.length:Int)<(b.length:Int))=true:=by simp;omega
   have hst:IntKind.wrap .i64 ((pre.length:Int)+1)=((pre++[x]).length:Int):=by rw[cv (by omega)];simp
   have e1:B 273 [.slc false A.length (A.flatMap bp),.agg [.str x.1,.int .i64 x.2.1,.str x.2.2.1,.int .i64 x.2.2.2.1,.int .i64 x.2.2.2.2.1,.str x.2.2.2.2.2],.fn (.func 146) [] []]=some (yW A x):=hB (⟨A,by omega,ha⟩,x);have cx:=fun c=>jQ (γ:=D) pre x r c;rw[←hp] at cx;have hbb:=bb A x;have hbl:=congrArg List.length hbb;rw[za6] at hbl;have ih:=fun A' (hq:km A x=some A')=>ih (pre++[x]) A' fuel (by rw[hp];simp) (by have:=DK hq;simp at hA;omega) (xT ha hq).1 (by simp at hf;omega);have eJ:∀A',km A x=some A'→jR A (x::r)=jR A' r:=fun A' hq=>by unfold jR;rw[qY,hq]
   rw[mX,d0,bv,d1,bq,cx,e1,bn];unfold yW;rw[na,nb,bw,nc,bO];cases hk:(match g6 A x with
     |[]=>false
     |y::_=>fN y x) with
   |false=>
    have hq:=DL hk;have hc:=yV (fp A x) (g6 A x) x;rw[hbb] at hc;have hn:A.length+1=(fp A x++x::g6 A x).length:=by simp;omega
    have lim:cH=140737488355328:=rfl;rw[bj,show decide ((0:Int)≤((fp A x).length:Int)∧((fp A x).length:Int)≤(A.length:Int))=true by simp;omega,bq,show decide ((A.length+1)*72≤cH)=true by(rw[lim];simp only[zc5];simp at hA;omega),bq,ix,bq,za3,hc,hn,hst,ih _ hq,eJ _ hq]
   |true=>
    cases hbh:g6 A x with
    |nil=>rw[hbh] at hk;cases hk
    |cons y r'=>
     rw[hbh] at hk hbb hbl;have hk:fN y x=true:=hk;have cy:=fun c=>jQ (γ:=D) (fp A x) y r' c;rw[hbb] at cy;rw[bv,show decide ((0:Int)≤((fp A x).length:Int)∧((fp A x).length:Int)<(A.length:Int))=true by(rw[za7] at hbl;simp only[zc5];omega),bq,cy];change bB (!uJ y x) _ _=_;have hpm:km A x=(match uJ y x with
       |true=>some A
       |false=>none):=by
      unfold km;rw[hbh];show(match fN y x with|true=>_|false=>_)=_;rw[hk];rfl
     cases hq:uJ y x with
     |true=>
      rw[hq] at hpm;rw[Bool.not_true,bj,hst,ih A hpm,eJ A hpm]
     |false=>
      rw[hq] at hpm;rw[Bool.not_false,bv];unfold jR;rw[qY,hpm]
theorem xW(z:List D):∀n,(dg n z).length=n*z.length
 |0=>by simp[dg]
 |n+1=>by rw[dg,za6,xW z n,Nat.add_mul];omega
theorem Js{f g:Bool}(a b:List MsgV)(ha:a.length≤1000)(hb:b.length≤1000)(h:gZ a):bV 219 [mS f a,mS g b,.fn (.func 146) [] []] (jR a b):=by
 obtain⟨B,hB,hF⟩:=uR [fa273] ⟨wO,trivial⟩ rfl;refine LM (mu:=fun _ _=>none) hB Tryz.func219 (ord:=O0) (N:=Gp) (by kernel_rfl) ((DI _ _ _ _ f _ _ g _ _).trans ?_);have hw:IntKind.wrap .i64 ((a.length:Int)+(b.length:Int))=((a.length+b.length:Nat):Int):=by rw[cv (by omega)];simp
 have hz:∀n,(dg n [D.str (ByteArray.mk #[]),D.int IntKind.i64 0,D.str (ByteArray.mk #[]),D.int IntKind.i64 0,D.int IntKind.i64 0,D.str (ByteArray.mk #[])]).length=n*6:=fun n=>xW _ n;have hwr:=qQ (a.flatMap bp) [] (dg a.length [D.str (ByteArray.mk #[]),D.int IntKind.i64 0,D.str (ByteArray.mk #[]),D.int IntKind.i64 0,D.int IntKind.i64 0,D.str (ByteArray.mk #[])]) [] (by rw[hz,fO]);rw[zb4,zb4,zb5,zb5] at hwr;rw[hw,za3,hz,fO,ix,Nat.min_self,uM,show decide ((0:Int)≤(a.length:Int)∧(a.length:Int)≤((a.length+b.length:Nat):Int)∧((a.length+b.length:Nat):Int)*(72:Int)≤140737488355328∧((a.length+b.length:Nat):Int)≤9223372036854775807)=true by simp only[zc5];omega,bq,
  show decide (a.length*6=a.length*6∧true=true∧0+a.length*6≤a.length*6)=true by simp,bq]
 rw[show([]:List D).length=0 from rfl] at hwr;rw[hwr];exact Jr hF.1 hb b [] a LL rfl (by omega) h (by unfold LL;omega)
theorem DM(a b:List MsgV):(jR a b= .tup [.slc true 0 [],.bool false]∧xV a b=29)∨(jR a b= .tup [mS false (sv a b),.bool true]∧xV a b=bB (decide (((sv a b).length:Int)>1000)) 5 0):=by
 unfold jR xV sv;cases lV a b with
 |none=>exact .inl ⟨rfl,rfl⟩
 |some l=>exact .inr ⟨rfl,rfl⟩
theorem Ej{f g:Bool}(a b:List MsgV)(ha:a.length≤1000)(hb:b.length≤1000)(h:gZ a):bV 148 [.agg [mS f a],.agg [mS g b]] (.tup [.agg [yU false (xV a b) (sv a b)],.int .i64 (xV a b)]):=by
 obtain⟨B,hB,hF⟩:=uR [one 219 [mS f a,mS g b,.fn (.func 146) [] []] (jR a b),fa119,fa87] ⟨eh (Js a b ha hb h),iZ,iu,trivial⟩ rfl;obtain⟨a1,a2,a3,_⟩:=hF;have e0:B 219 [.slc f a.length (a.flatMap bp),.slc g b.length (b.flatMap bp),.fn (.func 146) [] []]=some (jR a b):=a1 ();have e2:∀(b:Bool) (e:Int),B 119 [.bool b,.int .i64 e]=some (.int .i64 (bB b e 0)):=fun b e=>a2 (b,e);have e3:∀a b:Int,B 87 [.slc true 2 [.int .i64 a,.int .i64 b]]=some (.int .i64 (cN [a,b])):=fun a b=>a3 ⟨[a,b],by simp⟩;refine kX hB Tryz.func148 (ord:=O0) (N:=N0) (by kernel_rfl) ((DE _ _ _ f _ _ g _ _).trans ?_);rw[e0,bn];rcases DM a b with⟨h1,h2⟩|⟨h1,h2⟩
 ·rw[h1,h2,na,nb,cM,nc,bO,e2,bn,bw,e2,bn,bw,e3,bn,bw];rfl
 ·rw[h1,h2,na,nb,cM,nc,bO,e2,bn,bw,e2,bn,bw,e3,bn,bw];cases decide (((sv a b).length:Int)>1000)<;>rfl
def fa65:Fam:=⟨65,Bool×' (l:List MsgV)×' (l.length≤100000)×' (∀m∈l,m.Fit),fun i=>[.agg [mS i.1 i.2.1]],fun i=> .int .i64 (bW i.2.1)⟩
theorem yX:fa65.Good:=⟨fun i=>Gn i.2.1 i.2.2.1 i.2.2.2,fun i j h=>by
 have h:[D.agg [mS i.1 i.2.1]]=[D.agg [mS j.1 j.2.1]]:=h;simp only[zc3,and_true,D.agg.injEq,D.slc.injEq] at h;show D.int .i64 (bW i.2.1)= .int .i64 (bW j.2.1);rw[fP h.2.2]⟩
def qZ(e:Int)(a b:List MsgV):Int:=bB (e !=0) e (xV a b)
theorem Jt{f:Bool}(a:List MsgV)(m:MsgV)(ha:a.length≤1000)(hf:∀m∈a,m.Fit)(hm:m.Fit):bV 67 [.agg [mS f a],.agg (bp m)] (.tup [.agg [yU false (qZ (cN [bW a,dF m]) a [m]) (sv a [m])],.int .i64 (qZ (cN [bW a,dF m]) a [m])]):=by
 have main:∀F:Fam,F.Good→(F.f=148∧True)→(∀B:FuncId→List D→Option D,(∀i,B F.f (F.a i)=some (F.r i))→cN [bW a,dF m]=0→B 148 [.agg [mS f a],.agg [mS true [m]]]=some (.tup [.agg [yU false (xV a [m]) (sv a [m])],.int .i64 (xV a [m])]))→bV 67 [.agg [mS f a],.agg (bp m)] (.tup [.agg [yU false (qZ (cN [bW a,dF m]) a [m]) (sv a [m])],.int .i64 (qZ (cN [bW a,dF m]) a [m])]):=fun F hF hf' hB148=>by
  obtain⟨B,hB,hX⟩:=uR [one 65 [.agg [mS f a]] (.int .i64 (bW a)),fa66,fa87,F] ⟨eh (Gn a (by omega) hf),qW,iu,hF,trivial⟩ (by simp[yL,one,fa66,fa87,hf'.1]);obtain⟨a1,a2,a3,a4,_⟩:=hX;have e0:B 65 [.agg [.slc f a.length (a.flatMap bp)]]=some (.int .i64 (bW a)):=a1 ();have e1:B 66 [.agg [.str m.1,.int .i64 m.2.1,.str m.2.2.1,.int .i64 m.2.2.2.1,.int .i64 m.2.2.2.2.1,.str m.2.2.2.2.2]]=some (.int .i64 (dF m)):=a2 ⟨m,hm⟩;have e3:∀a b:Int,B 87 [.slc true 2 [.int .i64 a,.int .i64 b]]=some (.int .i64 (cN [a,b])):=fun a b=>a3 ⟨[a,b],by simp⟩;refine kX hB Tryz.func67 (ord:=O0) (N:=N0) (by kernel_rfl) ((Gf _ _ _ f _ _ m.1 m.2.1 m.2.2.1 m.2.2.2.1 m.2.2.2.2.1 m.2.2.2.2.2).trans ?_);rw[e0,bn,bw,e1,bn,bw,e3,bn,bw];unfold qZ;cases hz:cN [bW a,dF m] !=0 with
  |true=>
   rw[bv,bv,BF hz]
  |false=>
   have hz:cN [bW a,dF m]=0:=by simpa using hz
   have e4:B 148 [.agg [.slc f a.length (a.flatMap bp)],.agg [.slc true 1 [.str m.1,.int .i64 m.2.1,.str m.2.2.1,.int .i64 m.2.2.2.1,.int .i64 m.2.2.2.2.1,.str m.2.2.2.2.2]]]=_:=hB148 B a4 hz;rw[bj,bj,e4,bn];rfl
 by_cases hz:cN [bW a,dF m]=0
 ·exact main (one 148 [.agg [mS f a],.agg [mS true [m]]] _) (eh (Ej a [m] ha (by simp) (lU (jb hz).1).2.1)) ⟨rfl,trivial⟩ fun B h _=>h ()
 ·exact main ⟨148,Empty,fun _=>[],fun _=> .nils⟩ ⟨fun i=>i.elim,fun i=>i.elim⟩ ⟨rfl,trivial⟩ fun B h hz'=>absurd hz' hz
theorem KX{f g:Bool}(a b:List MsgV)(ha:a.length≤1000)(hb:b.length≤1000)(hf:∀m∈a,m.Fit)(hg:∀m∈b,m.Fit):bV 68 [.agg [mS f a],.agg [mS g b]] (.tup [.agg [yU false (qZ (cN [bW a,bW b]) a b) (sv a b)],.int .i64 (qZ (cN [bW a,bW b]) a b)]):=by
 have main:∀F:Fam,F.Good→(F.f=148∧True)→(∀B:FuncId→List D→Option D,(∀i,B F.f (F.a i)=some (F.r i))→cN [bW a,bW b]=0→B 148 [.agg [mS f a],.agg [mS g b]]=some (.tup [.agg [yU false (xV a b) (sv a b)],.int .i64 (xV a b)]))→bV 68 [.agg [mS f a],.agg [mS g b]] (.tup [.agg [yU false (qZ (cN [bW a,bW b]) a b) (sv a b)],.int .i64 (qZ (cN [bW a,bW b]) a b)]):=fun F hF hf' hB148=>by
  obtain⟨B,hB,hX⟩:=uR [fa65,fa87,F] ⟨yX,iu,hF,trivial⟩ (by simp[yL,fa65,fa87,hf'.1]);obtain⟨a1,a3,a4,_⟩:=hX;have e0:B 65 [.agg [.slc f a.length (a.flatMap bp)]]=some (.int .i64 (bW a)):=a1 ⟨f,a,by omega,hf⟩;have e1:B 65 [.agg [.slc g b.length (b.flatMap bp)]]=some (.int .i64 (bW b)):=a1 ⟨g,b,by omega,hg⟩;have e3:∀a b:Int,B 87 [.slc true 2 [.int .i64 a,.int .i64 b]]=some (.int .i64 (cN [a,b])):=fun a b=>a3 ⟨[a,b],by simp⟩;refine kX hB Tryz.func68 (ord:=O0) (N:=N0) (by kernel_rfl) ((Gg _ _ _ f _ _ g _ _).trans ?_);rw[e0,bn,bw,e1,bn,bw,e3,bn,bw];unfold qZ;cases hz:cN [bW a,bW b] !=0 with
  |true=>
   rw[bv,bv,BF hz]
  |false=>
   have hz:cN [bW a,bW b]=0:=by simpa using hz
   have e4:B 148 [.agg [.slc f a.length (a.flatMap bp)],.agg [.slc g b.length (b.flatMap bp)]]=_:=hB148 B a4 hz;rw[bj,bj,e4,bn];rfl
 by_cases hz:cN [bW a,bW b]=0
 ·exact main (one 148 [.agg [mS f a],.agg [mS g b]] _) (eh (Ej a b ha hb (lU (jb hz).1).2.1)) ⟨rfl,trivial⟩ fun B h _=>h ()
 ·exact main ⟨148,Empty,fun _=>[],fun _=> .nils⟩ ⟨fun i=>i.elim,fun i=>i.elim⟩ ⟨rfl,trivial⟩ fun B h hz'=>absurd hz' hz
theorem ra(call:CL)(L:Nat)(C:Nat→Nat)(n:Nat)(vf0_f:Bool)(vf0_n:Nat)(vf0_c:List D)(vnext:Int)(t11:Int)(t12:Int)(sh:List MsgV)(gp:List pR):cA call L C (n+1) vf0_f vf0_n vf0_c (o9 bp sh) (o9 jc gp) (vnext) (t11) (t12)=
 (bB (decide (t12<t11))
  (bT (decide (0≤t12∧t12<(vf0_n:Int)))
   (bi (vf0_c) (Int.toNat t12*6+0) fun d=>
   (bQ (d) fun s=>
   (bi (vf0_c) (Int.toNat t12*6+1) fun d_1=>
   (bC IntKind.i64 (d_1) fun x=>
   (bi (vf0_c) (Int.toNat t12*6+2) fun d_2=>
   (bQ (d_2) fun s_1=>
   (bi (vf0_c) (Int.toNat t12*6+3) fun d_3=>
   (bC IntKind.i64 (d_3) fun x_1=>
   (bi (vf0_c) (Int.toNat t12*6+4) fun d_4=>
   (bC IntKind.i64 (d_4) fun x_2=>
   (bi (vf0_c) (Int.toNat t12*6+5) fun d_5=>
   (bQ (d_5) fun s_2=>
   (bB (t12==0)
    (bM call L C n vf0_f vf0_n vf0_c t11 t12 (o9 bp sh) (o9 jc gp) (1) (s) (x) (s_1) (x_1) (x_2) (s_2))
    (bT (decide (0≤IntKind.wrap IntKind.i64 (t12-1)∧IntKind.wrap IntKind.i64 (t12-1)<(vf0_n:Int)))
     (bi (vf0_c) (Int.toNat (IntKind.wrap IntKind.i64 (t12-1))*6+0) fun d_6=>
     (bQ (d_6) fun s_3=>
     (bB (!ByteArray.toList s_3==ByteArray.toList s)
      (bM call L C n vf0_f vf0_n vf0_c t11 t12 (o9 bp sh) (o9 jc gp) (1) (s) (x) (s_1) (x_1) (x_2) (s_2))
      (bM call L C n vf0_f vf0_n vf0_c t11 t12 (o9 bp sh) (o9 jc gp) (vnext) (s) (x) (s_1) (x_1) (x_2) (s_2))))))))))))))))))))
  (some (D.tup [mv bp sh,mv jc gp]))):=by
 cases sh with
 |nil=>
  cases gp with
  |nil=>exact sn ..
  |cons g gp=>exact so ..
 |cons m sh=>
  cases gp with
  |nil=>exact sr ..
  |cons g gp=>exact su ..
theorem BG{i:Nat}(h:i≤1000000):decide ((i+1)*72≤cH∧i+1≤9223372036854775807)=true:=by
 simp only[zc5];rw[show cH=140737488355328 from rfl];omega
section
variable {γ:Type}(c:D→Option γ)
end
section
variable (pre:List MsgV)(m:MsgV)(r:List MsgV)(h:(pre++m::r).length≤100000)
theorem dl:decide ((pre.length:Int)<((pre++m::r).length:Int))=true:=by simp;omega
theorem dc:decide ((0:Int)≤(pre.length:Int)∧(pre.length:Int)<((pre++m::r).length:Int))=true:=by simp;omega
include h
theorem dw:IntKind.wrap .i64 ((pre.length:Int)+1)=((pre++[m]).length:Int):=by
 simp at h;rw[cv (by omega)];simp
end
theorem de(pre:List MsgV):decide ((pre.length:Int)<(pre.length:Int))=false:=by simp
section
variable (p:List MsgV)(y m:MsgV)(r:List MsgV)(h:(p++[y]++m::r).length≤100000)
include h
theorem dp:IntKind.wrap .i64 (((p++[y]).length:Int)-1)=(p.length:Int):=by
 simp at h;rw[cv (by simp;omega)];simp
omit h
theorem LN:decide ((0:Int)≤(p.length:Int)∧(p.length:Int)<((p++[y]++m::r).length:Int))=true:=by simp;omega
theorem dq:p++[y]++m::r=p++y::(m::r):=by simp
theorem dz:(((p++[y]).length:Int)==0)=false:=by rw[beq_eq_false_iff_ne];simp;omega
end
theorem KY{n N:Nat}{f:Bool}{c:List D}{t11 t12 q:Int}(m:MsgV)(sh:List MsgV)(gp:List pR)(h1:sh.length≤100000)(h2:gp.length≤100000){B:FuncId→List D→Option D}:
  bM B LL C1 n f N c t11 t12 (o9 bp sh) (o9 jc gp) q m.1 m.2.1 m.2.2.1 m.2.2.2.1 m.2.2.2.2.1 m.2.2.2.2.2=
  bB (q==0) (cA B LL C1 n f N c (o9 bp sh) (o9 jc gp) q t11 (IntKind.wrap .i64 (t12+1))) (bB (m.2.1 !=q) (cA B LL C1 n f N c (o9 bp sh) (o9 jc (gp++[(m.1,q)])) 0 t11 (IntKind.wrap .i64 (t12+1)))
   (cA B LL C1 n f N c (o9 bp (sh++[m])) (o9 jc gp) (IntKind.wrap .i64 (q+1)) t11 (IntKind.wrap .i64 (t12+1)))):=by
 rw[pd,pd];cases sh with
 |nil=>
  cases gp with
  |nil=>exact nf (hC:=c1) ..
  |cons g gp=>
   refine(ng (hC:=c1) ..).trans ?_;rw[Bt (i:=gp.length+1) (by simp at h2;omega),bq];rfl
 |cons o sh=>
  cases gp with
  |nil=>
   refine(nh (hC:=c1) ..).trans ?_;rw[BG (i:=sh.length+1) (by simp at h1;omega),bq];rfl
  |cons g gp=>
   refine(ni (hC:=c1) ..).trans ?_;rw[BG (i:=sh.length+1) (by simp at h1;omega),Bt (i:=gp.length+1) (by simp at h2;omega),bq,bq];rfl
theorem KZ{B:FuncId→List D→Option D}{f:Bool}:∀(r pre:List MsgV) (sh:List MsgV) (gp:List pR) (k:Int) (fuel:Nat),(pre++r).length≤100000→sh.length≤pre.length→gp.length≤pre.length→0≤k→k≤pre.length+1→r.length<fuel→
  cA B LL C1 fuel f (pre++r).length ((pre++r).flatMap bp) (o9 bp sh) (o9 jc gp) k ((pre++r).length:Int) (pre.length:Int)=some (.tup [mv bp (sh++cU pre.getLast? k r),mv jc (gp++py pre.getLast? k r)]):=by
 intro r
 induction r with
 |nil=>
  intro pre sh gp k fuel hl h1 h2 h3 h4 hf;cases fuel with
  |zero=>exact absurd hf (Nat.not_lt_zero _)
  |succ fuel=>
   rw[zb4,ra,de,bj];show _=some (D.tup [mv bp (sh++[]),mv jc (gp++[])]);rw[zb4,zb4]
 |cons m r ih=>
  intro pre sh gp k fuel hl h1 h2 h3 h4 hf;cases fuel with
  |zero=>exact absurd hf (Nat.not_lt_zero _)
  |succ fuel=>
   have hpl:pre.length+1≤100000:=by simp at hl;omega
   have ih:=fun sh gp (k:Int) (a1:sh.length≤pre.length+1) (a2:gp.length≤pre.length+1) (a3:0≤k) (a4:k≤pre.length+2)=>ih (pre++[m]) sh gp k fuel (by simpa using hl) (by simpa using a1) (by simpa using a2) a3 (by simp;omega) (by simp at hf;omega);rw[m8,List.getLast?_concat] at ih;have fin:∀q:Int,q=nx pre.getLast? k m→0≤q→q≤pre.length+1→bM B LL C1 fuel f (pre++m::r).length ((pre++m::r).flatMap bp) ((pre++m::r).length:Int) (pre.length:Int) (o9 bp sh) (o9 jc gp) q m.1 m.2.1 m.2.2.1 m.2.2.2.1 m.2.2.2.2.1 m.2.2.2.2.2=some (.tup [mv bp (sh++cU pre.getLast? k (m::r)),mv jc (gp++py pre.getLast? k (m::r))]):=fun q hq q1 q2=>by
    rw[KY m sh gp (by omega) (by omega),dw pre m r hl];show _=some (D.tup [mv bp (sh++bB (nx pre.getLast? k m==0) (cU (some m) 0 r) (bB (m.2.1 !=nx pre.getLast? k m) (cU (some m) 0 r) (m::cU (some m) (nx pre.getLast? k m+1) r))),mv jc (gp++bB (nx pre.getLast? k m==0) (py (some m) 0 r) (bB (m.2.1 !=nx pre.getLast? k m) ((m.1,nx pre.getLast? k m)::py (some m) 0 r) (py (some m) (nx pre.getLast? k m+1) r)))]);rw[←hq];cases hz:q==0 with
    |true=>
     have hz:q=0:=by simpa using hz
     rw[bv,bv,bv,hz];exact ih sh gp 0 (by omega) (by omega) (by omega) (by omega)
    |false=>
     rw[bj,bj,bj];cases hn:m.2.1 !=q with
     |true=>
      rw[bv,bv,bv,ih sh (gp++[(m.1,q)]) 0 (by omega) (by simp;omega) (by omega) (by omega)];simp
     |false=>
      rw[bj,bj,bj,cv (by omega),ih (sh++[m]) gp (q+1) (by simp;omega) (by omega) (by omega) (by omega)];simp
   rw[ra,dl,bv,dc,bq,jQ pre m r];rcases List.eq_nil_or_concat pre with rfl|⟨p,y,rfl⟩
   ·rw[show((([]:List MsgV).length:Int)==0)=true from rfl,bv];exact fin 1 rfl (by omega) (by omega)
   ·rw[List.concat_eq_append] at*;rw[dz,bj,dp p y m r hl,LN,bq];have cy:=g0 (γ:=D) (pre:=p) (x:=y) (r:=m::r);rw[←dq] at cy;rw[cy,gr];have hnx:∀b,nx (some y) b m=bB (dL y.1 m.1) b 1:=fun b=>rfl;rw[List.getLast?_concat] at fin ⊢;cases hs:dL y.1 m.1 with
    |true=>
     rw[show(!ByteArray.toList y.1==ByteArray.toList m.1)=false by rw[show(ByteArray.toList y.1==ByteArray.toList m.1)=dL y.1 m.1 from rfl,hs];rfl,bj];exact fin k (by rw[hnx,hs];rfl) h3 h4
    |false=>
     rw[show(!ByteArray.toList y.1==ByteArray.toList m.1)=true by rw[show(ByteArray.toList y.1==ByteArray.toList m.1)=dL y.1 m.1 from rfl,hs];rfl,bv];exact fin 1 (by rw[hnx,hs];rfl) (by omega) (by omega)
theorem K0{f:Bool}(l:List MsgV)(hl:l.length≤100000):bV 98 [.agg [mS f l]] (.tup [mv bp (cU none 1 l),mv jc (py none 1 l)]):=
 kX dE Tryz.func98 (ord:=O0) (N:=JT) (by kernel_rfl) ((Gr _ _ _ f _ _).trans (KZ l [] [] [] 1 LL hl (zb0 _) (zb0 _) (by omega) (by simp) (by unfold LL;omega)))
theorem Ju{f:Bool}(l:List MsgV)(hl:l.length≤100000)(hf:∀m∈l,m.Fit):bV 69 [.agg [mS f l]] (.tup [mv bp (DJ (bW l) (cU none 1 l)),.int .i64 (bW l)]):=by
 obtain⟨B,hB,hF⟩:=uR [one 65 [.agg [mS f l]] (.int .i64 (bW l)),one 98 [.agg [mS f l]] (.tup [mv bp (cU none 1 l),mv jc (py none 1 l)])] ⟨eh (Gn l hl hf),eh (K0 l hl),trivial⟩ rfl;have e0:B 65 [.agg [.slc f l.length (l.flatMap bp)]]=some (.int .i64 (bW l)):=hF.1 ();have e1:B 98 [.agg [.slc f l.length (l.flatMap bp)]]=some (.tup [mv bp (cU none 1 l),mv jc (py none 1 l)]):=hF.2.1 ();refine kX hB Tryz.func69 (ord:=O0) (N:=N0) (by kernel_rfl) ((Gi _ _ _ f _ _).trans ?_);rw[e0,bn,bw,e1,bn,na,nb,lO,lO,cM,nc,cM];unfold DJ;cases hz:bW l !=0 with
 |true=>rfl
 |false=>
  rw[bj,bj,lO,show bW l=0 by simpa using hz]
theorem K1{B:FuncId→List D→Option D}{f:Bool}{L:Nat}:∀(r pre:List MsgV) (fuel:Nat),(pre++r).length*72≤cH→r.length<fuel→
  mz B L C1 fuel f (pre++r).length ((pre++r).flatMap bp) (o9 bp pre) ((pre++r).length:Int) (pre.length:Int)=some (mv bp (pre++r)):=by
 intro r
 induction r with
 |nil=>
  intro pre fuel hl hf;cases fuel with
  |zero=>exact absurd hf (Nat.not_lt_zero _)
  |succ fuel=>
   rw[zb4];cases pre with
   |nil=>exact pq ..
   |cons o os=>
    refine(pu ..).trans ?_;rw[de,bj];rfl
 |cons m r ih=>
  intro pre fuel hl hf;cases fuel with
  |zero=>exact absurd hf (Nat.not_lt_zero _)
  |succ fuel=>
   have lim:cH=140737488355328:=rfl;have hw:IntKind.wrap .i64 ((pre.length:Int)+1)=((pre++[m]).length:Int):=by
    simp at hl;rw[cv (by omega)];simp
   have ih:=ih (pre++[m]) fuel (by simpa using hl) (by simp at hf;omega);rw[m8] at ih;rw[←ih,pd];cases pre with
   |nil=>
    refine(pq ..).trans ?_;rw[dl,bv,dc,bq,jQ [] m r,hw];rfl
   |cons o os=>
    refine(pu ..).trans ?_;rw[dl,bv,dc,bq,jQ (o::os) m r,hw,show decide ((os.length+1+1)*72≤cH∧os.length+1+1≤9223372036854775807)=true by(simp at hl ⊢;omega),bq];rfl
theorem Gt{f:Bool}(l:List MsgV)(hl:l.length*72≤cH):bV 30 [mS f l] (mS l.isEmpty l):=by
 have:=KC (L:=l.length+1) dE Tryz.func30 (ord:=O0) (N:=KM) (by kernel_rfl) ((Gj _ _ _ f _ _).trans (K1 l [] (l.length+1) hl (by omega)));rw[zb5,lO] at this;exact this
def JU(m:MsgV):Bool:= !decide ((m.1.size:Int)>60)&&(!decide ((m.2.2.1.size:Int)>60)&& !decide ((m.2.2.2.2.2.size:Int)>60))
def xX(l:List MsgV)(n:Int):Bool:= !decide ((l.length:Int)>n)&&l.all JU
theorem Gu{l:List MsgV}{n:Nat}(h:xX l n=true):l.length≤n∧∀m∈l,m.Fit:=by
 unfold xX at h;simp only[zc2,zd4,Bool.not_eq_true',decide_eq_false_iff_not] at h;refine⟨by omega,fun m hm=> ?_⟩;have:=h.2 m hm;unfold JU at this;simp only[zc2,Bool.not_eq_true',decide_eq_false_iff_not] at this;exact⟨by omega,by omega⟩
theorem K2{B:FuncId→List D→Option D}{f:Bool}:∀(r pre:List MsgV) (fuel:Nat),(pre++r).length≤100000→r.length<fuel→
  pv B LL C1 fuel f (pre++r).length ((pre++r).flatMap bp) (pre.length:Int)=some (.bool (r.all JU)):=by
 intro r
 induction r with
 |nil=>
  intro pre fuel hl hf;cases fuel with
  |zero=>exact absurd hf (Nat.not_lt_zero _)
  |succ fuel=>
   rw[zb4,qU,de,bj];rfl
 |cons m r ih=>
  intro pre fuel hl hf;cases fuel with
  |zero=>exact absurd hf (Nat.not_lt_zero _)
  |succ fuel=>
   have ih:=ih (pre++[m]) fuel (by simpa using hl) (by simp at hf;omega);rw[m8] at ih;rw[qU,dl,bv,dc,bq,g0,gr,bq,g2,gr,bq,show Int.toNat (pre.length:Int)*6+4+1=Int.toNat (pre.length:Int)*6+5 from rfl,g5,gr,dw pre m r hl,ih,List.all_cons];unfold JU;cases decide ((m.1.size:Int)>60)<;>cases decide ((m.2.2.1.size:Int)>60)<;>cases decide ((m.2.2.2.2.2.size:Int)>60)<;>rfl
theorem K3{f:Bool}(l:List MsgV)(n:Nat)(hn:n≤1000):bV 31 [mS f l,.int .i64 n] (.bool (xX l n)):=by
 refine kX dE Tryz.func31 (ord:=O0) (N:=KN) (by kernel_rfl) ((Gk _ _ _ f _ _ _).trans ?_);unfold xX;cases hd:decide ((l.length:Int)>n) with
 |true=>rfl
 |false=>
  rw[bj,show pv _ LL C1 LL f l.length (l.flatMap bp) 0=_ from K2 l [] LL (by simp at hd ⊢;omega) (by simp at hd;unfold LL;omega)];rfl
theorem K4{B:FuncId→List D→Option D}{f g:Bool}:∀(r pre:List MsgV) (fuel:Nat),(pre++r).length≤100000→r.length<fuel→
  sm B LL C1 fuel f (pre++r).length ((pre++r).flatMap bp) g (pre++r).length ((pre++r).flatMap bp) (pre.length:Int)=some (.bool true):=by
 intro r
 induction r with
 |nil=>
  intro pre fuel hl hf;cases fuel with
  |zero=>exact absurd hf (Nat.not_lt_zero _)
  |succ fuel=>
   rw[zb4,qX,de,bj]
 |cons m r ih=>
  intro pre fuel hl hf;cases fuel with
  |zero=>exact absurd hf (Nat.not_lt_zero _)
  |succ fuel=>
   have ih:=ih (pre++[m]) fuel (by simpa using hl) (by simp at hf;omega);rw[m8] at ih;rw[qX,dl,bv,dc,bq,jQ pre m r,bq,jQ pre m r];change bB (!uJ m m) _ _=_;rw[msgQ_iff.2 rfl,Bool.not_true,bj,dw pre m r hl,ih]
theorem Jv{f g:Bool}(l:List MsgV)(hl:l.length≤100000):bV 72 [mS f l,mS g l] (.bool true):=by
 refine kX dE Tryz.func72 (ord:=O0) (N:=KW) (by kernel_rfl) ((Gq _ _ _ f _ _ g _ _).trans ?_);rw[show((l.length:Int) !=(l.length:Int))=false by simp,bj];exact K4 l [] LL hl (by unfold LL;omega)
theorem DN{k:FuncId}{d r:D}(h:bV k [d,.slc true 0 []] r):bV k [d,.nils] r:=by
 refine⟨h.1,fun I w vs h1 h2 h3 h4=>h.2 I w vs h1 h2 h3 fun j e v he hv=> ?_⟩
 match j,he,hv with
 |0,he,hv=>exact h4 0 e v he hv
 |1,he,hv=>
  cases he;have:=h4 1 .nils v rfl hv;cases this;exact .slcn true
theorem Jw{f:Bool}:bV 72 [mS f [],.nils] (.bool true):=DN (Jv (f:=f) (g:=true) [] (by simp))
end Go.Pd
end
section
namespace Go.Pd
open Go Go.Proofs
set_option maxRecDepth 100000
end Go.Pd
end
section
namespace Go.Pd
open Go Go.Proofs Go.RowKit
set_option maxRecDepth 100000
section
variable {γ:Type}
theorem yY(a:D)(k:List D→Option γ):jo (.agg [a]) 1 k=k [a]:=rfl
theorem yZ(a:D)(k:D→Option γ):bi [a] 0 k=k a:=rfl
end
def Jy:=Bool×{l:List MsgV//l.length*72≤cH}
def fa30:Fam:=⟨30,Jy,fun i=>[mS i.1 i.2.1],fun i=>mS i.2.1.isEmpty i.2.1⟩
theorem y3:fa30.Good:=⟨fun i=>Gt i.2.1 i.2.2,fun i j h=>by
 obtain⟨f,l,hl⟩:=i;obtain⟨g,m,hm⟩:=j;have h:[mS f l]=[mS g m]:=h;simp only[zc3,and_true,D.slc.injEq] at h;show mS l.isEmpty l=mS m.isEmpty m;rw[fP h.2.2]⟩
def K5:=(Bool×List MsgV)×{n:Nat//n≤1000}
def fa31:Fam:=⟨31,K5,fun i=>[mS i.1.1 i.1.2,.int .i64 (i.2.1:Int)],fun i=> .bool (xX i.1.2 i.2.1)⟩
theorem rb:fa31.Good:=⟨fun i=>K3 i.1.2 i.2.1 i.2.2,fun i j h=>by
 obtain⟨⟨f,l⟩,n,hn⟩:=i;obtain⟨⟨g,m⟩,k,hk⟩:=j;have h:[mS f l,D.int .i64 (n:Int)]=[mS g m,D.int .i64 (k:Int)]:=h;simp only[zc3,and_true,D.slc.injEq,D.int.injEq,true_and] at h;show D.bool (xX l n)= .bool (xX m k);rw[fP h.1.2.2,h.2]⟩
def K6:=Bool×{l:List MsgV//l.length≤100000}
def fa35:Fam:=⟨35,K6,fun i=>[mS i.1 i.2.1],fun i=> .int .i64 (bW i.2.1)⟩
theorem y4:fa35.Good:=⟨fun i=>KV i.2.1 i.2.2,fun i j h=>by
 obtain⟨f,l,hl⟩:=i;obtain⟨g,m,hm⟩:=j;have h:[mS f l]=[mS g m]:=h;simp only[zc3,and_true,D.slc.injEq] at h;show D.int .i64 (bW l)= .int .i64 (bW m);rw[fP h.2.2]⟩
def K7:=(Bool×{l:List MsgV//l.length≤1000})×(Bool×{l:List MsgV//l.length≤1000})
def K8(f:Bool)(a b:List MsgV):D:= .tup [yU (jF f a b) (xV a b) (sv a b),.int .i64 (xV a b)]
inductive SamI where
 |two (f g:Bool) (l:List MsgV) (h:l.length≤100000)
 |one (f:Bool)
def SamI.ds:SamI→List D
 | .two f g l _=>[mS f l,mS g l]
 | .one f=>[mS f [],.nils]
def fa72:Fam:=⟨72,SamI,SamI.ds,fun _=> .bool true⟩
theorem y5:fa72.Good:=⟨fun i=>match i with
 | .two _ _ l h=>Jv l h
 | .one _=>Jw,fun _ _ _=>rfl⟩
theorem wP:∀(l:List MsgV) (p:Option MsgV) (k:Int),(cU p k l).length≤l.length
 |[],_,_=>zb0 _
 |m::r,p,k=>by
  show(bB (nx p k m==0) (cU (some m) 0 r) (bB (m.2.1 !=nx p k m) (cU (some m) 0 r) (m::cU (some m) (nx p k m+1) r))).length≤r.length+1;have i1:=wP r (some m) 0;have i2:=wP r (some m) (nx p k m+1);cases nx p k m==0 with
  |true=>rw[bv];omega
  |false=>
   rw[bj];cases m.2.1 !=nx p k m with
   |true=>rw[bv];omega
   |false=>rw[bj,za7];omega
structure FolB(a b:List MsgV)(m:MsgV)(B:FuncId→List D→Option D):Prop where
 h15:B 15 []=some (.bool true)
 h30:∀i:Jy,B 30 [mS i.1 i.2.1]=some (mS i.2.1.isEmpty i.2.1)
 h34:∀i:Int×Int,B 34 [.slc true 2 [.int .i64 i.1,.int .i64 i.2]]=some (.int .i64 (cN [i.1,i.2]))
 h71:∀i:K7,B 71 [mS i.1.1 i.1.2.1,mS i.2.1 i.2.2.1]=some (K8 i.1.1 i.1.2.1 i.2.2.1)
 h72:∀i:SamI,B 72 i.ds=some (.bool true)
 h73:bW a=0→B 73 [mS a.isEmpty a]=some (mv jc (KQ none none a))
 h74:B 74 [mS a.isEmpty a]=some (mv bp (KO none 1 a))
section
variable {a b:List MsgV}{m:MsgV}{B:FuncId→List D→Option D}(h:FolB a b m B)(ha:a.length≤20)(hb:b.length≤20)
include h ha
omit ha in
omit ha in
include hb
end
end Go.Pd
end
