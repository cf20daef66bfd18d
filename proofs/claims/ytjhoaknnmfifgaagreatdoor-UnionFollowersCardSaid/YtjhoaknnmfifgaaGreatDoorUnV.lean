import Derived.Test.YtjhoaknnmfifgaaGreatDoorUnU
import Derived.Test.YtjhoaknnmfifgaaGreatDoorUnQ
import Derived.Test.YtjhoaknnmfifgaaGreatDoorUnI
import Derived.Test.YtjhoaknnmfifgaaGreatDoorUnH
import Derived.Test.YtjhoaknnmfifgaaGreatDoorUnA
import Derived.KernelRfl
import Derived.Test.YtjhoaknnmfifgaaGreatDoorUnF
section
namespace Go.Pd
open Go Go.Proofs Go.RowKit
set_option maxRecDepth 100000
abbrev mS(f:Bool)(l:List MsgV):D:= .slc f l.length (l.flatMap bA)
theorem gE(l:List MsgV):(l.flatMap bA).length=l.length*6:=uL bA 6 (fun _=>rfl) l
theorem fX{l m:List MsgV}(h:l.flatMap bA=m.flatMap bA):l=m:=uJ (w:=6) (by omega) (fun _=>rfl) (fun _ _=>gD) h
theorem j4:∀l:List MsgV,(l.flatMap bA).all D.one=true
 |[]=>rfl
 |x::l=>by
  rw[List.flatMap_cons,List.all_append,j4 l];rfl
theorem rc(p q:List MsgV):List.take (p.length*6) ((p++q).flatMap bA)=p.flatMap bA:=by
 rw[zd2,←gE,List.take_left]
theorem rf(p q:List MsgV):List.drop (p.length*6) ((p++q).flatMap bA)=q.flatMap bA:=by
 rw[zd2,←gE,List.drop_left]
theorem uV(q:List MsgV):List.take (q.length*6) (q.flatMap bA)=q.flatMap bA:=List.take_of_length_le (by rw[gE];omega)
theorem nL{x:MsgV}(r:List MsgV):∀{pre:List MsgV},(∀z∈pre,cK z x=true)→fH (pre++r) x=fH r x∧ew (pre++r) x=pre++ew r x
 |[],_=>⟨rfl,rfl⟩
 |p::pre,h=>by
  obtain⟨i1,i2⟩:=nL r (pre:=pre) fun z hz=>h z (za5 _ hz);have hp:=h p (za4 ..);have hd:fH (p::(pre++r)) x=fH (pre++r) x:=by
   show List.dropWhile _ (p::(pre++r))=List.dropWhile _ (pre++r);rw[List.dropWhile_cons,hp];rfl
  have ht:ew (p::(pre++r)) x=p::ew (pre++r) x:=by
   show List.takeWhile _ (p::(pre++r))=p::List.takeWhile _ (pre++r);rw[List.takeWhile_cons,hp];rfl
  exact⟨hd.trans i1,ht.trans (congrArg (p::·) i2)⟩
theorem iD(A:List MsgV)(x:MsgV)(b:List MsgV):mU A (x::b)=(match jh A x with
   |some a'=>mU a' b
   |none=>none):=rfl
def lS(f:Bool)(l:List MsgV)(x:MsgV):D:=match jh l x with
 |none=> .tup [.slc true 0 [],.int .i64 29]
 |some l'=> .tup [mS (f&&l'.length==l.length) l',.int .i64 0]
theorem x3{l pre r:List MsgV}(x:MsgV)(hl:l.length≤100000)(hp:l=pre++r):
  (bB (decide (0≤(0:Int)∧(0:Int)≤(pre.length:Int)∧(pre.length:Int)≤(l.length:Int)))
   (bB (decide (List.length (List.take (Int.toNat ((pre.length:Int)-(0:Int))*6) (l.flatMap bA))=Int.toNat ((pre.length:Int)-(0:Int))*6))
   (bB (List.all (List.take (Int.toNat ((pre.length:Int)-(0:Int))*6) (l.flatMap bA)) D.one)
   (bG (decide (Int.toNat ((pre.length:Int)-(0:Int))=0))
   (bB (decide (0≤(pre.length:Int)∧(pre.length:Int)≤(l.length:Int)∧(l.length:Int)≤(l.length:Int)))
   (bB (decide (List.length (List.take (Int.toNat ((l.length:Int)-(pre.length:Int))*6) (List.drop (Int.toNat (pre.length:Int)*6) (l.flatMap bA)))=Int.toNat ((l.length:Int)-(pre.length:Int))*6))
   (bB (List.all (List.take (Int.toNat ((l.length:Int)-(pre.length:Int))*6) (List.drop (Int.toNat (pre.length:Int)*6) (l.flatMap bA))) D.one)
   (bB (decide ((1+Int.toNat ((l.length:Int)-(pre.length:Int)))*72≤bS∧1+Int.toNat ((l.length:Int)-(pre.length:Int))≤9223372036854775807))
   (some (D.tup [D.slc false (1+Int.toNat ((l.length:Int)-(pre.length:Int))) ([D.str x.1,D.int IntKind.i64 x.2.1,D.str x.2.2.1,D.int IntKind.i64 x.2.2.2.1,D.int IntKind.i64 x.2.2.2.2.1,D.str x.2.2.2.2.2]++List.take (Int.toNat ((l.length:Int)-(pre.length:Int))*6) (List.drop (Int.toNat (pre.length:Int)*6) (l.flatMap bA))),D.int IntKind.i64 0]))))))
   (bB (decide (0<Int.toNat ((pre.length:Int)-(0:Int))∧0=0∧(0+Int.toNat ((pre.length:Int)-(0:Int)))*72≤bS∧0+Int.toNat ((pre.length:Int)-(0:Int))≤4611686018427387903))
   (bB (decide ((0+Int.toNat ((pre.length:Int)-(0:Int))+1)*72≤bS∧0+Int.toNat ((pre.length:Int)-(0:Int))+1≤9223372036854775807))
   (bB (decide (0≤(pre.length:Int)∧(pre.length:Int)≤(l.length:Int)∧(l.length:Int)≤(l.length:Int)))
   (bB (decide (List.length (List.take (Int.toNat ((l.length:Int)-(pre.length:Int))*6) (List.drop (Int.toNat (pre.length:Int)*6) (l.flatMap bA)))=Int.toNat ((l.length:Int)-(pre.length:Int))*6))
   (bB (List.all (List.take (Int.toNat ((l.length:Int)-(pre.length:Int))*6) (List.drop (Int.toNat (pre.length:Int)*6) (l.flatMap bA))) D.one)
   (bB (decide ((0+Int.toNat ((pre.length:Int)-(0:Int))+1+Int.toNat ((l.length:Int)-(pre.length:Int)))*72≤bS∧0+Int.toNat ((pre.length:Int)-(0:Int))+1+Int.toNat ((l.length:Int)-(pre.length:Int))≤9223372036854775807))
   (some (D.tup [D.slc false (0+Int.toNat ((pre.length:Int)-(0:Int))+1+Int.toNat ((l.length:Int)-(pre.length:Int))) (List.take (Int.toNat ((pre.length:Int)-(0:Int))*6) (l.flatMap bA)++[D.str x.1,D.int IntKind.i64 x.2.1,D.str x.2.2.1,D.int IntKind.i64 x.2.2.2.1,D.int IntKind.i64 x.2.2.2.2.1,D.str x.2.2.2.2.2]++List.take (Int.toNat ((l.length:Int)-(pre.length:Int))*6) (List.drop (Int.toNat (pre.length:Int)*6) (l.flatMap bA))),D.int IntKind.i64 0]))))))))))))=some (.tup [mS false (pre++x::r),.int .i64 0]):=by
 have n0:l.length=pre.length+r.length:=by rw[hp];simp
 have n1:Int.toNat ((pre.length:Int)-(0:Int))=pre.length:=by omega
 have n2:Int.toNat ((l.length:Int)-(pre.length:Int))=r.length:=by omega
 have t1:List.take (pre.length*6) (l.flatMap bA)=pre.flatMap bA:=by rw[hp,rc]
 have t2:List.drop (pre.length*6) (l.flatMap bA)=r.flatMap bA:=by rw[hp,rf]
 have lim:bS=140737488355328:=rfl;rw[n1,n2,za3,t1,t2,uV,gE,gE,j4,j4];rw[show decide ((0:Int)≤0∧(0:Int)≤(pre.length:Int)∧(pre.length:Int)≤(l.length:Int))=true by simp;omega,bz,show decide (pre.length*6=pre.length*6)=true by simp,bz,bz,
  show decide ((0:Int)≤(pre.length:Int)∧(pre.length:Int)≤(l.length:Int)∧(l.length:Int)≤(l.length:Int))=true by simp;omega,bz,bz,show decide (r.length*6=r.length*6)=true by simp,bz,bz,bz,bz]
 cases pre with
 |nil=>
  rw[show decide (([]:List MsgV).length=0)=true from rfl,bC,show decide ((1+r.length)*72≤bS∧1+r.length≤9223372036854775807)=true by simp at n0;simp only[zc4];omega,bz];simp[bA,zd4]
 |cons p pre=>
  rw[show decide ((p::pre).length=0)=false by simp,bu];rw[show decide (0<(p::pre).length∧0=0∧(0+(p::pre).length)*72≤bS∧0+(p::pre).length≤4611686018427387903)=true by simp only[zc4];simp at n0 ⊢;omega,bz];rw[show decide ((0+(p::pre).length+1)*72≤bS∧0+(p::pre).length+1≤9223372036854775807)=true by simp only[zc4];omega,bz];rw[show decide ((0+(p::pre).length+1+r.length)*72≤bS∧0+(p::pre).length+1+r.length≤9223372036854775807)=true by simp only[zc4];omega,bz];have e:0+(p::pre).length+1+r.length=((p::pre)++x::r).length:=by simp;omega
  rw[e];simp[bA]
theorem ID{B:FuncId→List D→Option D}{l:List MsgV}{f:Bool}{x:MsgV}(hl:l.length≤100000)(h104:∀x:MsgV×MsgV,B 104 [.agg (bA x.1),.agg (bA x.2)]=some (.bool (cK x.1 x.2))):
  ∀(r pre:List MsgV) (fuel:Nat),l=pre++r→(∀z∈pre,cK z x=true)→r.length<fuel→nK B LL C1 fuel f l.length (l.flatMap bA) x.1 x.2.1 x.2.2.1 x.2.2.2.1 x.2.2.2.2.1 x.2.2.2.2.2 (pre.length:Int)=some (lS f l x):=by
 intro r
 induction r with
 |nil=>
  intro pre fuel hp hb hf;cases fuel with
  |zero=>exact absurd hf (Nat.not_lt_zero _)
  |succ fuel=>
   have ht:=x3 x hl hp;have hbh:fH l x=[]:=by rw[hp,(nL [] hb).1];rfl
   rw[zb3] at hp;have d0:decide ((pre.length:Int)<(l.length:Int))=false:=by rw[hp];simp
   rw[pC,d0,bu,bu,bu,ht];unfold lS jh;rw[hbh,hp];simp
 |cons y r ih=>
  intro pre fuel hp hb hf;cases fuel with
  |zero=>exact absurd hf (Nat.not_lt_zero _)
  |succ fuel=>
   have ht:=x3 x hl hp;have hpl:pre.length+1≤l.length:=by rw[hp];simp
   have d0:decide ((pre.length:Int)<(l.length:Int))=true:=by simp;omega
   have d1:decide ((0:Int)≤(pre.length:Int)∧(pre.length:Int)<(l.length:Int))=true:=by simp;omega
   have hst:IntKind.wrap .i64 ((pre.length:Int)+1)=((pre++[y]).length:Int):=by rw[c6 (by omega)];simp
   have e1:B 104 [.agg [.str y.1,.int .i64 y.2.1,.str y.2.2.1,.int .i64 y.2.2.2.1,.int .i64 y.2.2.2.2.1,.str y.2.2.2.2.2],.agg [.str x.1,.int .i64 x.2.1,.str x.2.2.1,.int .i64 x.2.2.2.1,.int .i64 x.2.2.2.2.1,.str x.2.2.2.2.2]]=some (.bool (cK y x)):=h104 (y,x);have e2:B 104 [.agg [.str x.1,.int .i64 x.2.1,.str x.2.2.1,.int .i64 x.2.2.2.1,.int .i64 x.2.2.2.2.1,.str x.2.2.2.2.2],.agg [.str y.1,.int .i64 y.2.1,.str y.2.2.1,.int .i64 y.2.2.2.1,.int .i64 y.2.2.2.2.1,.str y.2.2.2.2.2]]=some (.bool (cK x y)):=h104 (x,y);have cy:=fun c=>jw (γ:=D) pre y r c;rw[←hp] at cy;rw[pC,d0,bC,d1,bz,cy,e1,bv,bP];cases hby:cK y x with
   |true=>
    rw[bC,hst];refine ih (pre++[y]) fuel (by rw[hp];simp) (fun z hz=> ?_) (by simp at hf;omega);rcases za9.1 hz with hz|hz
    ·exact hb z hz
    ·rw[zc8.1 hz];exact hby
   |false=>
    have hbh:fH l x=y::r:=by
     rw[hp,(nL (y::r) hb).1];unfold fH;rw[List.dropWhile_cons,hby];rfl
    have hbf:ew l x=pre:=by
     rw[hp,(nL (y::r) hb).2];unfold ew;rw[List.takeWhile_cons,hby];simp
    rw[bu,bC,bz,cy];change bG (py y x) _ _=_;cases hq:py y x with
    |true=>
     have e:=msgQ_iff.1 hq;rw[bC];unfold lS jh;rw[hbh];show _=some (match(match fk y x with
      |true=>(match py y x with
       |true=>some l
       |false=>none)
      |false=>some (ew l x++x::y::r)) with
      |none=>_
      |some l'=>_)
     rw[hq,show fk y x=true by rw[e];exact keyQ_iff.2 ⟨rfl,rfl⟩];simp
    |false=>
     rw[bu,bC,bz,cy,e2,bv,bP];have hk:fk y x= !cK x y:=by
      cases hx:cK x y with
      |true=>
       cases hk:fk y x with
       |false=>rfl
       |true=>rw[uP] at hk;rw[sy hk] at hx;cases hx
      |false=>exact xX hby hx
     unfold lS jh;rw[hbh];show _=some (match(match fk y x with
      |true=>(match py y x with
       |true=>some l
       |false=>none)
      |false=>some (ew l x++x::y::r)) with
      |none=>_
      |some l'=>_)
     rw[hq,hk,hbf];cases cK x y with
     |false=>rfl
     |true=>
      rw[Bool.not_true,bu,ht];have:((pre++x::y::r).length==l.length)=false:=by rw[hp];simp
      show _=some (D.tup [mS (f&&(pre++x::y::r).length==l.length) (pre++x::y::r),.int .i64 0]);rw[this,Bool.and_false]
theorem IE{f:Bool}(l:List MsgV)(x:MsgV)(hl:l.length≤100000):ci 149 [mS f l,.agg (bA x)] (lS f l x):=by
 obtain⟨B,hB,hF⟩:=sr [fa104] ⟨pB,trivial⟩ rfl;exact jY hB Tryz.func149 (ord:=FJ) (N:=FI) (by kernel_rfl) ((Dj _ _ _ f _ _ x.1 x.2.1 x.2.2.1 x.2.2.2.1 x.2.2.2.2.1 x.2.2.2.2.2).trans (ID hl hF.1 l [] LL rfl (fun _ h=>by cases h) (by unfold LL;omega)))
def jF:Bool→List MsgV→List MsgV→Bool
 |f,_,[]=>f
 |f,a,x::b=>match jh a x with
  |some a'=>jF (f&&a'.length==a.length) a' b
  |none=>f
def mB(a b:List MsgV):Int:=match mU a b with
 |none=>29
 |some l=>bG (decide ((l.length:Int)>1000)) 5 0
def jq(a b:List MsgV):List MsgV:=(mU a b).getD []
def j5(e:Int)(l:List MsgV):List MsgV:=bG (e !=0) [] l
def u6(f:Bool)(e:Int)(l:List MsgV):D:=mS (e !=0||f) (j5 e l)
theorem w8{f:Bool}{e:Int}{l:List MsgV}(h:(e !=0)=true):u6 f e l= .slc true 0 []:=by
 unfold u6 j5;rw[h];rfl
theorem x4{A A':List MsgV}{x:MsgV}(h:jh A x=some A'):A'.length≤A.length+1:=by
 have hb:=congrArg List.length (bb A x);rw[za6] at hb;unfold jh at h;split at h
 ·cases h;simp
 ·rename_i y r he;split at h
  ·split at h
   ·cases h;omega
   ·cases h
  ·cases h;rw[he] at hb;simp at hb ⊢;omega
def IF:=Bool×{l:List MsgV//l.length≤100000}×MsgV
def fa149:Fam:=⟨149,IF,fun i=>[mS i.1 i.2.1.1,.agg (bA i.2.2)],fun i=>lS i.1 i.2.1.1 i.2.2⟩
theorem w9:fa149.Good:=⟨fun i=>IE i.2.1.1 i.2.2 i.2.1.2,fun i j h=>by
 obtain⟨f,⟨l,hl⟩,x⟩:=i;obtain⟨g,⟨m,hm⟩,y⟩:=j;have h:[mS f l,D.agg (bA x)]=[mS g m,D.agg (bA y)]:=h;simp only[zc2,and_true,D.agg.injEq,D.slc.injEq] at h;obtain⟨⟨h1,_,h2⟩,h3⟩:=h;have e1:=fX h2;have e2:=gD h3;show lS f l x=lS g m y;rw[h1,e1,e2]⟩
theorem J8{B:FuncId→List D→Option D}{b:List MsgV}{g:Bool}(hB:∀i:IF,B 149 [mS i.1 i.2.1.1,.agg (bA i.2.2)]=some (lS i.1 i.2.1.1 i.2.2))(hb:b.length≤1000):
  ∀(r pre:List MsgV) (f:Bool) (A:List MsgV) (fuel:Nat),b=pre++r→A.length+r.length≤100000→r.length+1<fuel→
  sx B LL C1 fuel g b.length (b.flatMap bA) f A.length (A.flatMap bA) 0 (pre.length:Int)=some (.tup [u6 (jF f A r) (mB A r) (jq A r),.int .i64 (mB A r)]):=by
 intro r
 induction r with
 |nil=>
  intro pre f A fuel hp hA hf;cases fuel with
  |zero=>exact absurd hf (Nat.not_lt_zero _)
  |succ fuel=>
   rw[zb3] at hp;rw[mt,show decide ((pre.length:Int)<(b.length:Int))=false by rw[hp];simp,bu,show((0:Int)==0)=true from rfl,bC,ms (hC:=c1),ms (hC:=c1)];show _=some (D.tup [u6 f (bG (decide ((A.length:Int)>1000)) 5 0) A,.int .i64 (bG (decide ((A.length:Int)>1000)) 5 0)]);cases decide ((A.length:Int)>1000)<;>rfl
 |cons x r ih=>
  intro pre f A fuel hp hA hf;cases fuel with
  |zero=>exact absurd hf (Nat.not_lt_zero _)
  |succ fuel=>
   have hpl:pre.length+1≤b.length:=by rw[hp];simp
   have d0:decide ((pre.length:Int)<(b.length:Int))=true:=by simp;omega
   have d1:decide ((0:Int)≤(pre.length:Int)∧(pre.length:Int)<(b.length:Int))=true:=by simp;omega
   have hst:IntKind.wrap .i64 ((pre.length:Int)+1)=((pre++[x]).length:Int):=by rw[c6 (by omega)];simp
   have e1:B 149 [.slc f A.length (A.flatMap bA),.agg [.str x.1,.int .i64 x.2.1,.str x.2.2.1,.int .i64 x.2.2.2.1,.int .i64 x.2.2.2.2.1,.str x.2.2.2.2.2]]=some (lS f A x):=hB (f,⟨A,by omega⟩,x);have cx:=fun c=>jw (γ:=D) pre x r c;rw[←hp] at cx;rw[mt,d0,bC,show((0:Int)==0)=true from rfl,bC,d1,bz,cx,e1,bv];cases hq:jh A x with
   |none=>
    have eR:lS f A x= .tup [.slc true 0 [],.int .i64 29]:=by unfold lS;rw[hq]
    have eE:mB A (x::r)=29:=by unfold mB;rw[iD,hq]
    rw[eR,eE,ml,mm,cJ,mn,bD,w8 rfl,hst];cases fuel with
    |zero=>exact absurd hf (by omega)
    |succ fuel=>
     rw[mt,show((29:Int)==0)=false from rfl,bu,bu,ms (hC:=c1)];cases decide (((pre++[x]).length:Int)<(b.length:Int))<;>rfl
   |some A'=>
    have hlen:=x4 hq;have eR:lS f A x= .tup [mS (f&&A'.length==A.length) A',.int .i64 0]:=by unfold lS;rw[hq]
    have eE:mB A (x::r)=mB A' r:=by unfold mB;rw[iD,hq]
    have eL:jq A (x::r)=jq A' r:=by unfold jq;rw[iD,hq]
    have eF:jF f A (x::r)=jF (f&&A'.length==A.length) A' r:=by show(match jh A x with|some a'=>_|none=>_)=_;rw[hq]
    rw[eR,eE,eL,eF,ml,mm,cJ,mn,bD,hst];exact ih (pre++[x]) _ A' fuel (by rw[hp];simp) (by simp at hA;omega) (by simp at hf;omega)
theorem J9{f g:Bool}(a b:List MsgV)(ha:a.length≤1000)(hb:b.length≤1000):ci 71 [mS f a,mS g b] (.tup [u6 (jF f a b) (mB a b) (jq a b),.int .i64 (mB a b)]):=by
 obtain⟨B,hB,hF⟩:=sr [fa149] ⟨w9,trivial⟩ rfl;exact jY hB Tryz.func71 (ord:=O0) (N:=I6) (by kernel_rfl) ((FC _ _ _ f _ _ g _ _).trans (J8 hF.1 hb b [] f a LL rfl (by omega) (by unfold LL;omega)))
def jR(a b:List MsgV):D:=match mU a b with
 |none=> .tup [.slc true 0 [],.bool false]
 |some l=> .tup [mS false l,.bool true]
theorem Dk{A:List MsgV}{x:MsgV}(h:(match fH A x with
   |[]=>false
   |y::_=>fk y x)=false):jh A x=some (ew A x++x::fH A x):=by
 have hb:=bb A x;unfold jh;cases hq:fH A x with
 |nil=>
  rw[hq,zb3] at hb;show some (A++[x])=some (ew A x++[x]);rw[hb]
 |cons y r=>
  rw[hq] at h;show(match fk y x with|true=>_|false=>_)=_;rw[show fk y x=false from h]
theorem yT(P Q:List MsgV)(x:MsgV):List.take (P.length*6) ((P++Q).flatMap bA)++([D.str x.1,.int .i64 x.2.1,.str x.2.2.1,.int .i64 x.2.2.2.1,.int .i64 x.2.2.2.2.1,.str x.2.2.2.2.2]++List.drop (P.length*6) ((P++Q).flatMap bA))=(P++x::Q).flatMap bA:=by
 rw[rc,rf,zd2,List.flatMap_cons];rfl
def IG:={l:List MsgV//l.length≤100000∧pS l}×MsgV
def yU(l:List MsgV)(x:MsgV):D:= .tup [.int .i64 ((ew l x).length:Int),.bool (match fH l x with
   |[]=>false
   |y::_=>fk y x)]
def fa273:Fam:=⟨273,IG,fun i=>[mS false i.1.1,.agg (bA i.2),.fn (.func 146) [] []],fun i=>yU i.1.1 i.2⟩
theorem xa:fa273.Good:=⟨fun i=>IC i.1.1 i.2 i.1.2.1 i.1.2.2,fun i j h=>by
 obtain⟨⟨l,hl⟩,x⟩:=i;obtain⟨⟨m,hm⟩,y⟩:=j;have h:[mS false l,D.agg (bA x),.fn (.func 146) [] []]=[mS false m,D.agg (bA y),.fn (.func 146) [] []]:=h;simp only[zc2,and_true,D.agg.injEq,D.slc.injEq] at h;have e1:=fX h.1.2.2;have e2:=gD h.2;show yU l x=yU m y;rw[e1,e2]⟩
theorem IH{B mu:FuncId→List D→Option D}{b:List MsgV}{g:Bool}(hB:∀i:IG,B 273 [mS false i.1.1,.agg (bA i.2),.fn (.func 146) [] []]=some (yU i.1.1 i.2))(hb:b.length≤1000):
  ∀(r pre A:List MsgV) (fuel:Nat),b=pre++r→A.length+r.length≤100000→pS A→r.length<fuel→
  j3 B mu LL C1 fuel g b.length (b.flatMap bA) A.length (b.length:Int) (pre.length:Int) (A.flatMap bA)=some (jR A r):=by
 intro r
 induction r with
 |nil=>
  intro pre A fuel hp hA ha hf;cases fuel with
  |zero=>exact absurd hf (Nat.not_lt_zero _)
  |succ fuel=>
   rw[zb3] at hp;rw[mV,show decide ((pre.length:Int)<(b.length:Int))=false by rw[hp];simp,bu];rfl
 |cons x r ih=>
  intro pre A fuel hp hA ha hf;cases fuel with
  |zero=>exact absurd hf (Nat.not_lt_zero _)
  |succ fuel=>
   have hpl:pre.length+1≤b.length:=by rw[hp];simp
   have d0:decide ((pre.length:Int)<(b.length:Int))=true:=by simp;omega
   have d1:decide ((0:Int)≤(pre.length:Int)∧(pre.length:Int)<(b.length:Int))=true:=by simp;omega
   have hst:IntKind.wrap .i64 ((pre.length:Int)+1)=((pre++[x]).length:Int):=by rw[c6 (by omega)];simp
   have e1:B 273 [.slc false A.length (A.flatMap bA),.agg [.str x.1,.int .i64 x.2.1,.str x.2.2.1,.int .i64 x.2.2.2.1,.int .i64 x.2.2.2.2.1,.str x.2.2.2.2.2],.fn (.func 146) [] []]=some (yU A x):=hB (⟨A,by omega,ha⟩,x);have cx:=fun c=>jw (γ:=D) pre x r c;rw[←hp] at cx;have hbb:=bb A x;have hbl:=congrArg List.length hbb;rw[za6] at hbl;have ih:=fun A' (hq:jh A x=some A')=>ih (pre++[x]) A' fuel (by rw[hp];simp) (by have:=x4 hq;simp at hA;omega) (Df ha hq).1 (by simp at hf;omega);have eJ:∀A',jh A x=some A'→jR A (x::r)=jR A' r:=fun A' hq=>by unfold jR;rw[iD,hq]
   rw[mV,d0,bC,d1,bz,cx,e1,bv];unfold yU;rw[ml,mm,bD,mn,bP];cases hk:(match fH A x with
     |[]=>false
     |y::_=>fk y x) with
   |false=>
    have hq:=Dk hk;have hc:=yT (ew A x) (fH A x) x;rw[hbb] at hc;have hn:A.length+1=(ew A x++x::fH A x).length:=by simp;omega
    have lim:bS=140737488355328:=rfl;rw[bu,show decide ((0:Int)≤((ew A x).length:Int)∧((ew A x).length:Int)≤(A.length:Int))=true by simp;omega,bz,show decide ((A.length+1)*72≤bS)=true by(rw[lim];simp only[zc4];simp at hA;omega),bz,j4,bz,za3,hc,hn,hst,ih _ hq,eJ _ hq]
   |true=>
    cases hbh:fH A x with
    |nil=>rw[hbh] at hk;cases hk
    |cons y r'=>
     rw[hbh] at hk hbb hbl;have hk:fk y x=true:=hk;have cy:=fun c=>jw (γ:=D) (ew A x) y r' c;rw[hbb] at cy;rw[bC,show decide ((0:Int)≤((ew A x).length:Int)∧((ew A x).length:Int)<(A.length:Int))=true by(rw[za7] at hbl;simp only[zc4];omega),bz,cy];change bG (!py y x) _ _=_;have hpm:jh A x=(match py y x with
       |true=>some A
       |false=>none):=by
      unfold jh;rw[hbh];show(match fk y x with|true=>_|false=>_)=_;rw[hk];rfl
     cases hq:py y x with
     |true=>
      rw[hq] at hpm;rw[Bool.not_true,bu,hst,ih A hpm,eJ A hpm]
     |false=>
      rw[hq] at hpm;rw[Bool.not_false,bC];unfold jR;rw[iD,hpm]
theorem x5(z:List D):∀n,(dJ n z).length=n*z.length
 |0=>by simp[dJ]
 |n+1=>by rw[dJ,za6,x5 z n,Nat.add_mul];omega
theorem II{f g:Bool}(a b:List MsgV)(ha:a.length≤1000)(hb:b.length≤1000)(h:pS a):ci 219 [mS f a,mS g b,.fn (.func 146) [] []] (jR a b):=by
 obtain⟨B,hB,hF⟩:=sr [fa273] ⟨xa,trivial⟩ rfl;refine K9 (mu:=fun _ _=>none) hB Tryz.func219 (ord:=O0) (N:=FH) (by kernel_rfl) ((Di _ _ _ _ f _ _ g _ _).trans ?_);have hw:IntKind.wrap .i64 ((a.length:Int)+(b.length:Int))=((a.length+b.length:Nat):Int):=by rw[c6 (by omega)];simp
 have hz:∀n,(dJ n [D.str (ByteArray.mk #[]),D.int IntKind.i64 0,D.str (ByteArray.mk #[]),D.int IntKind.i64 0,D.int IntKind.i64 0,D.str (ByteArray.mk #[])]).length=n*6:=fun n=>x5 _ n;have hwr:=qT (a.flatMap bA) [] (dJ a.length [D.str (ByteArray.mk #[]),D.int IntKind.i64 0,D.str (ByteArray.mk #[]),D.int IntKind.i64 0,D.int IntKind.i64 0,D.str (ByteArray.mk #[])]) [] (by rw[hz,gE]);rw[zb3,zb3,zb4,zb4] at hwr;rw[hw,za3,hz,gE,j4,Nat.min_self,uV,show decide ((0:Int)≤(a.length:Int)∧(a.length:Int)≤((a.length+b.length:Nat):Int)∧((a.length+b.length:Nat):Int)*(72:Int)≤140737488355328∧((a.length+b.length:Nat):Int)≤9223372036854775807)=true by simp only[zc4];omega,bz,
  show decide (a.length*6=a.length*6∧true=true∧0+a.length*6≤a.length*6)=true by simp,bz]
 rw[show([]:List D).length=0 from rfl] at hwr;rw[hwr];exact IH hF.1 hb b [] a LL rfl (by omega) h (by unfold LL;omega)
theorem Dl(a b:List MsgV):(jR a b= .tup [.slc true 0 [],.bool false]∧mB a b=29)∨(jR a b= .tup [mS false (jq a b),.bool true]∧mB a b=bG (decide (((jq a b).length:Int)>1000)) 5 0):=by
 unfold jR mB jq;cases mU a b with
 |none=>exact .inl ⟨rfl,rfl⟩
 |some l=>exact .inr ⟨rfl,rfl⟩
theorem DM{f g:Bool}(a b:List MsgV)(ha:a.length≤1000)(hb:b.length≤1000)(h:pS a):ci 148 [.agg [mS f a],.agg [mS g b]] (.tup [.agg [u6 false (mB a b) (jq a b)],.int .i64 (mB a b)]):=by
 obtain⟨B,hB,hF⟩:=sr [one 219 [mS f a,mS g b,.fn (.func 146) [] []] (jR a b),fa119,fa87] ⟨cP (II a b ha hb h),je,iC,trivial⟩ rfl;obtain⟨a1,a2,a3,_⟩:=hF;have e0:B 219 [.slc f a.length (a.flatMap bA),.slc g b.length (b.flatMap bA),.fn (.func 146) [] []]=some (jR a b):=a1 ();have e2:∀(b:Bool) (e:Int),B 119 [.bool b,.int .i64 e]=some (.int .i64 (bG b e 0)):=fun b e=>a2 (b,e);have e3:∀a b:Int,B 87 [.slc true 2 [.int .i64 a,.int .i64 b]]=some (.int .i64 (cw [a,b])):=fun a b=>a3 ⟨[a,b],by simp⟩;refine jY hB Tryz.func148 (ord:=O0) (N:=N0) (by kernel_rfl) ((Db _ _ _ f _ _ g _ _).trans ?_);rw[e0,bv];rcases Dl a b with⟨h1,h2⟩|⟨h1,h2⟩
 ·rw[h1,h2,ml,mm,cJ,mn,bP,e2,bv,bD,e2,bv,bD,e3,bv,bD];rfl
 ·rw[h1,h2,ml,mm,cJ,mn,bP,e2,bv,bD,e2,bv,bD,e3,bv,bD];cases decide (((jq a b).length:Int)>1000)<;>rfl
def fa65:Fam:=⟨65,Bool×' (l:List MsgV)×' (l.length≤100000)×' (∀m∈l,m.Fit),fun i=>[.agg [mS i.1 i.2.1]],fun i=> .int .i64 (bL i.2.1)⟩
theorem rg:fa65.Good:=⟨fun i=>Dh i.2.1 i.2.2.1 i.2.2.2,fun i j h=>by
 have h:[D.agg [mS i.1 i.2.1]]=[D.agg [mS j.1 j.2.1]]:=h;simp only[zc2,and_true,D.agg.injEq,D.slc.injEq] at h;show D.int .i64 (bL i.2.1)= .int .i64 (bL j.2.1);rw[fX h.2.2]⟩
def kZ(e:Int)(a b:List MsgV):Int:=bG (e !=0) e (mB a b)
theorem Ka{f:Bool}(a:List MsgV)(m:MsgV)(ha:a.length≤1000)(hf:∀m∈a,m.Fit)(hm:m.Fit):ci 67 [.agg [mS f a],.agg (bA m)] (.tup [.agg [u6 false (kZ (cw [bL a,dH m]) a [m]) (jq a [m])],.int .i64 (kZ (cw [bL a,dH m]) a [m])]):=by
 have main:∀F:Fam,F.Good→(F.f=148∧True)→(∀B:FuncId→List D→Option D,(∀i,B F.f (F.a i)=some (F.r i))→cw [bL a,dH m]=0→B 148 [.agg [mS f a],.agg [mS true [m]]]=some (.tup [.agg [u6 false (mB a [m]) (jq a [m])],.int .i64 (mB a [m])]))→ci 67 [.agg [mS f a],.agg (bA m)] (.tup [.agg [u6 false (kZ (cw [bL a,dH m]) a [m]) (jq a [m])],.int .i64 (kZ (cw [bL a,dH m]) a [m])]):=fun F hF hf' hB148=>by
  obtain⟨B,hB,hX⟩:=sr [one 65 [.agg [mS f a]] (.int .i64 (bL a)),fa66,fa87,F] ⟨cP (Dh a (by omega) hf),mA,iC,hF,trivial⟩ (by simp[wK,one,fa66,fa87,hf'.1]);obtain⟨a1,a2,a3,a4,_⟩:=hX;have e0:B 65 [.agg [.slc f a.length (a.flatMap bA)]]=some (.int .i64 (bL a)):=a1 ();have e1:B 66 [.agg [.str m.1,.int .i64 m.2.1,.str m.2.2.1,.int .i64 m.2.2.2.1,.int .i64 m.2.2.2.2.1,.str m.2.2.2.2.2]]=some (.int .i64 (dH m)):=a2 ⟨m,hm⟩;have e3:∀a b:Int,B 87 [.slc true 2 [.int .i64 a,.int .i64 b]]=some (.int .i64 (cw [a,b])):=fun a b=>a3 ⟨[a,b],by simp⟩;refine jY hB Tryz.func67 (ord:=O0) (N:=N0) (by kernel_rfl) ((Fw _ _ _ f _ _ m.1 m.2.1 m.2.2.1 m.2.2.2.1 m.2.2.2.2.1 m.2.2.2.2.2).trans ?_);rw[e0,bv,bD,e1,bv,bD,e3,bv,bD];unfold kZ;cases hz:cw [bL a,dH m] !=0 with
  |true=>
   rw[bC,bC,w8 hz]
  |false=>
   have hz:cw [bL a,dH m]=0:=by simpa using hz
   have e4:B 148 [.agg [.slc f a.length (a.flatMap bA)],.agg [.slc true 1 [.str m.1,.int .i64 m.2.1,.str m.2.2.1,.int .i64 m.2.2.2.1,.int .i64 m.2.2.2.2.1,.str m.2.2.2.2.2]]]=_:=hB148 B a4 hz;rw[bu,bu,e4,bv];rfl
 by_cases hz:cw [bL a,dH m]=0
 ·exact main (one 148 [.agg [mS f a],.agg [mS true [m]]] _) (cP (DM a [m] ha (by simp) (nF (jg hz).1).2.1)) ⟨rfl,trivial⟩ fun B h _=>h ()
 ·exact main ⟨148,Empty,fun _=>[],fun _=> .nils⟩ ⟨fun i=>i.elim,fun i=>i.elim⟩ ⟨rfl,trivial⟩ fun B h hz'=>absurd hz' hz
theorem Kb{f g:Bool}(a b:List MsgV)(ha:a.length≤1000)(hb:b.length≤1000)(hf:∀m∈a,m.Fit)(hg:∀m∈b,m.Fit):ci 68 [.agg [mS f a],.agg [mS g b]] (.tup [.agg [u6 false (kZ (cw [bL a,bL b]) a b) (jq a b)],.int .i64 (kZ (cw [bL a,bL b]) a b)]):=by
 have main:∀F:Fam,F.Good→(F.f=148∧True)→(∀B:FuncId→List D→Option D,(∀i,B F.f (F.a i)=some (F.r i))→cw [bL a,bL b]=0→B 148 [.agg [mS f a],.agg [mS g b]]=some (.tup [.agg [u6 false (mB a b) (jq a b)],.int .i64 (mB a b)]))→ci 68 [.agg [mS f a],.agg [mS g b]] (.tup [.agg [u6 false (kZ (cw [bL a,bL b]) a b) (jq a b)],.int .i64 (kZ (cw [bL a,bL b]) a b)]):=fun F hF hf' hB148=>by
  obtain⟨B,hB,hX⟩:=sr [fa65,fa87,F] ⟨rg,iC,hF,trivial⟩ (by simp[wK,fa65,fa87,hf'.1]);obtain⟨a1,a3,a4,_⟩:=hX;have e0:B 65 [.agg [.slc f a.length (a.flatMap bA)]]=some (.int .i64 (bL a)):=a1 ⟨f,a,by omega,hf⟩;have e1:B 65 [.agg [.slc g b.length (b.flatMap bA)]]=some (.int .i64 (bL b)):=a1 ⟨g,b,by omega,hg⟩;have e3:∀a b:Int,B 87 [.slc true 2 [.int .i64 a,.int .i64 b]]=some (.int .i64 (cw [a,b])):=fun a b=>a3 ⟨[a,b],by simp⟩;refine jY hB Tryz.func68 (ord:=O0) (N:=N0) (by kernel_rfl) ((Fy _ _ _ f _ _ g _ _).trans ?_);rw[e0,bv,bD,e1,bv,bD,e3,bv,bD];unfold kZ;cases hz:cw [bL a,bL b] !=0 with
  |true=>
   rw[bC,bC,w8 hz]
  |false=>
   have hz:cw [bL a,bL b]=0:=by simpa using hz
   have e4:B 148 [.agg [.slc f a.length (a.flatMap bA)],.agg [.slc g b.length (b.flatMap bA)]]=_:=hB148 B a4 hz;rw[bu,bu,e4,bv];rfl
 by_cases hz:cw [bL a,bL b]=0
 ·exact main (one 148 [.agg [mS f a],.agg [mS g b]] _) (cP (DM a b ha hb (nF (jg hz).1).2.1)) ⟨rfl,trivial⟩ fun B h _=>h ()
 ·exact main ⟨148,Empty,fun _=>[],fun _=> .nils⟩ ⟨fun i=>i.elim,fun i=>i.elim⟩ ⟨rfl,trivial⟩ fun B h hz'=>absurd hz' hz
theorem rh(call:CL)(L:Nat)(C:Nat→Nat)(n:Nat)(vf0_f:Bool)(vf0_n:Nat)(vf0_c:List D)(vnext:Int)(t11:Int)(t12:Int)(sh:List MsgV)(gp:List gn):cM call L C (n+1) vf0_f vf0_n vf0_c (ib bA sh) (ib cX gp) (vnext) (t11) (t12)=
 (bG (decide (t12<t11))
  (bB (decide (0≤t12∧t12<(vf0_n:Int)))
   (br (vf0_c) (Int.toNat t12*6+0) fun d=>
   (bN (d) fun s=>
   (br (vf0_c) (Int.toNat t12*6+1) fun d_1=>
   (bH IntKind.i64 (d_1) fun x=>
   (br (vf0_c) (Int.toNat t12*6+2) fun d_2=>
   (bN (d_2) fun s_1=>
   (br (vf0_c) (Int.toNat t12*6+3) fun d_3=>
   (bH IntKind.i64 (d_3) fun x_1=>
   (br (vf0_c) (Int.toNat t12*6+4) fun d_4=>
   (bH IntKind.i64 (d_4) fun x_2=>
   (br (vf0_c) (Int.toNat t12*6+5) fun d_5=>
   (bN (d_5) fun s_2=>
   (bG (t12==0)
    (bY call L C n vf0_f vf0_n vf0_c t11 t12 (ib bA sh) (ib cX gp) (1) (s) (x) (s_1) (x_1) (x_2) (s_2))
    (bB (decide (0≤IntKind.wrap IntKind.i64 (t12-1)∧IntKind.wrap IntKind.i64 (t12-1)<(vf0_n:Int)))
     (br (vf0_c) (Int.toNat (IntKind.wrap IntKind.i64 (t12-1))*6+0) fun d_6=>
     (bN (d_6) fun s_3=>
     (bG (!ByteArray.toList s_3==ByteArray.toList s)
      (bY call L C n vf0_f vf0_n vf0_c t11 t12 (ib bA sh) (ib cX gp) (1) (s) (x) (s_1) (x_1) (x_2) (s_2))
      (bY call L C n vf0_f vf0_n vf0_c t11 t12 (ib bA sh) (ib cX gp) (vnext) (s) (x) (s_1) (x_1) (x_2) (s_2))))))))))))))))))))
  (some (D.tup [ia bA sh,ia cX gp]))):=by
 cases sh with
 |nil=>
  cases gp with
  |nil=>exact sF ..
  |cons g gp=>exact sG ..
 |cons m sh=>
  cases gp with
  |nil=>exact sH ..
  |cons g gp=>exact sI ..
theorem rk(call:CL)(L:Nat)(C:Nat→Nat)(n:Nat)(vl_f:Bool)(vl_n:Nat)(vl_c:List D)(vnext:Int)(vi:Int)(sh:List MsgV):fi call L C (n+1) vl_f vl_n vl_c (ib bA sh) (vnext) (vi)=
 (bG (decide (vi<(vl_n:Int)))
  (bG (decide (vi>0))
   (bB (decide (0≤vi∧vi<(vl_n:Int)))
    (br (vl_c) (Int.toNat vi*6+0) fun d=>
    (bN (d) fun s=>
    (bB (decide (0≤IntKind.wrap IntKind.i64 (vi-1)∧IntKind.wrap IntKind.i64 (vi-1)<(vl_n:Int)))
     (br (vl_c) (Int.toNat (IntKind.wrap IntKind.i64 (vi-1))*6+0) fun d_1=>
     (bN (d_1) fun s_1=>
     (bG (!ByteArray.toList s==ByteArray.toList s_1)
      (du call L C n vl_f vl_n vl_c vi (ib bA sh) (1))
      (du call L C n vl_f vl_n vl_c vi (ib bA sh) (vnext)))))))))
   (du call L C n vl_f vl_n vl_c vi (ib bA sh) (vnext)))
  (some (ia bA sh))):=by
 cases sh with
 |nil=>exact uT ..
 |cons m sh=>exact uU ..
theorem uW(call:CL)(L:Nat)(C:Nat→Nat)(n:Nat)(vl_f:Bool)(vl_n:Nat)(vl_c:List D)(vi:Int)(gp:List gn):fI call L C (n+1) vl_f vl_n vl_c (ib cX gp) (vi)=
 (bG (decide (vi<(vl_n:Int)))
  (bG (decide (vi>0))
   (bB (decide (0≤IntKind.wrap IntKind.i64 (vi-1)∧IntKind.wrap IntKind.i64 (vi-1)<(vl_n:Int)))
    (br (vl_c) (Int.toNat (IntKind.wrap IntKind.i64 (vi-1))*6+0) fun d=>
    (bN (d) fun s=>
    (bB (decide (0≤vi∧vi<(vl_n:Int)))
     (br (vl_c) (Int.toNat vi*6+0) fun d_1=>
     (bN (d_1) fun s_1=>
     (bG (ByteArray.toList s==ByteArray.toList s_1)
      (bB (decide (0≤IntKind.wrap IntKind.i64 (vi-1)∧IntKind.wrap IntKind.i64 (vi-1)<(vl_n:Int)))
       (br (vl_c) (Int.toNat (IntKind.wrap IntKind.i64 (vi-1))*6+1) fun d_2=>
       (bH IntKind.i64 (d_2) fun x=>
       (dr call L C n vl_f vl_n vl_c vi (ib cX gp) (x)))))
      (dr call L C n vl_f vl_n vl_c vi (ib cX gp) (0)))))))))
   (dr call L C n vl_f vl_n vl_c vi (ib cX gp) (0)))
  (some (ia cX gp))):=by
 cases gp with
 |nil=>exact w6 ..
 |cons g gp=>exact w7 ..
theorem xb{i:Nat}(h:i≤1000000):decide ((i+1)*72≤bS∧i+1≤9223372036854775807)=true:=by
 simp only[zc4];rw[show bS=140737488355328 from rfl];omega
theorem Dm{α:Type}(g:α→List D)(p:List α)(y:α):ib g (p++[y])= .own (p++[y]).length ((p++[y]).flatMap g):=by
 rw[iB,zd2,za6];simp
section
variable {γ:Type}(c:D→Option γ)
theorem Kc(pre:List gn)(x:gn)(r:List gn):br ((pre++x::r).flatMap cX) (Int.toNat (pre.length:Int)*2+0) c=c (.str x.1):=ct pre x r cX 2 (fun _=>rfl) 0 (by omega) c
theorem KO(pre:List gn)(x:gn)(r:List gn):br ((pre++x::r).flatMap cX) (Int.toNat (pre.length:Int)*2+1) c=c (.int .i64 x.2):=ct pre x r cX 2 (fun _=>rfl) 1 (by omega) c
end
section
variable (pre:List MsgV)(m:MsgV)(r:List MsgV)(h:(pre++m::r).length≤100000)
theorem dl:decide ((pre.length:Int)<((pre++m::r).length:Int))=true:=by simp;omega
theorem dc:decide ((0:Int)≤(pre.length:Int)∧(pre.length:Int)<((pre++m::r).length:Int))=true:=by simp;omega
include h
theorem dw:IntKind.wrap .i64 ((pre.length:Int)+1)=((pre++[m]).length:Int):=by
 simp at h;rw[c6 (by omega)];simp
end
theorem de(pre:List MsgV):decide ((pre.length:Int)<(pre.length:Int))=false:=by simp
section
variable (p:List MsgV)(y m:MsgV)(r:List MsgV)(h:(p++[y]++m::r).length≤100000)
include h
theorem dp:IntKind.wrap .i64 (((p++[y]).length:Int)-1)=(p.length:Int):=by
 simp at h;rw[c6 (by simp;omega)];simp
omit h
theorem Ke:decide ((0:Int)≤(p.length:Int)∧(p.length:Int)<((p++[y]++m::r).length:Int))=true:=by simp;omega
theorem dq:p++[y]++m::r=p++y::(m::r):=by simp
theorem KP:decide (((p++[y]).length:Int)>0)=true:=by simp only[za6,zc4];simp
theorem dz:(((p++[y]).length:Int)==0)=false:=by rw[beq_eq_false_iff_ne];simp;omega
end
theorem Kf{n N:Nat}{f:Bool}{c:List D}{t11 t12 q:Int}(m:MsgV)(sh:List MsgV)(gp:List gn)(h1:sh.length≤100000)(h2:gp.length≤100000){B:FuncId→List D→Option D}:
  bY B LL C1 n f N c t11 t12 (ib bA sh) (ib cX gp) q m.1 m.2.1 m.2.2.1 m.2.2.2.1 m.2.2.2.2.1 m.2.2.2.2.2=
  bG (q==0) (cM B LL C1 n f N c (ib bA sh) (ib cX gp) q t11 (IntKind.wrap .i64 (t12+1))) (bG (m.2.1 !=q) (cM B LL C1 n f N c (ib bA sh) (ib cX (gp++[(m.1,q)])) 0 t11 (IntKind.wrap .i64 (t12+1)))
   (cM B LL C1 n f N c (ib bA (sh++[m])) (ib cX gp) (IntKind.wrap .i64 (q+1)) t11 (IntKind.wrap .i64 (t12+1)))):=by
 rw[iB,iB];cases sh with
 |nil=>
  cases gp with
  |nil=>exact m8 (hC:=c1) ..
  |cons g gp=>
   refine(m9 (hC:=c1) ..).trans ?_;rw[wN (i:=gp.length+1) (by simp at h2;omega),bz];rfl
 |cons o sh=>
  cases gp with
  |nil=>
   refine(na (hC:=c1) ..).trans ?_;rw[xb (i:=sh.length+1) (by simp at h1;omega),bz];rfl
  |cons g gp=>
   refine(nb (hC:=c1) ..).trans ?_;rw[xb (i:=sh.length+1) (by simp at h1;omega),wN (i:=gp.length+1) (by simp at h2;omega),bz,bz];rfl
theorem Kg{B:FuncId→List D→Option D}{f:Bool}:∀(r pre:List MsgV) (sh:List MsgV) (gp:List gn) (k:Int) (fuel:Nat),(pre++r).length≤100000→sh.length≤pre.length→gp.length≤pre.length→0≤k→k≤pre.length+1→r.length<fuel→
  cM B LL C1 fuel f (pre++r).length ((pre++r).flatMap bA) (ib bA sh) (ib cX gp) k ((pre++r).length:Int) (pre.length:Int)=some (.tup [ia bA (sh++dK pre.getLast? k r),ia cX (gp++dC pre.getLast? k r)]):=by
 intro r
 induction r with
 |nil=>
  intro pre sh gp k fuel hl h1 h2 h3 h4 hf;cases fuel with
  |zero=>exact absurd hf (Nat.not_lt_zero _)
  |succ fuel=>
   rw[zb3,rh,de,bu];show _=some (D.tup [ia bA (sh++[]),ia cX (gp++[])]);rw[zb3,zb3]
 |cons m r ih=>
  intro pre sh gp k fuel hl h1 h2 h3 h4 hf;cases fuel with
  |zero=>exact absurd hf (Nat.not_lt_zero _)
  |succ fuel=>
   have hpl:pre.length+1≤100000:=by simp at hl;omega
   have ih:=fun sh gp (k:Int) (a1:sh.length≤pre.length+1) (a2:gp.length≤pre.length+1) (a3:0≤k) (a4:k≤pre.length+2)=>ih (pre++[m]) sh gp k fuel (by simpa using hl) (by simpa using a1) (by simpa using a2) a3 (by simp;omega) (by simp at hf;omega);rw[oU,List.getLast?_concat] at ih;have fin:∀q:Int,q=nx pre.getLast? k m→0≤q→q≤pre.length+1→bY B LL C1 fuel f (pre++m::r).length ((pre++m::r).flatMap bA) ((pre++m::r).length:Int) (pre.length:Int) (ib bA sh) (ib cX gp) q m.1 m.2.1 m.2.2.1 m.2.2.2.1 m.2.2.2.2.1 m.2.2.2.2.2=some (.tup [ia bA (sh++dK pre.getLast? k (m::r)),ia cX (gp++dC pre.getLast? k (m::r))]):=fun q hq q1 q2=>by
    rw[Kf m sh gp (by omega) (by omega),dw pre m r hl];show _=some (D.tup [ia bA (sh++bG (nx pre.getLast? k m==0) (dK (some m) 0 r) (bG (m.2.1 !=nx pre.getLast? k m) (dK (some m) 0 r) (m::dK (some m) (nx pre.getLast? k m+1) r))),ia cX (gp++bG (nx pre.getLast? k m==0) (dC (some m) 0 r) (bG (m.2.1 !=nx pre.getLast? k m) ((m.1,nx pre.getLast? k m)::dC (some m) 0 r) (dC (some m) (nx pre.getLast? k m+1) r)))]);rw[←hq];cases hz:q==0 with
    |true=>
     have hz:q=0:=by simpa using hz
     rw[bC,bC,bC,hz];exact ih sh gp 0 (by omega) (by omega) (by omega) (by omega)
    |false=>
     rw[bu,bu,bu];cases hn:m.2.1 !=q with
     |true=>
      rw[bC,bC,bC,ih sh (gp++[(m.1,q)]) 0 (by omega) (by simp;omega) (by omega) (by omega)];simp
     |false=>
      rw[bu,bu,bu,c6 (by omega),ih (sh++[m]) gp (q+1) (by simp;omega) (by omega) (by omega) (by omega)];simp
   rw[rh,dl,bC,dc,bz,jw pre m r];rcases List.eq_nil_or_concat pre with rfl|⟨p,y,rfl⟩
   ·rw[show((([]:List MsgV).length:Int)==0)=true from rfl,bC];exact fin 1 rfl (by omega) (by omega)
   ·rw[List.concat_eq_append] at*;rw[dz,bu,dp p y m r hl,Ke,bz];have cy:=g0 (γ:=D) (pre:=p) (x:=y) (r:=m::r);rw[←dq] at cy;rw[cy,cW];have hnx:∀b,nx (some y) b m=bG (fY y.1 m.1) b 1:=fun b=>rfl;rw[List.getLast?_concat] at fin ⊢;cases hs:fY y.1 m.1 with
    |true=>
     rw[show(!ByteArray.toList y.1==ByteArray.toList m.1)=false by rw[show(ByteArray.toList y.1==ByteArray.toList m.1)=fY y.1 m.1 from rfl,hs];rfl,bu];exact fin k (by rw[hnx,hs];rfl) h3 h4
    |false=>
     rw[show(!ByteArray.toList y.1==ByteArray.toList m.1)=true by rw[show(ByteArray.toList y.1==ByteArray.toList m.1)=fY y.1 m.1 from rfl,hs];rfl,bC];exact fin 1 (by rw[hnx,hs];rfl) (by omega) (by omega)
theorem IJ{f:Bool}(l:List MsgV)(hl:l.length≤100000):ci 98 [.agg [mS f l]] (.tup [ia bA (dK none 1 l),ia cX (dC none 1 l)]):=
 jY dA Tryz.func98 (ord:=O0) (N:=Ja) (by kernel_rfl) ((FN _ _ _ f _ _).trans (Kg l [] [] [] 1 LL hl (zb0 _) (zb0 _) (by omega) (by simp) (by unfold LL;omega)))
def y6(e:Int)(l:List gn):List gn:=bG (e !=0) [] l
theorem Kh{f:Bool}(l:List MsgV)(hl:l.length≤100000)(hf:∀m∈l,m.Fit):ci 69 [.agg [mS f l]] (.tup [ia bA (j5 (bL l) (dK none 1 l)),.int .i64 (bL l)]):=by
 obtain⟨B,hB,hF⟩:=sr [one 65 [.agg [mS f l]] (.int .i64 (bL l)),one 98 [.agg [mS f l]] (.tup [ia bA (dK none 1 l),ia cX (dC none 1 l)])] ⟨cP (Dh l hl hf),cP (IJ l hl),trivial⟩ rfl;have e0:B 65 [.agg [.slc f l.length (l.flatMap bA)]]=some (.int .i64 (bL l)):=hF.1 ();have e1:B 98 [.agg [.slc f l.length (l.flatMap bA)]]=some (.tup [ia bA (dK none 1 l),ia cX (dC none 1 l)]):=hF.2.1 ();refine jY hB Tryz.func69 (ord:=O0) (N:=N0) (by kernel_rfl) ((FA _ _ _ f _ _).trans ?_);rw[e0,bv,bD,e1,bv,ml,mm,fh,fh,cJ,mn,cJ];unfold j5;cases hz:bL l !=0 with
 |true=>rfl
 |false=>
  rw[bu,bu,fh,show bL l=0 by simpa using hz]
theorem Ki{f:Bool}(l:List MsgV)(hl:l.length≤100000)(hf:∀m∈l,m.Fit):ci 70 [.agg [mS f l]] (.tup [ia cX (y6 (bL l) (dC none 1 l)),.int .i64 (bL l)]):=by
 obtain⟨B,hB,hF⟩:=sr [one 65 [.agg [mS f l]] (.int .i64 (bL l)),one 98 [.agg [mS f l]] (.tup [ia bA (dK none 1 l),ia cX (dC none 1 l)])] ⟨cP (Dh l hl hf),cP (IJ l hl),trivial⟩ rfl;have e0:B 65 [.agg [.slc f l.length (l.flatMap bA)]]=some (.int .i64 (bL l)):=hF.1 ();have e1:B 98 [.agg [.slc f l.length (l.flatMap bA)]]=some (.tup [ia bA (dK none 1 l),ia cX (dC none 1 l)]):=hF.2.1 ();refine jY hB Tryz.func70 (ord:=O0) (N:=N0) (by kernel_rfl) ((FB _ _ _ f _ _).trans ?_);rw[e0,bv,bD,e1,bv,ml,mm,fh,fh,cJ,mn,cJ];unfold y6;cases hz:bL l !=0 with
 |true=>rfl
 |false=>
  rw[bu,bu,fh,show bL l=0 by simpa using hz]
theorem Kj{n:Nat}{f:Bool}{k:Int}(pre:List MsgV)(m:MsgV)(r:List MsgV)(sh:List MsgV)(h:(pre++m::r).length≤100000)(h1:sh.length≤100000){B:FuncId→List D→Option D}:
  du B LL C1 n f (pre++m::r).length ((pre++m::r).flatMap bA) (pre.length:Int) (ib bA sh) k=
  bG (m.2.1==k) (fi B LL C1 n f (pre++m::r).length ((pre++m::r).flatMap bA) (ib bA (sh++[m])) (IntKind.wrap .i64 (k+1)) ((pre++[m]).length:Int))
   (fi B LL C1 n f (pre++m::r).length ((pre++m::r).flatMap bA) (ib bA sh) k ((pre++[m]).length:Int)):=by
 rw[iB];cases sh with
 |nil=>
  refine(sD (hC:=c1) ..).trans ?_;rw[dc,bz,g1,bD,bz,jw pre m r,dw pre m r h];rfl
 |cons o sh=>
  refine(sE (hC:=c1) ..).trans ?_;rw[dc,bz,g1,bD,bz,jw pre m r,xb (i:=sh.length+1) (by simp at h1;omega),bz,dw pre m r h];rfl
theorem Kk{B:FuncId→List D→Option D}{f:Bool}:∀(r pre:List MsgV) (sh:List MsgV) (k:Int) (fuel:Nat),(pre++r).length≤100000→sh.length≤pre.length→(pre=[]→k=1)→0≤k→k≤pre.length+1→r.length<fuel→
  fi B LL C1 fuel f (pre++r).length ((pre++r).flatMap bA) (ib bA sh) k (pre.length:Int)=some (ia bA (sh++nG pre.getLast? k r)):=by
 intro r
 induction r with
 |nil=>
  intro pre sh k fuel hl h1 h2 h3 h4 hf;cases fuel with
  |zero=>exact absurd hf (Nat.not_lt_zero _)
  |succ fuel=>
   rw[zb3,rk,de,bu];show _=some (ia bA (sh++[]));rw[zb3]
 |cons m r ih=>
  intro pre sh k fuel hl h1 h2 h3 h4 hf;cases fuel with
  |zero=>exact absurd hf (Nat.not_lt_zero _)
  |succ fuel=>
   have hpl:pre.length+1≤100000:=by simp at hl;omega
   have ih:=fun sh (k:Int) (a1:sh.length≤pre.length+1) (a3:0≤k) (a4:k≤pre.length+2)=>ih (pre++[m]) sh k fuel (by simpa using hl) (by simpa using a1) (fun h=>by simp at h) a3 (by simp;omega) (by simp at hf;omega);rw[oU,List.getLast?_concat] at ih;have fin:∀q:Int,q=nx pre.getLast? k m→0≤q→q≤pre.length+1→du B LL C1 fuel f (pre++m::r).length ((pre++m::r).flatMap bA) (pre.length:Int) (ib bA sh) q=some (ia bA (sh++nG pre.getLast? k (m::r))):=fun q hq q1 q2=>by
    rw[Kj pre m r sh hl (by omega)];show _=some (ia bA (sh++bG (m.2.1==nx pre.getLast? k m) (m::nG (some m) (nx pre.getLast? k m+1) r) (nG (some m) (nx pre.getLast? k m) r)));rw[←hq];cases hz:m.2.1==q with
    |true=>
     rw[bC,bC,c6 (by omega),ih (sh++[m]) (q+1) (by simp;omega) (by omega) (by omega)];simp
    |false=>
     rw[bu,bu];exact ih sh q (by omega) (by omega) (by omega)
   rw[rk,dl,bC];rcases List.eq_nil_or_concat pre with rfl|⟨p,y,rfl⟩
   ·rw[show decide ((([]:List MsgV).length:Int)>0)=false from rfl,bu];exact fin k (h2 rfl) h3 h4
   ·rw[List.concat_eq_append] at*;rw[KP,bC,dc,bz,g0,cW,dp p y m r hl,Ke,bz];have cy:=g0 (γ:=D) (pre:=p) (x:=y) (r:=m::r);rw[←dq] at cy;rw[cy,cW];have hnx:∀b,nx (some y) b m=bG (fY y.1 m.1) b 1:=fun b=>rfl;have hcm:(ByteArray.toList m.1==ByteArray.toList y.1)=fY y.1 m.1:=uG ..;rw[List.getLast?_concat] at fin ⊢;rw[hcm];cases hs:fY y.1 m.1 with
    |true=>
     rw[Bool.not_true,bu];exact fin k (by rw[hnx,hs];rfl) h3 h4
    |false=>
     rw[Bool.not_false,bC];exact fin 1 (by rw[hnx,hs];rfl) (by omega) (by omega)
theorem Kl{f:Bool}(l:List MsgV)(hl:l.length≤100000):ci 74 [mS f l] (ia bA (nG none 1 l)):=
 jY dA Tryz.func74 (ord:=O0) (N:=I8) (by kernel_rfl) ((FM _ _ _ f _ _).trans (Kk l [] [] 1 LL hl (zb0 _) (fun _=>rfl) (by omega) (by simp) (by unfold LL;omega)))
theorem Km{n:Nat}{f:Bool}{k:Int}(pre:List MsgV)(m:MsgV)(r:List MsgV)(gp:List gn)(h:(pre++m::r).length≤100000)(h1:gp.length≤100000)(hk:0≤k)(hk2:k≤100000){B:FuncId→List D→Option D}:
  dr B LL C1 n f (pre++m::r).length ((pre++m::r).flatMap bA) (pre.length:Int) (ib cX gp) k=
  bG (m.2.1 !=k+1&&ji gp.getLast? m) (fI B LL C1 n f (pre++m::r).length ((pre++m::r).flatMap bA) (ib cX (gp++[(m.1,k+1)])) ((pre++[m]).length:Int))
   (fI B LL C1 n f (pre++m::r).length ((pre++m::r).flatMap bA) (ib cX gp) ((pre++[m]).length:Int)):=by
 have hw:IntKind.wrap .i64 (k+1)=k+1:=c6 (by omega);rcases List.eq_nil_or_concat gp with rfl|⟨p,y,rfl⟩
 ·refine(sB (hC:=c1) ..).trans ?_;rw[dc,bz,g1,bD,bz,g0,cW,dw pre m r h,hw];show _=bG (m.2.1 !=k+1&&true) _ _;rw[Bool.and_true];rfl
 ·rw[List.concat_eq_append] at*;rw[iB cX (p++[y]),Dm cX p y,List.getLast?_concat];have hpl:(p++[y]).length=p.length+1:=by simp
  have hwp:IntKind.wrap .i64 (((p++[y]).length:Int)-1)=(p.length:Int):=by rw[c6 (by rw[hpl];omega),hpl];simp
  refine(sC (hC:=c1) ..).trans ?_;rw[dc,bz,g1,bD,show(((p++[y]).length:Int)==0)=false by(rw[beq_eq_false_iff_ne,hpl];omega),bu,hwp,
   show decide ((0:Int)≤(p.length:Int)∧(p.length:Int)<((p++[y]).length:Int))=true by(rw[hpl];simp;omega),bz,Kc (pre:=p) (x:=y) (r:=[]),cW,bz,g0,cW,bz,g0,cW,wN (i:=(p++[y]).length) (by omega),bz,dw pre m r h,hw]
  show _=bG (m.2.1 !=k+1&& !fY y.1 m.1) _ _;rw[show(ByteArray.toList y.1==ByteArray.toList m.1)=fY y.1 m.1 from rfl];cases m.2.1 !=k+1<;>cases fY y.1 m.1<;>rfl
theorem Kn{B:FuncId→List D→Option D}{f:Bool}:∀(r pre:List MsgV) (gp:List gn) (fuel:Nat),(pre++r).length≤100000→gp.length≤pre.length→(∀m∈pre++r,1≤m.2.1∧m.2.1≤1000)→r.length<fuel→
  fI B LL C1 fuel f (pre++r).length ((pre++r).flatMap bA) (ib cX gp) (pre.length:Int)=some (ia cX (gp++pT pre.getLast? gp.getLast? r)):=by
 intro r
 induction r with
 |nil=>
  intro pre gp fuel hl h1 h2 hf;cases fuel with
  |zero=>exact absurd hf (Nat.not_lt_zero _)
  |succ fuel=>
   rw[zb3,uW,de,bu];show _=some (ia cX (gp++[]));rw[zb3]
 |cons m r ih=>
  intro pre gp fuel hl h1 h2 hf;cases fuel with
  |zero=>exact absurd hf (Nat.not_lt_zero _)
  |succ fuel=>
   have hpl:pre.length+1≤100000:=by simp at hl;omega
   have ih:=fun gp (a1:gp.length≤pre.length+1)=>ih (pre++[m]) gp fuel (by simpa using hl) (by simpa using a1) (by simpa using h2) (by simp at hf;omega);rw[oU,List.getLast?_concat] at ih;have fin:∀q:Int,q=uR pre.getLast? m→0≤q→q≤100000→dr B LL C1 fuel f (pre++m::r).length ((pre++m::r).flatMap bA) (pre.length:Int) (ib cX gp) q=some (ia cX (gp++pT pre.getLast? gp.getLast? (m::r))):=fun q hq q1 q2=>by
    rw[Km pre m r gp hl (by omega) q1 q2];show _=some (ia cX (gp++bG (m.2.1 !=uR pre.getLast? m+1&&ji gp.getLast? m) ((m.1,uR pre.getLast? m+1)::pT (some m) (some (m.1,uR pre.getLast? m+1)) r) (pT (some m) gp.getLast? r)));rw[←hq];cases m.2.1 !=q+1&&ji gp.getLast? m with
    |true=>
     rw[bC,bC,ih (gp++[(m.1,q+1)]) (by simp;omega),List.getLast?_concat];simp
    |false=>
     rw[bu,bu];exact ih gp (by omega)
   rw[uW,dl,bC];rcases List.eq_nil_or_concat pre with rfl|⟨p,y,rfl⟩
   ·rw[show decide ((([]:List MsgV).length:Int)>0)=false from rfl,bu];exact fin 0 rfl (by omega) (by omega)
   ·rw[List.concat_eq_append] at*;rw[KP,bC,dp p y m r hl,Ke,bz,dc];have cy:=g0 (γ:=D) (pre:=p) (x:=y) (r:=m::r);have cz:=g1 (γ:=D) (pre:=p) (x:=y) (r:=m::r);rw[←dq] at cy cz;rw[cy,cW,bz,g0,cW,bz,cz,bD];have hnx:uR (some y) m=bG (fY y.1 m.1) y.2.1 0:=rfl;have hy:=h2 y (by simp);rw[List.getLast?_concat] at fin ⊢;rw[show(ByteArray.toList y.1==ByteArray.toList m.1)=fY y.1 m.1 from rfl];cases hs:fY y.1 m.1 with
    |true=>
     rw[bC];exact fin y.2.1 (by rw[hnx,hs];rfl) (by omega) (by omega)
    |false=>
     rw[bu];exact fin 0 (by rw[hnx,hs];rfl) (by omega) (by omega)
theorem Ko{f:Bool}(l:List MsgV)(hl:l.length≤100000)(h:∀m∈l,1≤m.2.1∧m.2.1≤1000):ci 73 [mS f l] (ia cX (pT none none l)):=
 jY dA Tryz.func73 (ord:=O0) (N:=I7) (by kernel_rfl) ((FL _ _ _ f _ _).trans (Kn l [] [] LL hl (zb0 _) h (by unfold LL;omega)))
theorem Kp{B:FuncId→List D→Option D}{f:Bool}{L:Nat}:∀(r pre:List MsgV) (fuel:Nat),(pre++r).length*72≤bS→r.length<fuel→
  mv B L C1 fuel f (pre++r).length ((pre++r).flatMap bA) (ib bA pre) ((pre++r).length:Int) (pre.length:Int)=some (ia bA (pre++r)):=by
 intro r
 induction r with
 |nil=>
  intro pre fuel hl hf;cases fuel with
  |zero=>exact absurd hf (Nat.not_lt_zero _)
  |succ fuel=>
   rw[zb3];cases pre with
   |nil=>exact pv ..
   |cons o os=>
    refine(pw ..).trans ?_;rw[de,bu];rfl
 |cons m r ih=>
  intro pre fuel hl hf;cases fuel with
  |zero=>exact absurd hf (Nat.not_lt_zero _)
  |succ fuel=>
   have lim:bS=140737488355328:=rfl;have hw:IntKind.wrap .i64 ((pre.length:Int)+1)=((pre++[m]).length:Int):=by
    simp at hl;rw[c6 (by omega)];simp
   have ih:=ih (pre++[m]) fuel (by simpa using hl) (by simp at hf;omega);rw[oU] at ih;rw[←ih,iB];cases pre with
   |nil=>
    refine(pv ..).trans ?_;rw[dl,bC,dc,bz,jw [] m r,hw];rfl
   |cons o os=>
    refine(pw ..).trans ?_;rw[dl,bC,dc,bz,jw (o::os) m r,hw,show decide ((os.length+1+1)*72≤bS∧os.length+1+1≤9223372036854775807)=true by(simp at hl ⊢;omega),bz];rfl
theorem Kq{f:Bool}(l:List MsgV)(hl:l.length*72≤bS):ci 30 [mS f l] (mS l.isEmpty l):=by
 have:=H6 (L:=l.length+1) dA Tryz.func30 (ord:=O0) (N:=JZ) (by kernel_rfl) ((FD _ _ _ f _ _).trans (Kp l [] (l.length+1) hl (by omega)));rw[zb4,fh] at this;exact this
def Jb(m:MsgV):Bool:= !decide ((m.1.size:Int)>60)&&(!decide ((m.2.2.1.size:Int)>60)&& !decide ((m.2.2.2.2.2.size:Int)>60))
def rl(l:List MsgV)(n:Int):Bool:= !decide ((l.length:Int)>n)&&l.all Jb
theorem xc{l:List MsgV}{n:Nat}(h:rl l n=true):l.length≤n∧∀m∈l,m.Fit:=by
 unfold rl at h;simp only[zc1,zd3,Bool.not_eq_true',decide_eq_false_iff_not] at h;refine⟨by omega,fun m hm=> ?_⟩;have:=h.2 m hm;unfold Jb at this;simp only[zc1,Bool.not_eq_true',decide_eq_false_iff_not] at this;exact⟨by omega,by omega⟩
theorem Ks{B:FuncId→List D→Option D}{f:Bool}:∀(r pre:List MsgV) (fuel:Nat),(pre++r).length≤100000→r.length<fuel→
  px B LL C1 fuel f (pre++r).length ((pre++r).flatMap bA) (pre.length:Int)=some (.bool (r.all Jb)):=by
 intro r
 induction r with
 |nil=>
  intro pre fuel hl hf;cases fuel with
  |zero=>exact absurd hf (Nat.not_lt_zero _)
  |succ fuel=>
   rw[zb3,qX,de,bu];rfl
 |cons m r ih=>
  intro pre fuel hl hf;cases fuel with
  |zero=>exact absurd hf (Nat.not_lt_zero _)
  |succ fuel=>
   have ih:=ih (pre++[m]) fuel (by simpa using hl) (by simp at hf;omega);rw[oU] at ih;rw[qX,dl,bC,dc,bz,g0,cW,bz,g2,cW,bz,show Int.toNat (pre.length:Int)*6+4+1=Int.toNat (pre.length:Int)*6+5 from rfl,g5,cW,dw pre m r hl,ih,List.all_cons];unfold Jb;cases decide ((m.1.size:Int)>60)<;>cases decide ((m.2.2.1.size:Int)>60)<;>cases decide ((m.2.2.2.2.2.size:Int)>60)<;>rfl
theorem Kt{f:Bool}(l:List MsgV)(n:Nat)(hn:n≤1000):ci 31 [mS f l,.int .i64 n] (.bool (rl l n)):=by
 refine jY dA Tryz.func31 (ord:=O0) (N:=J0) (by kernel_rfl) ((FE _ _ _ f _ _ _).trans ?_);unfold rl;cases hd:decide ((l.length:Int)>n) with
 |true=>rfl
 |false=>
  rw[bu,show px _ LL C1 LL f l.length (l.flatMap bA) 0=_ from Ks l [] LL (by simp at hd ⊢;omega) (by simp at hd;unfold LL;omega)];rfl
theorem Ku(a b:Int):ci 34 [.slc true 2 [.int .i64 a,.int .i64 b]] (.int .i64 (cw [a,b])):=by
 refine H6 (L:=3) dA Tryz.func34 (ord:=O0) (N:=J1) (by kernel_rfl) ((FF _ _ _ true 2 _).trans ?_);rw[mw,mw,mw,nJ];by_cases ha:a=0
 ·subst ha;by_cases hb:b=0
  ·subst hb;rfl
  ·have hb:(b !=0)=true:=by simpa using hb
   show bG (b !=0) _ _=some (D.int .i64 b);rw[hb];rfl
 ·have ha:(a !=0)=true:=by simpa using ha
  show bG (a !=0) _ _=some (D.int .i64 (bG (a !=0) a b));rw[ha];rfl
theorem Kv{B:FuncId→List D→Option D}{f g:Bool}:∀(r pre:List MsgV) (fuel:Nat),(pre++r).length≤100000→r.length<fuel→
  sA B LL C1 fuel f (pre++r).length ((pre++r).flatMap bA) g (pre++r).length ((pre++r).flatMap bA) (pre.length:Int)=some (.bool true):=by
 intro r
 induction r with
 |nil=>
  intro pre fuel hl hf;cases fuel with
  |zero=>exact absurd hf (Nat.not_lt_zero _)
  |succ fuel=>
   rw[zb3,rb,de,bu]
 |cons m r ih=>
  intro pre fuel hl hf;cases fuel with
  |zero=>exact absurd hf (Nat.not_lt_zero _)
  |succ fuel=>
   have ih:=ih (pre++[m]) fuel (by simpa using hl) (by simp at hf;omega);rw[oU] at ih;rw[rb,dl,bC,dc,bz,jw pre m r,bz,jw pre m r];change bG (!py m m) _ _=_;rw[msgQ_iff.2 rfl,Bool.not_true,bu,dw pre m r hl,ih]
theorem IK{f g:Bool}(l:List MsgV)(hl:l.length≤100000):ci 72 [mS f l,mS g l] (.bool true):=by
 refine jY dA Tryz.func72 (ord:=O0) (N:=J7) (by kernel_rfl) ((FK _ _ _ f _ _ g _ _).trans ?_);rw[show((l.length:Int) !=(l.length:Int))=false by simp,bu];exact Kv l [] LL hl (by unfold LL;omega)
theorem Dn{k:FuncId}{d r:D}(h:ci k [d,.slc true 0 []] r):ci k [d,.nils] r:=by
 refine⟨h.1,fun I w vs h1 h2 h3 h4=>h.2 I w vs h1 h2 h3 fun j e v he hv=> ?_⟩
 match j,he,hv with
 |0,he,hv=>exact h4 0 e v he hv
 |1,he,hv=>
  cases he;have:=h4 1 .nils v rfl hv;cases this;exact .slcn true
theorem IL{f:Bool}:ci 72 [mS f [],.nils] (.bool true):=Dn (IK (f:=f) (g:=true) [] (by simp))
end Go.Pd
end
section
namespace Go.Pd
open Go Go.Proofs
set_option maxRecDepth 100000
def Br:bR:=fun p=>match p with
 |31=>nm [3,4,5,7,8,9] [13,15] [3,4,5,9,13,15]
 |127=>nm [3,4,5,7,8,9,10,11,12] [13,15] [3,4,5,9,13,15]
 |16383=>nm [7,8,10,11,13,14,15,16,17,18,19,20,21,22] [3,4,5,9] [3,4,5,9,13,15]
 |32767=>nm [7,8,10,11,15,16,17,18,19,20] [3,4,5,9,13] [3,4,5,9,13,15]
 |262143=>nm [7,10,15,16,17,18,19,20,21,22] [3,4,5,9,13] [3,4,5,9,13,15]
 |524287=>nm [7,10,17,19] [3,4,5,9,13,15] [3,4,5,9,13,15]
 |33554426=>nm [19,23,169,170] [3,4,5,9,13,15] [3,4,5,9,13,15]
 |_=>none
noncomputable def fj(h:FuncId→List D→Option D)(L:Nat)(C:Nat→Nat)(z:Nat)(O:Bool)(S:Nat)(M:List D)(V:Bool)(W:Nat)(U:List D)(B K:Int):Option D:=
 dW (dS h L C) O0 Br FinM.canon Tryz.f11 (bt 24 6291455) [] z (St.mk (jn 19 (D.slc O S M::J::J::J::D.slc V W U::jn 145 (D.int .i64 B::D.int .i64 K::jn 13 []))) (zn 184 []))
noncomputable def gF(h:FuncId→List D→Option D)(L:Nat)(C:Nat→Nat)(W:Bool)(Y:Nat)(V:List D)(M:Int)(S:Bool)(U:Nat)(O:List D)(B:Bool)(K:Nat)(z:List D):Option D:=
 gA (dS h L C) O0 Br FinM.canon Tryz.f11 (bt 18 262143) [] (C 524287) (St.mk (jn 7 (D.slc W Y V::J::J::D.int .i64 M::jn 6 (D.slc S U O::J::D.slc B K z::jn 164 []))) (zn 184 []))
noncomputable def eO(h:FuncId→List D→Option D)(L:Nat)(C:Nat→Nat)(a5:Bool)(a6:Nat)(a4:List D)(Z B:Int)(a1:Bool)(a2:Nat)(a0:List D)(K:Int)(S:Bool)(U:Nat)(O:List D)(M:Int)(W:Bool)(Y:Nat)(V:List D)(z:Int)(a3:Ow):Option D:=
 gA (dS h L C) O0 Br FinM.canon Tryz.f11 (bt 17 131071) [] (C 262143) (St.mk (jn 7 (D.slc a5 a6 a4::J::J::D.int .i64 Z::J::J::J::J::D.loc 15 0 0::D.int .i64 B::D.slc a1 a2 a0::D.int .i64 K::D.slc S U O::D.int .i64 M::D.int .i64 z::oF 0 a3::jn 161 [])) (zn 15 ((1,some (Ob.box [D.slc W Y V] false))::zn 168 [])))
noncomputable def iE(h:FuncId→List D→Option D)(L:Nat)(C:Nat→Nat)(a4:Bool)(a5:Nat)(a3:List D)(a7:Bool)(a8:Nat)(a6:List D)(Y a2 z:Int)(a0:Bool)(a1:Nat)(Z:List D)(B:Int)(O:Bool)(S:Nat)(M:List D)(K:Int)(V:Bool)(W:Nat)(U:List D):Option D:=
 gA (dS h L C) O0 Br FinM.canon Tryz.f11 (bt 14 16383) [] (C 32767) (St.mk (jn 7 (D.slc a4 a5 a3::D.slc a7 a8 a6::J::D.int .i64 Y::D.int .i64 a2::J::J::J::D.loc 15 0 0::D.int .i64 z::D.slc a0 a1 Z::D.int .i64 B::D.slc O S M::D.int .i64 K::jn 163 [])) (zn 15 ((1,some (Ob.box [D.slc V W U] false))::zn 168 [])))
noncomputable def fJ(h:FuncId→List D→Option D)(L:Nat)(C:Nat→Nat)(ab:Bool)(ac:Nat)(aa:List D)(ae:Bool)(af:Nat)(ad:List D)(a1 a8 B K:Int)(a6:Bool)(a7:Nat)(a5:List D)(M:Int)(U:Bool)(V:Nat)(S:List D)(O z:Int)(a9:Ow)(a3:Bool)(a4:Nat)(a2:List D)(Y:Bool)(a0:Nat)(W:List D):Option D:=
 gA (dS h L C) O0 Br FinM.canon Tryz.f11 (bt 13 8191) [] (C 16383) (St.mk (jn 7 (D.slc ab ac aa::D.slc ae af ad::J::D.int .i64 a1::D.int .i64 a8::J::D.loc 13 0 0::D.int .i64 B::D.loc 15 0 0::D.int .i64 K::D.slc a6 a7 a5::D.int .i64 M::D.slc U V S::D.int .i64 O::D.int .i64 z::oF 0 a9::jn 161 [])) (zn 13 ((1,some (Ob.box [D.slc a3 a4 a2] false))::Z::(1,some (Ob.box [D.slc Y a0 W] false))::zn 168 [])))
noncomputable def nM(S:FuncId→List D→Option D)(L:Nat)(C:Nat→Nat)(a6:Bool)(a7:Nat)(a5:List D)(a9:Bool)(aa:Nat)(a8:List D)(V:Bool)(W:Nat)(U:List D)(a0:Bool)(a1:Nat)(Y:List D)(h:ByteArray)(z:Int)(B:ByteArray)(K M:Int)(O:ByteArray)(a2 a4 a3:Int):Option D:=
 gA (dS S L C) O0 Br FinM.canon Tryz.f11 (bt 6 63) [] (C 127) (St.mk (J::J::J::D.loc 3 0 0::D.loc 4 0 0::D.loc 5 0 0::J::D.slc a6 a7 a5::D.slc a9 aa a8::D.loc 9 0 0::D.int .i64 a2::D.int .i64 a4::D.int .i64 a3::jn 171 []) (Z::Z::Z::(1,some (Ob.box [D.slc V W U] false))::(1,some (Ob.box [D.slc a0 a1 Y] false))::(1,some (Ob.box [D.str h,D.int .i64 z,D.str B,D.int .i64 K,D.int .i64 M,D.str O] false))::Z::Z::Z::(1,some (Ob.box [D.str h,D.int .i64 z,D.str B,D.int .i64 K,D.int .i64 M,D.str O] false))::zn 174 []))
noncomputable def sJ(S:FuncId→List D→Option D)(L:Nat)(C:Nat→Nat)(V:Bool)(W:Nat)(U:List D)(a0:Bool)(a1:Nat)(Y:List D)(h:ByteArray)(z:Int)(B:ByteArray)(K M:Int)(O:ByteArray)(a3:Bool)(a4:Nat)(a2:List D)(a6:Bool)(a7:Nat)(a5:List D):Option D:=
 gA (dS S L C) O0 Br FinM.canon Tryz.f11 [true,true,true,true] [] (C 31) (St.mk (J::J::J::D.loc 3 0 0::D.loc 4 0 0::D.loc 5 0 0::J::D.slc a3 a4 a2::D.slc a6 a7 a5::D.loc 9 0 0::jn 174 []) (Z::Z::Z::(1,some (Ob.box [D.slc V W U] false))::(1,some (Ob.box [D.slc a0 a1 Y] false))::(1,some (Ob.box [D.str h,D.int .i64 z,D.str B,D.int .i64 K,D.int .i64 M,D.str O] false))::Z::Z::Z::(1,some (Ob.box [D.str h,D.int .i64 z,D.str B,D.int .i64 K,D.int .i64 M,D.str O] false))::zn 174 []))
theorem jr(J:FuncId→List D→Option D)(L:Nat)(C:Nat→Nat)(S:Nat)(U:Bool)(M:Nat)(z:List D)(V:Bool)(O:Nat)(B:List D)(K h:Int):fj J L C (S+1) U M z V O B K h=
 (bG (decide (h<K))
 (bB (decide (0≤h∧h<(M:Int)))
 (br z (Int.toNat h*2+0) fun Y=>bN Y fun s=>br z (Int.toNat h*2+1) fun Z=>bH .i64 Z fun a4=>bB (decide (0≤h∧h<(O:Int)))
 (br B (Int.toNat h*2+0) fun a0=>bN a0 fun a3=>br B (Int.toNat h*2+1) fun a1=>bH .i64 a1 fun a5=>bG (!(ByteArray.toList s==ByteArray.toList a3&&(a4==a5&&true)))
 (some (D.bool false))
 (fj J L C S U M z V O B K (IntKind.wrap .i64 (h+1))))))
 (bV (J 15 []) fun a2=>cH a2 fun W=>some (D.bool W))):=by kernel_rfl
theorem pU(h:FuncId→List D→Option D)(L:Nat)(C:Nat→Nat)(K:Bool)(M:Nat)(J:List D)(V:Int)(Y:Bool)(B:Nat)(W:List D)(U:Bool)(z:Nat)(S:List D)(hC:∀t,C t=1):gF h L C K M J V Y B W U z S=
 (bG (V !=0)
 (bG (IntKind.wrap .i64 ((B:Int)+(z:Int))==0)
 (bV (h 15 []) fun a9=>cH a9 fun Z=>some (D.bool Z))
 (some (D.bool false)))
 (bV (h 73 [D.slc K M J]) fun aa=>ee aa fun a4 O a1=>bV (h 30 [D.slc Y B W]) fun ab=>ee ab fun a5 a7 a2=>bV (h 74 [D.slc K M J]) fun ac=>ee ac fun a6 a8 a3=>bV (h 72 [D.slc a5 a7 a2,D.slc a6 a8 a3]) fun ad=>cH ad fun a0=>bG (!a0)
 (some (D.bool false))
 (bG ((z:Int) !=(O:Int))
 (some (D.bool false))
 (fj h L C L U z S a4 O a1 ((z:Int)) 0)))):=by
 unfold gF;rw[hC]
 kernel_rfl
theorem pD(h:FuncId→List D→Option D)(L:Nat)(C:Nat→Nat)(a3:Bool)(a4:Nat)(a2:List D)(z J:Int)(a0:Bool)(a1:Nat)(Z:List D)(K:Int)(S:Bool)(U:Nat)(O:List D)(M:Int)(W:Bool)(Y:Nat)(V:List D)(B:Int)(hC:∀t,C t=1):eO h L C a3 a4 a2 z J a0 a1 Z K S U O M W Y V B (Ow.nil)=
 (bG (J !=B)
 (some (D.bool false))
 (bV (h 30 [D.slc W Y V]) fun a9=>ee a9 fun a7 a8 a6=>bV (h 72 [D.slc a7 a8 a6,D.nils]) fun aa=>cH aa fun a5=>bG (!a5)
 (some (D.bool false))
 (bG (K !=z)
 (some (D.bool false))
 (bG (M !=z)
 (some (D.bool false))
 (gF h L C a3 a4 a2 z a0 a1 Z S U O))))):=by
 unfold eO;rw[hC]
 kernel_rfl
theorem pE(h:FuncId→List D→Option D)(L:Nat)(C:Nat→Nat)(a6:Bool)(a7:Nat)(a5:List D)(z J:Int)(a0:Bool)(a1:Nat)(Z:List D)(K:Int)(S:Bool)(U:Nat)(O:List D)(M:Int)(W:Bool)(Y:Nat)(V:List D)(B:Int)(a3:Bool)(a4:Nat)(a2:List D)(hC:∀t,C t=1):eO h L C a6 a7 a5 z J a0 a1 Z K S U O M W Y V B (Ow.slc a3 a4 a2)=
 (bG (J !=B)
 (some (D.bool false))
 (bV (h 30 [D.slc W Y V]) fun ac=>ee ac fun aa ab a9=>bV (h 72 [D.slc aa ab a9,D.slc a3 a4 a2]) fun ad=>cH ad fun a8=>bG (!a8)
 (some (D.bool false))
 (bG (K !=z)
 (some (D.bool false))
 (bG (M !=z)
 (some (D.bool false))
 (gF h L C a6 a7 a5 z a0 a1 Z S U O))))):=by
 unfold eO;rw[hC]
 kernel_rfl
theorem sK(h:FuncId→List D→Option D)(L:Nat)(C:Nat→Nat)(J:Bool)(K:Nat)(B:List D)(a7:Bool)(a8:Nat)(a6:List D)(z a5 M:Int)(a2:Bool)(a3:Nat)(a1:List D)(O:Int)(V:Bool)(W:Nat)(U:List D)(S:Int)(Z:Bool)(a0:Nat)(Y:List D)(hC:∀t,C t=1):iE h L C J K B a7 a8 a6 z a5 M a2 a3 a1 O V W U S Z a0 Y=
 (bV (h 34 [D.slc true 2 [D.int .i64 z,D.int .i64 a5]]) fun af=>bH .i64 af fun a9=>bG (a9==0)
 (bV (h 71 [D.slc J K B,D.slc a7 a8 a6]) fun ag=>fZ ag 2 fun a4=>br a4 0 fun ab=>ee ab fun ad ae aa=>br a4 1 fun ac=>bH .i64 ac fun ah=>eO h L C J K B z M a2 a3 a1 O V W U S Z a0 Y ah (Ow.slc ad ae aa))
 (eO h L C J K B z M a2 a3 a1 O V W U S Z a0 Y a9 (Ow.nil))):=by
 unfold iE;rw[hC]
 kernel_rfl
theorem pV(h:FuncId→List D→Option D)(L:Nat)(C:Nat→Nat)(a8:Bool)(a9:Nat)(a7:List D)(ab:Bool)(ac:Nat)(aa:List D)(Z a6 B J:Int)(a4:Bool)(a5:Nat)(a3:List D)(K:Int)(S:Bool)(U:Nat)(O:List D)(M z:Int)(a1:Bool)(a2:Nat)(a0:List D)(W:Bool)(Y:Nat)(V:List D)(hC:∀t,C t=1):fJ h L C a8 a9 a7 ab ac aa Z a6 B J a4 a5 a3 K S U O M z (Ow.nil) a1 a2 a0 W Y V=
 (bG (B !=z)
 (some (D.bool false))
 (bV (h 30 [D.slc a1 a2 a0]) fun ah=>ee ah fun af ag ae=>bV (h 72 [D.slc af ag ae,D.nils]) fun ai=>cH ai fun ad=>bG (!ad)
 (some (D.bool false))
 (iE h L C a8 a9 a7 ab ac aa Z a6 J a4 a5 a3 K S U O M W Y V))):=by
 unfold fJ;rw[hC]
 kernel_rfl
theorem pW(h:FuncId→List D→Option D)(L:Nat)(C:Nat→Nat)(ab:Bool)(ac:Nat)(aa:List D)(ae:Bool)(af:Nat)(ad:List D)(Z a6 B J:Int)(a4:Bool)(a5:Nat)(a3:List D)(K:Int)(S:Bool)(U:Nat)(O:List D)(M z:Int)(a8:Bool)(a9:Nat)(a7:List D)(a1:Bool)(a2:Nat)(a0:List D)(W:Bool)(Y:Nat)(V:List D)(hC:∀t,C t=1):fJ h L C ab ac aa ae af ad Z a6 B J a4 a5 a3 K S U O M z (Ow.slc a8 a9 a7) a1 a2 a0 W Y V=
 (bG (B !=z)
 (some (D.bool false))
 (bV (h 30 [D.slc a1 a2 a0]) fun ak=>ee ak fun ai aj ah=>bV (h 72 [D.slc ai aj ah,D.slc a8 a9 a7]) fun al=>cH al fun ag=>bG (!ag)
 (some (D.bool false))
 (iE h L C ab ac aa ae af ad Z a6 J a4 a5 a3 K S U O M W Y V))):=by
 unfold fJ;rw[hC]
 kernel_rfl
theorem xd(h:FuncId→List D→Option D)(L:Nat)(C:Nat→Nat)(O:Bool)(S:Nat)(M:List D)(a3:Bool)(a4:Nat)(a2:List D)(B:Bool)(J:Nat)(z:List D)(an:Bool)(ao:Nat)(am:List D)(U:ByteArray)(V:Int)(W:ByteArray)(Y Z:Int)(a0:ByteArray)(K a1 ap:Int)(hC:∀t,C t=1):nM h L C O S M a3 a4 a2 B J z an ao am U V W Y Z a0 K a1 ap=
 (bV (h 67 [D.agg [D.slc B J z],D.agg [D.str U,D.int .i64 V,D.str W,D.int .i64 Y,D.int .i64 Z,D.str a0]]) fun aN=>fZ aN 2 fun a8=>br a8 0 fun d=>mW d 1 fun ay=>br ay 0 fun aA=>ee aA fun ae ai a9=>br a8 1 fun aD=>bH .i64 aD fun aq=>bV (h 68 [D.agg [D.slc B J z],D.agg [D.slc an ao am]]) fun aO=>fZ aO 2 fun aa=>br aa 0 fun aE=>mW aE 1 fun az=>br az 0 fun aF=>ee aF fun af aj ab=>br aa 1 fun aG=>bH .i64 aG fun ar=>bV (h 69 [D.agg [D.slc B J z]]) fun aP=>fZ aP 2 fun ac=>br ac 0 fun aH=>ee aH fun ag ak ad=>br ac 1 fun aI=>bH .i64 aI fun au=>bV (h 70 [D.agg [D.slc B J z]]) fun aQ=>fZ aQ 2 fun a5=>br a5 0 fun aJ=>ee aJ fun ah al a6=>br a5 1 fun aK=>bH .i64 aK fun av=>bV (h 34 [D.slc true 2 [D.int .i64 K,D.int .i64 ap]]) fun aR=>bH .i64 aR fun aw=>bG (aw==0)
 (bV (h 71 [D.slc O S M,D.slc true 1 [D.str U,D.int .i64 V,D.str W,D.int .i64 Y,D.int .i64 Z,D.str a0]]) fun aS=>fZ aS 2 fun a7=>br a7 0 fun aB=>ee aB fun aL aM ax=>br a7 1 fun aC=>bH .i64 aC fun aT=>fJ h L C O S M a3 a4 a2 K a1 aq ar ag ak ad au ah al a6 av aT (Ow.slc aL aM ax) ae ai a9 af aj ab)
 (fJ h L C O S M a3 a4 a2 K a1 aq ar ag ak ad au ah al a6 av aw (Ow.nil) ae ai a9 af aj ab)):=by
 unfold nM;rw[hC]
 kernel_rfl
theorem yV(h:FuncId→List D→Option D)(L:Nat)(C:Nat→Nat)(U:Bool)(V:Nat)(S:List D)(a4:Bool)(a5:Nat)(a3:List D)(z:ByteArray)(B:Int)(J:ByteArray)(K M:Int)(O:ByteArray)(Y:Bool)(Z:Nat)(W:List D)(a1:Bool)(a2:Nat)(a0:List D)(hC:∀t,C t=1):sJ h L C U V S a4 a5 a3 z B J K M O Y Z W a1 a2 a0=
 (bV (h 35 [D.slc Y Z W]) fun aa=>bH .i64 aa fun x=>bV (h 35 [D.slc a1 a2 a0]) fun ab=>bH .i64 ab fun ac=>bV (h 64 [D.agg [D.str z,D.int .i64 B,D.str J,D.int .i64 K,D.int .i64 M,D.str O]]) fun a7=>bH .i64 a7 fun a6=>bV (h 65 [D.agg [D.slc U V S]]) fun a8=>bH .i64 a8 fun ad=>bG (ad !=x)
 (some (D.bool false))
 (bV (h 66 [D.agg [D.str z,D.int .i64 B,D.str J,D.int .i64 K,D.int .i64 M,D.str O]]) fun a9=>bH .i64 a9 fun ae=>bG (ae !=a6)
 (some (D.bool false))
 (nM h L C Y Z W a1 a2 a0 U V S a4 a5 a3 z B J K M O x ac a6))):=by
 unfold sJ;rw[hC]
 kernel_rfl
theorem FO(h:FuncId→List D→Option D)(L:Nat)(C:Nat→Nat)(B:Bool)(J:Nat)(z:List D)(M:Bool)(O:Nat)(K:List D)(S:ByteArray)(U:Int)(V:ByteArray)(W Y:Int)(Z:ByteArray):cv (dS h L C) O0 Br FinM.canon Tryz.f11 [D.agg [D.slc B J z],D.agg [D.slc M O K],D.agg [D.str S,D.int .i64 U,D.str V,D.int .i64 W,D.int .i64 Y,D.str Z]]=
 (bV (h 30 [D.slc B J z]) fun r=>ee r fun f n c=>bV (h 30 [D.slc M O K]) fun a8=>ee a8 fun a1 a2 a0=>bV (h 31 [D.slc f n c,D.int .i64 20]) fun a9=>cH a9 fun b=>bG (!b)
 (bV (h 15 []) fun aa=>cH aa fun a3=>some (D.bool a3))
 (bV (h 31 [D.slc a1 a2 a0,D.int .i64 20]) fun ab=>cH ab fun a4=>bG (!a4)
 (bV (h 15 []) fun ac=>cH ac fun a5=>some (D.bool a5))
 (bV (h 31 [D.slc true 1 [D.str S,D.int .i64 U,D.str V,D.int .i64 W,D.int .i64 Y,D.str Z],D.int .i64 1]) fun ad=>cH ad fun a6=>bG (!a6)
 (bV (h 15 []) fun ae=>cH ae fun a7=>some (D.bool a7))
 (sJ h L C B J z M O K S U V W Y Z f n c a1 a2 a0)))):=by kernel_rfl
end Go.Pd
end
section
namespace Go.Pd
open Go Go.Proofs Go.RowKit
set_option maxRecDepth 100000
section
variable {γ:Type}
theorem IM(a:D)(k:List D→Option γ):mW (.agg [a]) 1 k=k [a]:=rfl
theorem IN(a:D)(k:D→Option γ):br [a] 0 k=k a:=rfl
theorem nN(f:Bool)(e:Int)(l:List MsgV)(k:Bool→Nat→List D→Option γ):ee (u6 f e l) k=k (e !=0||f) (j5 e l).length ((j5 e l).flatMap bA):=rfl
end
theorem xe{e:Int}(l:List MsgV)(h:(e !=0)=true):j5 e l=[]:=by unfold j5;rw[h];rfl
theorem FP{a b:List MsgV}(h:mB a b=0):(jq a b).length≤1000:=by
 unfold mB at h;unfold jq;cases hj:mU a b with
 |none=>rw[hj] at h;cases h
 |some l=>
  rw[hj] at h;have:=(kY (by decide) h).1;simp at this;show l.length≤1000;omega
theorem Bt{e:Int}{a b:List MsgV}(h:e=0→mB a b=0):(j5 e (jq a b)).length≤1000:=by
 cases hz:e !=0 with
 |true=>rw[xe _ hz];simp
 |false=>
  have hz:e=0:=by simpa using hz
  subst hz;exact FP (h rfl)
theorem x6{e:Int}{a b:List MsgV}(h:kZ e a b=0):mB a b=0:=(Bo h).2
def FQ:=Bool×{l:List MsgV//l.length*72≤bS}
def fa30:Fam:=⟨30,FQ,fun i=>[mS i.1 i.2.1],fun i=>mS i.2.1.isEmpty i.2.1⟩
theorem rm:fa30.Good:=⟨fun i=>Kq i.2.1 i.2.2,fun i j h=>by
 obtain⟨f,l,hl⟩:=i;obtain⟨g,m,hm⟩:=j;have h:[mS f l]=[mS g m]:=h;simp only[zc2,and_true,D.slc.injEq] at h;show mS l.isEmpty l=mS m.isEmpty m;rw[fX h.2.2]⟩
def IO:=(Bool×List MsgV)×{n:Nat//n≤1000}
def fa31:Fam:=⟨31,IO,fun i=>[mS i.1.1 i.1.2,.int .i64 (i.2.1:Int)],fun i=> .bool (rl i.1.2 i.2.1)⟩
theorem rn:fa31.Good:=⟨fun i=>Kt i.1.2 i.2.1 i.2.2,fun i j h=>by
 obtain⟨⟨f,l⟩,n,hn⟩:=i;obtain⟨⟨g,m⟩,k,hk⟩:=j;have h:[mS f l,D.int .i64 (n:Int)]=[mS g m,D.int .i64 (k:Int)]:=h;simp only[zc2,and_true,D.slc.injEq,D.int.injEq,true_and] at h;show D.bool (rl l n)= .bool (rl m k);rw[fX h.1.2.2,h.2]⟩
def Kw:=Bool×{l:List MsgV//l.length≤100000}
def fa35:Fam:=⟨35,Kw,fun i=>[mS i.1 i.2.1],fun i=> .int .i64 (bL i.2.1)⟩
theorem yW:fa35.Good:=⟨fun i=>J6 i.2.1 i.2.2,fun i j h=>by
 obtain⟨f,l,hl⟩:=i;obtain⟨g,m,hm⟩:=j;have h:[mS f l]=[mS g m]:=h;simp only[zc2,and_true,D.slc.injEq] at h;show D.int .i64 (bL l)= .int .i64 (bL m);rw[fX h.2.2]⟩
def fa34:Fam:=⟨34,Int×Int,fun i=>[.slc true 2 [.int .i64 i.1,.int .i64 i.2]],fun i=> .int .i64 (cw [i.1,i.2])⟩
theorem yX:fa34.Good:=⟨fun i=>Ku i.1 i.2,fun i j h=>by
 obtain⟨a,b⟩:=i;obtain⟨c,d⟩:=j;have h:[D.slc true 2 [.int .i64 a,.int .i64 b]]=[D.slc true 2 [.int .i64 c,.int .i64 d]]:=h;simp only[zc2,and_true,D.slc.injEq,D.int.injEq,true_and] at h;show D.int .i64 (cw [a,b])= .int .i64 (cw [c,d]);rw[h.1,h.2]⟩
def IP:=(Bool×{l:List MsgV//l.length≤1000})×(Bool×{l:List MsgV//l.length≤1000})
def uX(f:Bool)(a b:List MsgV):D:= .tup [u6 (jF f a b) (mB a b) (jq a b),.int .i64 (mB a b)]
def fa71:Fam:=⟨71,IP,fun i=>[mS i.1.1 i.1.2.1,mS i.2.1 i.2.2.1],fun i=>uX i.1.1 i.1.2.1 i.2.2.1⟩
theorem yY:fa71.Good:=⟨fun i=>J9 i.1.2.1 i.2.2.1 i.1.2.2 i.2.2.2,fun i j h=>by
 obtain⟨⟨f,a,ha⟩,g,b,hb⟩:=i;obtain⟨⟨f',a',ha'⟩,g',b',hb'⟩:=j;have h:[mS f a,mS g b]=[mS f' a',mS g' b']:=h;simp only[zc2,and_true,D.slc.injEq] at h;show uX f a b=uX f' a' b';rw[fX h.1.2.2,fX h.2.2.2,h.1.1]⟩
inductive SamI where
 |two (f g:Bool) (l:List MsgV) (h:l.length≤100000)
 |one (f:Bool)
def SamI.ds:SamI→List D
 | .two f g l _=>[mS f l,mS g l]
 | .one f=>[mS f [],.nils]
def fa72:Fam:=⟨72,SamI,SamI.ds,fun _=> .bool true⟩
theorem yZ:fa72.Good:=⟨fun i=>match i with
 | .two _ _ l h=>IK l h
 | .one _=>IL,fun _ _ _=>rfl⟩
theorem La{B:FuncId→List D→Option D}{L:Nat}{f g:Bool}(e15:B 15 []=some (.bool true)):∀(r pre:List gn) (fuel:Nat),(pre++r).length≤100000→r.length<fuel→
  fj B L C1 fuel f (pre++r).length ((pre++r).flatMap cX) g (pre++r).length ((pre++r).flatMap cX) ((pre++r).length:Int) (pre.length:Int)=some (.bool true):=by
 intro r
 induction r with
 |nil=>
  intro pre fuel hl hf;cases fuel with
  |zero=>exact absurd hf (Nat.not_lt_zero _)
  |succ fuel=>
   rw[jr,sd,bu,e15,bv,bP]
 |cons m r ih=>
  intro pre fuel hl hf;cases fuel with
  |zero=>exact absurd hf (Nat.not_lt_zero _)
  |succ fuel=>
   have ih:=ih (pre++[m]) fuel (by simpa using hl) (by simp at hf;omega);rw[oU] at ih;have he:(!(ByteArray.toList m.1==ByteArray.toList m.1&&(m.2==m.2&&true)))=false:=by simp
   rw[jr,wy,bC,wz,bz,Kc,cW,KO,bD,bz,Kc,cW,KO,bD,he,bu,oT pre m r (by omega),ih]
theorem xf:∀(l:List MsgV) (p:Option MsgV) (k:Int),(dK p k l).length≤l.length
 |[],_,_=>zb0 _
 |m::r,p,k=>by
  show(bG (nx p k m==0) (dK (some m) 0 r) (bG (m.2.1 !=nx p k m) (dK (some m) 0 r) (m::dK (some m) (nx p k m+1) r))).length≤r.length+1;have i1:=xf r (some m) 0;have i2:=xf r (some m) (nx p k m+1);cases nx p k m==0 with
  |true=>rw[bC];omega
  |false=>
   rw[bu];cases m.2.1 !=nx p k m with
   |true=>rw[bC];omega
   |false=>rw[bu,za7];omega
theorem xg:∀(l:List MsgV) (p:Option MsgV) (k:Int),(dC p k l).length≤l.length
 |[],_,_=>zb0 _
 |m::r,p,k=>by
  show(bG (nx p k m==0) (dC (some m) 0 r) (bG (m.2.1 !=nx p k m) ((m.1,nx p k m)::dC (some m) 0 r) (dC (some m) (nx p k m+1) r))).length≤r.length+1;have i1:=xg r (some m) 0;have i2:=xg r (some m) (nx p k m+1);cases nx p k m==0 with
  |true=>rw[bC];omega
  |false=>
   rw[bu];cases m.2.1 !=nx p k m with
   |true=>rw[bC,za7];omega
   |false=>rw[bu];omega
structure FolB(a b:List MsgV)(m:MsgV)(B:FuncId→List D→Option D):Prop where
 h15:B 15 []=some (.bool true)
 h30:∀i:FQ,B 30 [mS i.1 i.2.1]=some (mS i.2.1.isEmpty i.2.1)
 h34:∀i:Int×Int,B 34 [.slc true 2 [.int .i64 i.1,.int .i64 i.2]]=some (.int .i64 (cw [i.1,i.2]))
 h71:∀i:IP,B 71 [mS i.1.1 i.1.2.1,mS i.2.1 i.2.2.1]=some (uX i.1.1 i.1.2.1 i.2.2.1)
 h72:∀i:SamI,B 72 i.ds=some (.bool true)
 h73:bL a=0→B 73 [mS a.isEmpty a]=some (ia cX (pT none none a))
 h74:B 74 [mS a.isEmpty a]=some (ia bA (nG none 1 a))
section
variable {a b:List MsgV}{m:MsgV}{B:FuncId→List D→Option D}(h:FolB a b m B)(ha:a.length≤20)(hb:b.length≤20)
include h ha
omit ha in
theorem IQ(f:Bool)(l:List MsgV)(hl:l.length≤1000):B 30 [.slc f l.length (l.flatMap bA)]=some (mS l.isEmpty l):=h.h30 (f,⟨l,by rw[show bS=140737488355328 from rfl];omega⟩)
omit ha in
theorem Kx(f g:Bool)(l:List MsgV)(hl:l.length≤1000):B 72 [.slc f l.length (l.flatMap bA),.slc g l.length (l.flatMap bA)]=some (.bool true):=h.h72 (.two f g l (by omega))
theorem Bu{f g:Bool}:gF B LL C1 a.isEmpty a.length (a.flatMap bA) (bL a) f (j5 (bL a) (dK none 1 a)).length ((j5 (bL a) (dK none 1 a)).flatMap bA) g (y6 (bL a) (dC none 1 a)).length ((y6 (bL a) (dC none 1 a)).flatMap cX)=some (.bool true):=by
 rw[pU (hC:=c1)];cases hz:bL a !=0 with
 |true=>
  rw[bC,h.h15,bv,bP];unfold j5 y6;rw[hz];rfl
 |false=>
  have hz:bL a=0:=by simpa using hz
  obtain⟨_,hA,hm⟩:=nF hz;have hn:∀m∈a,1≤m.2.1:=fun m h=>(uQ (hm m h)).1;have e73:B 73 [.slc a.isEmpty a.length (a.flatMap bA)]=some (ia cX (pT none none a)):=h.h73 hz;have e74:B 74 [.slc a.isEmpty a.length (a.flatMap bA)]=some (ia bA (nG none 1 a)):=h.h74;have l1:=xf a none 1;have l2:=xg a none 1;rw[bu,e73,bv,fh,cJ,hz];show(bV (B 30 [.slc f (dK none 1 a).length ((dK none 1 a).flatMap bA)]) _)=_;rw[IQ h f (dK none 1 a) (by omega),bv,cJ,e74,bv,fh,cJ,←wY hA hn,Kx h _ _ (dK none 1 a) (by omega),bv,bP,Bool.not_true,bu,←yS hA hn];show bG (((dC none 1 a).length:Int) !=((dC none 1 a).length:Int)) _ (fj B LL C1 LL g (dC none 1 a).length ((dC none 1 a).flatMap cX) _ _ _ _ 0)=_;rw[show(((dC none 1 a).length:Int) !=((dC none 1 a).length:Int))=false by simp,bu];exact La h.h15 (dC none 1 a) [] LL (by rw[zb4];omega) (by unfold LL;omega)
theorem Bv{f g h1 h2:Bool}{e2:Int}(hj:(j5 e2 (jq a b)).length≤1000){w:Ow}(hw:(w= .nil∧j5 e2 (jq a b)=[])∨w= .slc h1 (j5 e2 (jq a b)).length ((j5 e2 (jq a b)).flatMap bA)):
  eO B LL C1 a.isEmpty a.length (a.flatMap bA) (bL a) e2 f (j5 (bL a) (dK none 1 a)).length ((j5 (bL a) (dK none 1 a)).flatMap bA) (bL a) g (y6 (bL a) (dC none 1 a)).length ((y6 (bL a) (dC none 1 a)).flatMap cX) (bL a)
   h2 (j5 e2 (jq a b)).length ((j5 e2 (jq a b)).flatMap bA) e2 w=some (.bool true):=by
 have n1:∀x:Int,(x !=x)=false:=fun x=>by simp
 rcases hw with⟨rfl,hn⟩|rfl
 ·have e72n:B 72 [.slc true 0 [],.nils]=some (.bool true):=h.h72 (.one true);rw[pD (hC:=c1),n1,bu,IQ h h2 _ hj,bv,cJ,hn];show bV (B 72 [.slc true 0 [],.nils]) _=_;rw[e72n,bv,bP,Bool.not_true,bu,n1,bu,bu];exact Bu h ha
 ·rw[pE (hC:=c1),n1,bu,IQ h h2 _ hj,bv,cJ,Kx h _ _ _ hj,bv,bP,Bool.not_true,bu,n1,bu,bu];exact Bu h ha
include hb
theorem Bw{f g h2:Bool}:
  iE B LL C1 a.isEmpty a.length (a.flatMap bA) b.isEmpty b.length (b.flatMap bA) (bL a) (bL b) (kZ (cw [bL a,bL b]) a b) f (j5 (bL a) (dK none 1 a)).length ((j5 (bL a) (dK none 1 a)).flatMap bA) (bL a) g (y6 (bL a) (dC none 1 a)).length ((y6 (bL a) (dC none 1 a)).flatMap cX) (bL a)
   h2 (j5 (kZ (cw [bL a,bL b]) a b) (jq a b)).length ((j5 (kZ (cw [bL a,bL b]) a b) (jq a b)).flatMap bA)=some (.bool true):=by
 have hj:=Bt (e:=kZ (cw [bL a,bL b]) a b) (a:=a) (b:=b) x6;have e34:B 34 [.slc true 2 [.int .i64 (bL a),.int .i64 (bL b)]]=some (.int .i64 (cw [bL a,bL b])):=h.h34 (bL a,bL b);have e71:B 71 [.slc a.isEmpty a.length (a.flatMap bA),.slc b.isEmpty b.length (b.flatMap bA)]=some (uX a.isEmpty a b):=h.h71 ((a.isEmpty,⟨a,by omega⟩),(b.isEmpty,⟨b,by omega⟩));rw[sK (hC:=c1),e34,bv,bD];by_cases hz:cw [bL a,bL b]=0
 ·have hr:kZ (cw [bL a,bL b]) a b=mB a b:=by unfold kZ;rw[hz];rfl
  rw[hr] at hj ⊢;rw[hz,show((0:Int)==0)=true from rfl,bC,e71,bv];unfold uX;rw[ml,mm,nN,mn,bD];exact Bv h ha hj (.inr rfl)
 ·have hne:(cw [bL a,bL b] !=0)=true:=by simpa using hz
  have hr:kZ (cw [bL a,bL b]) a b=cw [bL a,bL b]:=by unfold kZ;rw[hne];rfl
  rw[hr] at hj ⊢;rw[show(cw [bL a,bL b]==0)=false from beq_eq_false_iff_ne.2 hz,bu];exact Bv (h1:=true) h ha hj (.inl ⟨rfl,xe _ hne⟩)
theorem Bx{f g h1 h2 h3:Bool}{e1:Int}(hj:(j5 e1 (jq a [m])).length≤1000){w:Ow}(hw:(w= .nil∧j5 e1 (jq a [m])=[])∨w= .slc h1 (j5 e1 (jq a [m])).length ((j5 e1 (jq a [m])).flatMap bA)):
  fJ B LL C1 a.isEmpty a.length (a.flatMap bA) b.isEmpty b.length (b.flatMap bA) (bL a) (bL b) e1 (kZ (cw [bL a,bL b]) a b) f (j5 (bL a) (dK none 1 a)).length ((j5 (bL a) (dK none 1 a)).flatMap bA) (bL a) g (y6 (bL a) (dC none 1 a)).length ((y6 (bL a) (dC none 1 a)).flatMap cX) (bL a)
   e1 w h3 (j5 e1 (jq a [m])).length ((j5 e1 (jq a [m])).flatMap bA) h2 (j5 (kZ (cw [bL a,bL b]) a b) (jq a b)).length ((j5 (kZ (cw [bL a,bL b]) a b) (jq a b)).flatMap bA)=some (.bool true):=by
 have n1:∀x:Int,(x !=x)=false:=fun x=>by simp
 rcases hw with⟨rfl,hn⟩|rfl
 ·have e72n:B 72 [.slc true 0 [],.nils]=some (.bool true):=h.h72 (.one true);rw[pV (hC:=c1),n1,bu,IQ h h3 _ hj,bv,cJ,hn];show bV (B 72 [.slc true 0 [],.nils]) _=_;rw[e72n,bv,bP,Bool.not_true,bu];exact Bw h ha hb
 ·rw[pW (hC:=c1),n1,bu,IQ h h3 _ hj,bv,cJ,Kx h _ _ _ hj,bv,bP,Bool.not_true,bu];exact Bw h ha hb
theorem FR{fa fb:Bool}(e67:B 67 [.agg [mS fa a],.agg (bA m)]=some (.tup [.agg [u6 false (kZ (cw [bL a,dH m]) a [m]) (jq a [m])],.int .i64 (kZ (cw [bL a,dH m]) a [m])]))
  (e68:B 68 [.agg [mS fa a],.agg [mS fb b]]=some (.tup [.agg [u6 false (kZ (cw [bL a,bL b]) a b) (jq a b)],.int .i64 (kZ (cw [bL a,bL b]) a b)]))
  (e69:B 69 [.agg [mS fa a]]=some (.tup [ia bA (j5 (bL a) (dK none 1 a)),.int .i64 (bL a)])) (e70:B 70 [.agg [mS fa a]]=some (.tup [ia cX (y6 (bL a) (dC none 1 a)),.int .i64 (bL a)])):
  nM B LL C1 a.isEmpty a.length (a.flatMap bA) b.isEmpty b.length (b.flatMap bA) fa a.length (a.flatMap bA) fb b.length (b.flatMap bA) m.1 m.2.1 m.2.2.1 m.2.2.2.1 m.2.2.2.2.1 m.2.2.2.2.2 (bL a) (bL b) (dH m)=some (.bool true):=by
 have hj:=Bt (e:=kZ (cw [bL a,dH m]) a [m]) (a:=a) (b:=[m]) x6;have e67:B 67 [.agg [.slc fa a.length (a.flatMap bA)],.agg [.str m.1,.int .i64 m.2.1,.str m.2.2.1,.int .i64 m.2.2.2.1,.int .i64 m.2.2.2.2.1,.str m.2.2.2.2.2]]=_:=e67;have e34:B 34 [.slc true 2 [.int .i64 (bL a),.int .i64 (dH m)]]=some (.int .i64 (cw [bL a,dH m])):=h.h34 (bL a,dH m);have e71:B 71 [.slc a.isEmpty a.length (a.flatMap bA),.slc true 1 [.str m.1,.int .i64 m.2.1,.str m.2.2.1,.int .i64 m.2.2.2.1,.int .i64 m.2.2.2.2.1,.str m.2.2.2.2.2]]=some (uX a.isEmpty a [m]):=h.h71 ((a.isEmpty,⟨a,by omega⟩),(true,⟨[m],by simp⟩));rw[xd (hC:=c1),e67,bv,ml,mm,IM,IN,nN,mn,bD,e68,bv,ml,mm,IM,IN,nN,mn,bD,e69,bv,ml,mm,fh,cJ,mn,bD,e70,bv,ml,mm,fh,cJ,mn,bD,e34,bv,bD];by_cases hz:cw [bL a,dH m]=0
 ·have hr:kZ (cw [bL a,dH m]) a [m]=mB a [m]:=by unfold kZ;rw[hz];rfl
  rw[hr] at hj ⊢;rw[hz,show((0:Int)==0)=true from rfl,bC,e71,bv];unfold uX;rw[ml,mm,nN,mn,bD];exact Bx h ha hb hj (.inr rfl)
 ·have hne:(cw [bL a,dH m] !=0)=true:=by simpa using hz
  have hr:kZ (cw [bL a,dH m]) a [m]=cw [bL a,dH m]:=by unfold kZ;rw[hne];rfl
  rw[hr] at hj ⊢;rw[show(cw [bL a,dH m]==0)=false from beq_eq_false_iff_ne.2 hz,bu];exact Bx (h1:=true) h ha hb hj (.inl ⟨rfl,xe _ hne⟩)
end
theorem Ky{fa fb:Bool}(a b:List MsgV)(m:MsgV)(ha:a.length*72≤bS)(hb:b.length*72≤bS):ci 11 [.agg [mS fa a],.agg [mS fb b],.agg (bA m)] (.bool true):=by
 have start:∀{B:FuncId→List D→Option D},B 15 []=some (.bool true)→(∀i:FQ,B 30 [mS i.1 i.2.1]=some (mS i.2.1.isEmpty i.2.1))→(∀i:IO,B 31 [mS i.1.1 i.1.2,.int .i64 (i.2.1:Int)]=some (.bool (rl i.1.2 i.2.1)))→
   (rl a 20=true→rl b 20=true→rl [m] 1=true→sJ B LL C1 fa a.length (a.flatMap bA) fb b.length (b.flatMap bA) m.1 m.2.1 m.2.2.1 m.2.2.2.1 m.2.2.2.2.1 m.2.2.2.2.2 a.isEmpty a.length (a.flatMap bA) b.isEmpty b.length (b.flatMap bA)=some (.bool true))→
   cv (dS B LL C1) O0 Br .canon Tryz.f11 [.agg [mS fa a],.agg [mS fb b],.agg (bA m)]=some (.bool true):=fun {B} e15 h30 h31 k=>by
  have ea:B 30 [.slc fa a.length (a.flatMap bA)]=some (mS a.isEmpty a):=h30 (fa,⟨a,ha⟩);have eb:B 30 [.slc fb b.length (b.flatMap bA)]=some (mS b.isEmpty b):=h30 (fb,⟨b,hb⟩);have sa:B 31 [.slc a.isEmpty a.length (a.flatMap bA),.int .i64 20]=some (.bool (rl a 20)):=h31 ((a.isEmpty,a),⟨20,by omega⟩);have sb:B 31 [.slc b.isEmpty b.length (b.flatMap bA),.int .i64 20]=some (.bool (rl b 20)):=h31 ((b.isEmpty,b),⟨20,by omega⟩);have sm:B 31 [.slc true 1 [.str m.1,.int .i64 m.2.1,.str m.2.2.1,.int .i64 m.2.2.2.1,.int .i64 m.2.2.2.2.1,.str m.2.2.2.2.2],.int .i64 1]=some (.bool (rl [m] 1)):=h31 ((true,[m]),⟨1,by omega⟩);refine(FO B LL C1 fa _ _ fb _ _ m.1 m.2.1 m.2.2.1 m.2.2.2.1 m.2.2.2.2.1 m.2.2.2.2.2).trans ?_;rw[ea,bv,cJ,eb,bv,cJ,sa,bv,bP,e15,sb,bv,bP,sm,bv,bP];cases h1:rl a 20 with
  |false=>rfl
  |true=>
   cases h2:rl b 20 with
   |false=>rfl
   |true=>
    cases h3:rl [m] 1 with
    |false=>rfl
    |true=>exact k h1 h2 h3
 by_cases hs:rl a 20=true∧rl b 20=true∧rl [m] 1=true
 ·obtain⟨s1,s2,s3⟩:=hs;obtain⟨la,fa1⟩:=xc (n:=20) s1;obtain⟨lb,fb1⟩:=xc (n:=20) s2;have fm:=(xc (n:=1) s3).2 m (zc8.2 rfl);have g73:∃F:Fam,F.Good∧F.f=73∧∀B:FuncId→List D→Option D,(∀i,B F.f (F.a i)=some (F.r i))→bL a=0→B 73 [mS a.isEmpty a]=some (ia cX (pT none none a)):=by
   by_cases hz:bL a=0
   ·exact⟨one 73 [mS a.isEmpty a] _,cP (Ko a (by omega) fun x hx=>(by have:=uQ ((nF hz).2.2 x hx);omega)),rfl,fun B h _=>h ()⟩
   ·exact⟨⟨73,Empty,fun _=>[],fun _=> .nils⟩,⟨fun i=>i.elim,fun i=>i.elim⟩,rfl,fun B h hz'=>absurd hz' hz⟩
  obtain⟨F,hF,hf,h73⟩:=g73;obtain⟨B,hB,hX⟩:=sr [one 15 [] (.bool true),fa30,fa31,fa34,fa35,fa64,fa65,fa66,one 67 [.agg [mS fa a],.agg (bA m)] _,one 68 [.agg [mS fa a],.agg [mS fb b]] _,one 69 [.agg [mS fa a]] _,one 70 [.agg [mS fa a]] _,fa71,fa72,one 74 [mS a.isEmpty a] _,F]
   ⟨cP H4,rm,rn,yX,yW,ra,rg,mA,cP (Ka a m (by omega) fa1 fm),cP (Kb a b (by omega) (by omega) fa1 fb1),cP (Kh a (by omega) fa1),cP (Ki a (by omega) fa1),yY,yZ,cP (Kl a (by omega)),hF,trivial⟩
   (by simp[wK,one,fa30,fa31,fa34,fa35,fa64,fa65,fa66,fa71,fa72,hf])
  obtain⟨e15,h30,h31,h34,h35,h64,h65,h66,e67,e68,e69,e70,h71,h72,e74,h73',_⟩:=hX;have e15:B 15 []=some (.bool true):=e15 ();refine jY hB Tryz.func11 (ord:=O0) (N:=Br) (by kernel_rfl) (start e15 h30 h31 fun _ _ _=> ?_);have hL:FolB a b m B:=⟨e15,h30,h34,h71,h72,h73 B h73',e74 ()⟩;have ea:B 35 [.slc a.isEmpty a.length (a.flatMap bA)]=some (.int .i64 (bL a)):=h35 (a.isEmpty,⟨a,by omega⟩);have eb:B 35 [.slc b.isEmpty b.length (b.flatMap bA)]=some (.int .i64 (bL b)):=h35 (b.isEmpty,⟨b,by omega⟩);have em:B 64 [.agg [.str m.1,.int .i64 m.2.1,.str m.2.2.1,.int .i64 m.2.2.2.1,.int .i64 m.2.2.2.2.1,.str m.2.2.2.2.2]]=some (.int .i64 (dH m)):=h64 m;have pa:B 65 [.agg [.slc fa a.length (a.flatMap bA)]]=some (.int .i64 (bL a)):=h65 ⟨fa,a,by omega,fa1⟩;have pm:B 66 [.agg [.str m.1,.int .i64 m.2.1,.str m.2.2.1,.int .i64 m.2.2.2.1,.int .i64 m.2.2.2.2.1,.str m.2.2.2.2.2]]=some (.int .i64 (dH m)):=h66 ⟨m,fm⟩;have n1:∀x:Int,(x !=x)=false:=fun x=>by simp
  rw[yV (hC:=c1),ea,bv,bD,eb,bv,bD,em,bv,bD,pa,bv,bD,n1,bu,pm,bv,bD,n1,bu];exact FR hL la lb (e67 ()) (e68 ()) (e69 ()) (e70 ())
 ·obtain⟨B,hB,hX⟩:=sr [one 15 [] (.bool true),fa30,fa31] ⟨cP H4,rm,rn,trivial⟩ rfl;exact jY hB Tryz.func11 (ord:=O0) (N:=Br) (by kernel_rfl) (start (hX.1 ()) hX.2.1 hX.2.2.1 fun h1 h2 h3=>absurd ⟨h1,h2,h3⟩ hs)
end Go.Pd
end
