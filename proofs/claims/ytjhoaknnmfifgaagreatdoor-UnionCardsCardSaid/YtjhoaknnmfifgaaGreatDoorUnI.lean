import Derived.Test.YtjhoaknnmfifgaaGreatDoorUnH
import Derived.Test.YtjhoaknnmfifgaaGreatDoorUnG
section
namespace Go.Pd
open Go Go.Proofs Go.RowKit
def hP(l:List jz)(i:Nat):Int:=(l.getD i (0,0)).1
def hS(l:List jz)(i:Nat):Int:=(l.getD i (0,0)).2
theorem Cd(l:List jz):j5 l.length (l.flatMap bN) (hP l) (hS l):=by
 intro i hi;obtain⟨pre,r,h,rfl⟩:=qM (zc8 hi);have e:l.getD pre.length (0,0)=l[pre.length]:=by rw[List.getD_eq_getElem?_getD,zc8 hi];rfl
 unfold hP hS;rw[e];generalize l[pre.length]=x at h;subst h;exact⟨my x r bN 2 (fun _=>rfl) pre 0 (by omega),my x r bN 2 (fun _=>rfl) pre 1 (by omega)⟩
def t8(l:List jz):Int:=dK l.length (hP l) (hS l)
def lP:List ByteArray→List ByteArray→Int
 |_,[]=>0
 |pre,x::r=>bx (dM [bx (!cQ x) 8 0,bx (d4 pre x) 9 0] !=0) (dM [bx (!cQ x) 8 0,bx (d4 pre x) 9 0]) (lP (pre++[x]) r)
def zU(cl:List ByteArray)(pre:List cY)(x:cY):Int:=dM [bx (!cQ x.1) 8 0,bx (d4 (pre.map (·.1)) x.1) 9 0,bx (!d4 cl x.2.1) 10 0,bx (oy x.2.2 (-99) 99) 3 0]
def iH(cl:List ByteArray):List cY→List cY→Int
 |_,[]=>0
 |pre,x::r=>bx (zU cl pre x !=0) (zU cl pre x) (iH cl (pre++[x]) r)
def zK(me:List cY)(s:ByteArray):Bool:=me.any fun m=>db m.1 s
def t6(me:List cY)(n:Nat)(x:ci):Bool:= !zK me x.1||(!zK me x.2.1||oy x.2.2.1 1 (n:Int))
def zV(pre:List ci)(x:ci):Bool:=pre.any (iJ x.1 x.2.2.1 (db x.2.1 x.1))
def zW(me:List cY)(n:Nat)(pre:List ci)(x:ci):Int:=dM [bx (t6 me n x) 10 0,dS x.2.2.2,bx (zV pre x) 9 0]
def lQ(me:List cY)(n:Nat):List ci→List ci→Int
 |_,[]=>0
 |pre,x::r=>bx (zW me n pre x !=0) (zW me n pre x) (lQ me n (pre++[x]) r)
def HW(me:List cY)(n:Nat)(l:List ci)(pre:List ByteArray)(x:ByteArray):Int:=dM [bx (!zK me x) 10 0,bx (d4 pre x) 9 0,gI l n x]
def rk(me:List cY)(n:Nat)(l:List ci):List ByteArray→List ByteArray→Int
 |_,[]=>0
 |pre,x::r=>bx (HW me n l pre x !=0) (HW me n l pre x) (rk me n l (pre++[x]) r)
def CB(pre:List KepV)(k:KepV):Int:=dM [bx (!cQ k.1) 8 0,bx (d4 (pre.map (·.1)) k.1) 9 0,t8 k.2.1.2,bx (decide ((k.2.2.2.length:Int)>200)) 5 0]
def yS(h:List jz)(c:CrdV):Int:=mR h.length (hP h) (hS h) c.1 c.2.2
def mT(h:List jz):List CrdV→Int
 |[]=>0
 |c::r=>bx (yS h c !=0) (yS h c) (mT h r)
def jB:List KepV→List KepV→Int
 |_,[]=>0
 |pre,k::r=>bx (CB pre k !=0) (CB pre k) (bx (mT k.2.1.2 k.2.2.2 !=0) (mT k.2.1.2 k.2.2.2) (jB (pre++[k]) r))
theorem ka(s:ByteArray)(l:List ByteArray):(cE (.str s) (br l) 0=some none∧d4 l s=false)∨∃j,cE (.str s) (br l) 0=some (some j)∧j<l.length∧d4 l s=true:=by
 have H:∀(l:List ByteArray) (i:Nat),(cE (.str s) (br l) i=some none∧d4 l s=false)∨∃j,cE (.str s) (br l) i=some (some (i+j))∧j<l.length∧d4 l s=true:=by
  intro l
  induction l with
  |nil=>exact fun i=> .inl ⟨rfl,rfl⟩
  |cons x l ih=>
   intro i;have hk:ff (.str s) (.str x)=some (db x s):=by
    show some (s==x)=_;rw[beq_toListBytes,qK];rfl
   have e:cE (.str s) (br (x::l)) i=match some (db x s) with
    |some true=>some (some i)
    |some false=>cE (.str s) (br l) (i+1)
    |none=>none:=by
    rw[←hk];rfl
   rw[e];have e2:d4 (x::l) s=(db x s||d4 l s):=rfl;rw[e2];cases hs:db x s with
   |true=>exact .inr ⟨0,rfl,by simp,rfl⟩
   |false=>
    rcases ih (i+1) with⟨h1,h2⟩|⟨j,h1,h2,h3⟩
    ·exact .inl ⟨h1,h2⟩
    ·exact .inr ⟨j+1,by rw[show i+(j+1)=i+1+j by omega];exact h1,by simp;exact h2,h3⟩
 rcases H l 0 with h|⟨j,h1,h2,h3⟩
 ·exact .inl h
 ·exact .inr ⟨j,by rw[Nat.zero_add] at h1;exact h1,h2,h3⟩
theorem o9{s:ByteArray}{l:List ByteArray}{n:Nat}(h:cE (.str s) (br l) 0=some none):iZ (.str s) (.bool true) (br l) (eu n)=some (br (l++[s]),eu (n+1)):=by
 unfold iZ;rw[h];simp[br,eu]
def gg(x:ci):D:= .agg [.str x.1,.int .i64 x.2.2.1,.bool (db x.2.1 x.1)]
theorem Ce(x:ci)(l:List ci):(cE (gg x) (l.map gg) 0=some none∧zV l x=false)∨∃j,cE (gg x) (l.map gg) 0=some (some j)∧j<l.length∧zV l x=true:=by
 have H:∀(l:List ci) (i:Nat),(cE (gg x) (l.map gg) i=some none∧zV l x=false)∨∃j,cE (gg x) (l.map gg) i=some (some (i+j))∧j<l.length∧zV l x=true:=by
  intro l
  induction l with
  |nil=>exact fun i=> .inl ⟨rfl,rfl⟩
  |cons y l ih=>
   intro i;have hk:ff (gg x) (gg y)=some (iJ x.1 x.2.2.1 (db x.2.1 x.1) y):=by
    have e:ff (gg x) (gg y)=some ((x.1==y.1)&&((x.2.2.1==y.2.2.1)&&((db x.2.1 x.1==db y.2.1 y.1)&&true))):=rfl;rw[e,beq_toListBytes];show some (db x.1 y.1&&_)=_;rw[qK x.1 y.1,Bool.and_true,show(x.2.2.1==y.2.2.1)=(y.2.2.1==x.2.2.1) from Bool.beq_comm ..,show(db x.2.1 x.1==db y.2.1 y.1)=(db y.2.1 y.1==db x.2.1 x.1) from Bool.beq_comm ..];rfl
   have e:cE (gg x) ((y::l).map gg) i=match some (iJ x.1 x.2.2.1 (db x.2.1 x.1) y) with
    |some true=>some (some i)
    |some false=>cE (gg x) (l.map gg) (i+1)
    |none=>none:=by
    rw[←hk];rfl
   rw[e];have e2:zV (y::l) x=(iJ x.1 x.2.2.1 (db x.2.1 x.1) y||zV l x):=rfl;rw[e2];cases hs:iJ x.1 x.2.2.1 (db x.2.1 x.1) y with
   |true=>exact .inr ⟨0,rfl,by simp,rfl⟩
   |false=>
    rcases ih (i+1) with⟨h1,h2⟩|⟨j,h1,h2,h3⟩
    ·exact .inl ⟨h1,h2⟩
    ·exact .inr ⟨j+1,by rw[show i+(j+1)=i+1+j by omega];exact h1,by simp;exact h2,h3⟩
 rcases H l 0 with h|⟨j,h1,h2,h3⟩
 ·exact .inl h
 ·exact .inr ⟨j,by rw[Nat.zero_add] at h1;exact h1,h2,h3⟩
theorem Eo{x:ci}{l:List ci}{n:Nat}(h:cE (gg x) (l.map gg) 0=some none):iZ (gg x) (.bool true) (l.map gg) (eu n)=some ((l++[x]).map gg,eu (n+1)):=by
 unfold iZ;rw[h];simp[eu]
section
variable {γ:Type}
theorem kC{o:Option (Option Nat)}(h:o=some none)(a:Option γ)(c:Nat→Option γ):fS o a c=a:=by rw[h];rfl
theorem iI{o:Option (Option Nat)}{j:Nat}(h:o=some (some j))(a:Option γ)(c:Nat→Option γ):fS o a c=c j:=by rw[h];rfl
theorem mU{o:Option (List D×List D)}{a b:List D}(h:o=some (a,b))(c:List D→List D→Option γ):kE o c=c a b:=by rw[h];rfl
end
theorem zL(E M:Int):bx (E !=0) (some (D.int .i64 E)) (some (D.int .i64 M))=some (.int .i64 (bx (E !=0) E M)):=by cases E !=0<;>rfl
theorem mV(E M K:Int):bx (E !=0) (some (D.int .i64 E)) (some (D.int .i64 (bx (M !=0) M K)))=some (.int .i64 (bx (bx (E !=0) E M !=0) (bx (E !=0) E M) K)):=by
 cases h:E !=0 with
 |true=>rw[bq,bq,h,bq]
 |false=>rfl
section
variable {f0 f1 f2 f3 f4 f5:Bool}{b0 b1 b2 b3 b4 b5:Nat}{e0 e1 e2 e3 e4 e5:List D}
theorem K2{B:FuncId→List D→Option D}{n:Nat}{H:Int}(cl:List ByteArray)(a111:∀s:Lr,B 111 [.str s.1]=some (.bool (cQ s.1)))(a119:∀(b:Bool) (e:Int),B 119 [.bool b,.int .i64 e]=some (.int .i64 (bx b e 0)))
  (a118:∀h:Int,B 118 [.int .i64 h,.int .i64 (-99),.int .i64 99]=some (.bool (oy h (-99) 99))) (a87:∀x y z w:Int,B 87 [.slc true 4 [.int .i64 x,.int .i64 y,.int .i64 z,.int .i64 w]]=some (.int .i64 (dM [x,y,z,w]))) (a109:B 109 [.slc f2 b2 e2]=some (.int .i64 H)):
  ∀(r pre:List cY) (fuel:Nat),(pre++r).length=n→n≤100000→r.length<fuel→(∀x∈r,x.1.size≤1000)→
  jp B LL C1 fuel f1 n ((pre++r).flatMap bJ) f0 b0 e0 f2 b2 e2 f3 b3 e3 f4 b4 e4 f5 b5 e5 (br cl) (eu cl.length) n (pre.length:Int) (br (pre.map (·.1))) (eu pre.length)=some (.int .i64 (bx (iH cl pre r !=0) (iH cl pre r) (bx ((b2:Int)==0) 0 H))):=by
 intro r
 induction r with
 |nil=>
  intro pre fuel hn hB hf hs;cases fuel with
  |zero=>exact absurd hf (Nat.not_lt_zero _)
  |succ fuel=>
   subst hn;rw[qv,co,bp,a109,bm,bo,show iH cl pre []=0 from rfl];cases (b2:Int)==0<;>rfl
 |cons x r ih=>
  intro pre fuel hn hB hf hs;cases fuel with
  |zero=>exact absurd hf (Nat.not_lt_zero _)
  |succ fuel=>
   have ih:=ih (pre++[x]) fuel (by rw[cJ];exact hn) hB (by simp at hf;omega) (fun y hy=>hs y (za3 _ hy));rw[cJ,List.map_append,show List.map (·.1) [x]=[x.1] from rfl,show(pre++[x]).length=pre.length+1 by simp] at ih;subst hn;have a:=a111 ⟨x.1,hs x (za2 ..)⟩;dsimp only at a;rw[qv,cD,bq,cB,bv,HT,bw,m1,bw,m2,bo,a,bm,bA,bZ pre x r (by omega),show(pre++[x]).length=pre.length+1 by simp];simp only[a119,a118,a87,bm,bo,bA];rw[show iH cl pre (x::r)=bx (zU cl pre x !=0) (zU cl pre x) (iH cl (pre++[x]) r) from rfl];unfold zU;rcases ka x.1 (pre.map (·.1)) with⟨g1,g2⟩|⟨j,g1,g2,g3⟩
   ·rw[kC g1,g2];rcases ka x.2.1 cl with⟨k1,k2⟩|⟨k,k1,k2,k3⟩
    ·rw[kC k1,k2];rw[mU (o9 g1),ih];exact mV _ _ _
    ·rw[iI k1,k3,cP (e9 _ _ k2),bA];rw[mU (o9 g1),ih];exact mV _ _ _
   ·rw[iI g1,g3,cP (e9 _ _ (by rw[zb8] at g2;exact g2)),bA];rcases ka x.2.1 cl with⟨k1,k2⟩|⟨k,k1,k2,k3⟩
    ·rw[kC k1,k2];cases cQ x.1<;>rfl
    ·rw[iI k1,k3,cP (e9 _ _ k2),bA];cases cQ x.1<;>rfl
theorem K3{B:FuncId→List D→Option D}{n:Nat}{H:Int}(me:List cY)(hm:me.length≤100000)(hms:∀x∈me,x.1.size≤1000)(a111:∀s:Lr,B 111 [.str s.1]=some (.bool (cQ s.1)))(a119:∀(b:Bool) (e:Int),B 119 [.bool b,.int .i64 e]=some (.int .i64 (bx b e 0)))
  (a118:∀h:Int,B 118 [.int .i64 h,.int .i64 (-99),.int .i64 99]=some (.bool (oy h (-99) 99))) (a87:∀x y z w:Int,B 87 [.slc true 4 [.int .i64 x,.int .i64 y,.int .i64 z,.int .i64 w]]=some (.int .i64 (dM [x,y,z,w])))
  (a87t:∀x y:Int,B 87 [.slc true 2 [.int .i64 x,.int .i64 y]]=some (.int .i64 (dM [x,y]))) (a109:B 109 [.slc f2 b2 e2]=some (.int .i64 H)):
  ∀(r pre:List ByteArray) (fuel:Nat),(pre++r).length=n→n≤100000→r.length<fuel→(∀x∈r,x.size≤1000)→
  qu B LL C1 fuel f0 n (br (pre++r)) f1 me.length (me.flatMap bJ) f2 b2 e2 f3 b3 e3 f4 b4 e4 f5 b5 e5 n (pre.length:Int) (br pre) (eu pre.length)=some (.int .i64 (bx (lP pre r !=0) (lP pre r) (bx (iH (pre++r) [] me !=0) (iH (pre++r) [] me) (bx ((b2:Int)==0) 0 H)))):=by
 intro r
 induction r with
 |nil=>
  intro pre fuel hn hB hf hs;cases fuel with
  |zero=>exact absurd hf (Nat.not_lt_zero _)
  |succ fuel=>
   subst hn;have:=K2 (f0:=f0) (f1:=f1) (f2:=f2) (f3:=f3) (f4:=f4) (f5:=f5) (b0:=(pre++[]).length) (b2:=b2) (b3:=b3) (b4:=b4) (b5:=b5) (e0:=br (pre++[])) (e2:=e2) (e3:=e3) (e4:=e4) (e5:=e5) (n:=me.length) pre a111 a119 a118 a87 a109 me [] LL rfl hm (by unfold LL;omega) hms;rw[sF,co,bp];refine this.trans ?_;rw[zb2];rfl
 |cons x r ih=>
  intro pre fuel hn hB hf hs;cases fuel with
  |zero=>exact absurd hf (Nat.not_lt_zero _)
  |succ fuel=>
   have ih:=ih (pre++[x]) fuel (by rw[cJ];exact hn) hB (by simp at hf;omega) (fun y hy=>hs y (za3 _ hy));rw[cJ] at ih;subst hn;have a:=a111 ⟨x,hs x (za2 ..)⟩;dsimp only at a;rw[sF,cD,bq,cB,bv,t0,bw,a,bm,bA,bZ pre x r (by omega)];simp only[a119,a87t,bm,bo];rw[show lP pre (x::r)=bx (dM [bx (!cQ x) 8 0,bx (d4 pre x) 9 0] !=0) (dM [bx (!cQ x) 8 0,bx (d4 pre x) 9 0]) (lP (pre++[x]) r) from rfl];rcases ka x pre with⟨g1,g2⟩|⟨j,g1,g2,g3⟩
   ·rw[kC g1,g2,mU (o9 g1),show eu (pre.length+1)=eu (pre++[x]).length by rw[za4];rfl,ih];exact mV _ _ _
   ·rw[iI g1,g3,cP (e9 _ _ g2),bA];cases cQ x<;>rfl
def E6(cl:List ByteArray)(me:List cY)(ho:List jz):Int:=bx (lP [] cl !=0) (lP [] cl) (bx (iH cl [] me !=0) (iH cl [] me) (bx ((ho.length:Int)==0) 0 (t8 ho)))
theorem Mx(cl:List ByteArray)(me:List cY)(ho:List jz)(hc:cl.length≤100000)(hm:me.length≤100000)(hcs:∀x∈cl,x.size≤1000)(hms:∀x∈me,x.1.size≤1000):
  ce 86 [.agg [.slc f0 cl.length (br cl),.slc f1 me.length (me.flatMap bJ),.slc f2 ho.length (ho.flatMap bN),.slc f3 b3 e3,.slc f4 b4 e4,.slc f5 b5 e5]] (.int .i64 (E6 cl me ho)):=by
 obtain⟨B,hB,hF⟩:=j2 [fa111,fa119,fa118,fa87,one 109 [.slc f2 ho.length (ho.flatMap bN)] (.int .i64 (t8 ho))] ⟨qN,fN,lO,iG,bL (Ca (Cd ho)),trivial⟩ rfl;refine eA hB Tryz.func86 (ord:=O0) (N:=Lp) (by kernel_rfl) ((Hk _ _ _ _ _ _ _ _ _ _ _ _ _ _ _ _ _ _ _ _ _).trans ?_);exact K3 (H:=t8 ho) me hm hms hF.1 (fun b e=>hF.2.1 (b,e)) (fun h=>hF.2.2.1 (h,-99,99)) (fun x y z w=>hF.2.2.2.1 ⟨[x,y,z,w],by simp⟩) (fun x y=>hF.2.2.2.1 ⟨[x,y],by simp⟩) (hF.2.2.2.2.1 ()) cl [] LL rfl hc (by unfold LL;omega) hcs
end
end Go.Pd
end
section
namespace Go.Pd
open Go Go.Proofs Go.RowKit
set_option maxRecDepth 100000
def E7(k:FuncId)(u:D)(g:ByteArray→D):Fam:=⟨k,ByteArray,fun s=>[u,.str s],g⟩
theorem gJ{k:FuncId}{u:D}{g:ByteArray→D}(h:∀s,ce k [u,.str s] (g s)):(E7 k u g).Good:=⟨h,fun i j e=>by
 have e:[u,D.str i]=[u,D.str j]:=e;simp only[zc1,and_true,true_and] at e;rw[show i=j from D.str.inj e]⟩
theorem js(me:List cY)(s:ByteArray):decide (ix (fun m=>db m.1 s) me<0)= !zK me s:=Hv _ _
section
variable {f0 f1 f2 f3 f4 f5:Bool}{b0 b1 b2 b3 b4 b5:Nat}{e0 e1 e2 e3 e4 e5:List D}
theorem K4{B:FuncId→List D→Option D}{n N:Nat}(me:List cY)(l:List ci)
  (a154:∀s,B 154 [.agg [.slc f0 b0 e0,.slc f1 b1 e1,.slc f2 b2 e2,.slc f3 b3 e3,.slc f4 n e4,.slc f5 b5 e5],.str s]=some (.int .i64 (ix (fun m=>db m.1 s) me)))
  (a94:∀s,B 94 [.agg [.slc f0 b0 e0,.slc f1 b1 e1,.slc f2 b2 e2,.slc f3 b3 e3,.slc f4 n e4,.slc f5 b5 e5],.str s]=some (.int .i64 (gI l N s)))
  (a119:∀(b:Bool) (e:Int),B 119 [.bool b,.int .i64 e]=some (.int .i64 (bx b e 0))) (a87:∀x y z:Int,B 87 [.slc true 3 [.int .i64 x,.int .i64 y,.int .i64 z]]=some (.int .i64 (dM [x,y,z])))
  (a155:∀(f:Bool) (l:List ByteArray) (s:ByteArray),l.length≤100000→B 155 [.slc f l.length (br l),.str s]=some (.bool (d4 l s))):
  ∀(r pre:List ByteArray) (fuel:Nat),(pre++r).length=n→e4=br (pre++r)→n≤100000→r.length<fuel→
  mH B LL C1 fuel f4 n (br (pre++r)) f0 b0 e0 f1 b1 e1 f2 b2 e2 f3 b3 e3 f5 b5 e5 n (pre.length:Int)=some (.int .i64 (rk me N l pre r)):=by
 intro r
 induction r with
 |nil=>
  intro pre fuel hn he hB hf;cases fuel with
  |zero=>exact absurd hf (Nat.not_lt_zero _)
  |succ fuel=>
   subst hn;rw[qx,co,bp];rfl
 |cons x r ih=>
  intro pre fuel hn he hB hf;cases fuel with
  |zero=>exact absurd hf (Nat.not_lt_zero _)
  |succ fuel=>
   have ih:=ih (pre++[x]) fuel (by rw[cJ];exact hn) (by rw[cJ];exact he) hB (by simp at hf;omega);rw[cJ] at ih;subst hn;rw[←he] at ih;rw[qx,cD,bq,cB,bv,t0,bw,←he,a154,bm,bo,js,a119,bm,bo,tZ,bv,he,nD,a155 _ _ _ (by simp at hB;omega),bm,bA,a119,bm,bo,←he,a94,bm,bo,a87,bm,bo,bZ pre x r (by omega),ih];exact zL (HW me N l pre x) (rk me N l (pre++[x]) r)
theorem K5{B:FuncId→List D→Option D}{n:Nat}{S:Int}(me:List cY)
  (a153:∀m:ci,B 153 [.agg [.str m.1,.str m.2.1,.int .i64 m.2.2.1,.int .i64 m.2.2.2.1,.str m.2.2.2.2]]=some (.bool (db m.2.1 m.1)))
  (a154:∀s,B 154 [.agg [.slc f0 b0 e0,.slc f1 b1 e1,.slc f2 b2 e2,.slc f3 n e3,.slc f4 b4 e4,.slc f5 b5 e5],.str s]=some (.int .i64 (ix (fun m=>db m.1 s) me)))
  (a118:∀h:Int,B 118 [.int .i64 h,.int .i64 1,.int .i64 (b2:Int)]=some (.bool (oy h 1 (b2:Int))))
  (a147:∀x:da,B 147 [.agg [.int .i64 x.1,.str x.2]]=some (.int .i64 (dS x)))
  (a119:∀(b:Bool) (e:Int),B 119 [.bool b,.int .i64 e]=some (.int .i64 (bx b e 0))) (a87:∀x y z:Int,B 87 [.slc true 3 [.int .i64 x,.int .i64 y,.int .i64 z]]=some (.int .i64 (dM [x,y,z])))
  (hS:mH B LL C1 LL f4 b4 e4 f0 b0 e0 f1 b1 e1 f2 b2 e2 f3 n e3 f5 b5 e5 b4 0=some (.int .i64 S)):
  ∀(r pre:List ci) (fuel:Nat),(pre++r).length=n→e3=(pre++r).flatMap bD→n≤100000→r.length<fuel→
  qw B LL C1 fuel f3 n ((pre++r).flatMap bD) f0 b0 e0 f1 b1 e1 f2 b2 e2 f4 b4 e4 f5 b5 e5 n (pre.length:Int) (pre.map gg) (eu pre.length)=some (.int .i64 (bx (lQ me b2 pre r !=0) (lQ me b2 pre r) S)):=by
 intro r
 induction r with
 |nil=>
  intro pre fuel hn he hB hf;cases fuel with
  |zero=>exact absurd hf (Nat.not_lt_zero _)
  |succ fuel=>
   subst hn;rw[sG,co,bp,←he];exact hS
 |cons x r ih=>
  intro pre fuel hn he hB hf;cases fuel with
  |zero=>exact absurd hf (Nat.not_lt_zero _)
  |succ fuel=>
   have ih:=ih (pre++[x]) fuel (by rw[cJ];exact hn) (by rw[cJ];exact he) hB (by simp at hf;omega);rw[cJ,show(pre++[x]).length=pre.length+1 by simp] at ih;subst hn;have h14:∀st:Bool,gx B LL C1 fuel f3 (pre++x::r).length ((pre++x::r).flatMap bD) ((pre++x::r).length:Int) (pre.length:Int) f0 b0 e0 f1 b1 e1 f2 b2 e2 f4 b4 e4 f5 b5 e5 (pre.map gg) (eu pre.length) st x.1 x.2.1 x.2.2.1 x.2.2.2.1 x.2.2.2.2 x.1 x.2.2.1 (db x.2.1 x.1)=
     some (.int .i64 (bx (bx (dM [bx st 10 0,dS x.2.2.2,bx (zV pre x) 9 0] !=0) (dM [bx st 10 0,dS x.2.2.2,bx (zV pre x) 9 0]) (lQ me b2 (pre++[x]) r) !=0) (bx (dM [bx st 10 0,dS x.2.2.2,bx (zV pre x) 9 0] !=0) (dM [bx st 10 0,dS x.2.2.2,bx (zV pre x) 9 0]) (lQ me b2 (pre++[x]) r)) S)):=fun st=>by
    rw[tU (hC:=c1),a119,bm,bo,a147 x.2.2.2,bm,bo,bZ pre x r (by omega),show(pre++[x]).length=pre.length+1 by simp];simp only[a119,a87,bm,bo];rcases Ce x pre with⟨g1,g2⟩|⟨j,g1,g2,g3⟩
    ·rw[show D.agg [D.str x.1,D.int IntKind.i64 x.2.2.1,D.bool (db x.2.1 x.1)]=gg x from rfl,kC g1,g2,mU (Eo g1),ih];exact mV _ _ _
    ·rw[show D.agg [D.str x.1,D.int IntKind.i64 x.2.2.1,D.bool (db x.2.1 x.1)]=gg x from rfl,iI g1,g3,cP (e9 _ _ g2),bA];have hne:(dM [bx st 10 0,dS x.2.2.2,bx true 9 0] !=0)=true:=by
      unfold dM;cases st with
      |true=>rfl
      |false=>
       show(dM [dS x.2.2.2,bx true 9 0] !=0)=true;unfold dM;cases h:dS x.2.2.2 !=0 with
       |true=>rw[bq,h]
       |false=>rfl
     rw[hne];show some (D.int .i64 (dM [bx st 10 0,dS x.2.2.2,bx true 9 0]))=some (D.int .i64 (bx (dM [bx st 10 0,dS x.2.2.2,bx true 9 0] !=0) (dM [bx st 10 0,dS x.2.2.2,bx true 9 0]) S));rw[hne];rfl
   have e153:=a153 x;rw[sG,cD,bq,cB,bv,k0,bw,k1,bw,k2,bo,k3,bo,k4,bw,e153,bm,bA,←he,a154,bm,bo,js,a154,bm,bo,js,a118,bm,bA,he,h14,h14];rw[show lQ me b2 pre (x::r)=bx (zW me b2 pre x !=0) (zW me b2 pre x) (lQ me b2 (pre++[x]) r) from rfl];unfold zW t6;cases zK me x.1<;>cases zK me x.2.1<;>rfl
def E8(me:List cY)(n:Nat)(l:List ci)(sg:List ByteArray):Int:=bx (lQ me n [] l !=0) (lQ me n [] l) (rk me n l [] sg)
theorem My(me:List cY)(n:Nat)(l:List ci)(sg:List ByteArray)(hm:me.length≤100000)(hn:n≤100000)(hl:l.length≤100000)(hs:sg.length≤100000):
  ce 88 [.agg [.slc f0 b0 e0,.slc f1 me.length (me.flatMap bJ),.slc f2 n e2,.slc f3 l.length (l.flatMap bD),.slc f4 sg.length (br sg),.slc f5 b5 e5]] (.int .i64 (E8 me n l sg)):=by
 obtain⟨B,hB,hF⟩:=j2 [fa153,E7 154 (.agg [.slc f0 b0 e0,.slc f1 me.length (me.flatMap bJ),.slc f2 n e2,.slc f3 l.length (l.flatMap bD),.slc f4 sg.length (br sg),.slc f5 b5 e5]) (fun s=> .int .i64 (ix (fun m=>db m.1 s) me)),fa118,fa147,fa119,fa87,E7 94 (.agg [.slc f0 b0 e0,.slc f1 me.length (me.flatMap bJ),.slc f2 n e2,.slc f3 l.length (l.flatMap bD),.slc f4 sg.length (br sg),.slc f5 b5 e5]) (fun s=> .int .i64 (gI l n s)),fa155]
  ⟨qL,gJ fun s=>E5 me s hm,lO,xU,fN,iG,gJ fun s=>K0 l s hn hl,xW,trivial⟩ (by kernel_rfl)
 obtain⟨h1,h2,h3,h4,h5,h6,h7,h8,_⟩:=hF;refine eA hB Tryz.func88 (ord:=J8) (N:=J7) (by kernel_rfl) ((Hl _ _ _ _ _ _ _ _ _ _ _ _ _ _ _ _ _ _ _ _ _).trans ?_);have a87:∀x y z:Int,B 87 [.slc true 3 [.int .i64 x,.int .i64 y,.int .i64 z]]=some (.int .i64 (dM [x,y,z])):=fun x y z=>h6 ⟨[x,y,z],by simp⟩;have hS:=K4 (f0:=f0) (f1:=f1) (f2:=f2) (f3:=f3) (f4:=f4) (f5:=f5) (b0:=b0) (b1:=me.length) (b2:=n) (b3:=l.length) (b5:=b5) (e0:=e0) (e1:=me.flatMap bJ) (e2:=e2) (e3:=l.flatMap bD) (e4:=br sg) (e5:=e5) (n:=sg.length) (N:=n) me l h2 h7 (fun b e=>h5 (b,e)) a87 (fun f l s hl=>h8 (f,⟨l,hl⟩,s)) sg [] LL rfl rfl hs (by unfold LL;omega);exact K5 (e3:=l.flatMap bD) me h1 h2 (fun h=>h3 (h,1,(n:Int))) h4 (fun b e=>h5 (b,e)) a87 hS l [] LL rfl rfl hl (by unfold LL;omega)
end
theorem mW{α:Type}{g:α→List D}{w:Nat}(h0:0<w)(hw:∀x,(g x).length=w)(hg:∀x y,g x=g y→x=y):∀{l m:List α},l.flatMap g=m.flatMap g→l=m
 |[],[],_=>rfl
 |[],y::m,h=>by
  have:=congrArg List.length h;simp[hw] at this;omega
 |x::l,[],h=>by
  have:=congrArg List.length h;simp[hw] at this;omega
 |x::l,y::m,h=>by
  rw[List.flatMap_cons,List.flatMap_cons] at h;obtain⟨h1,h2⟩:=List.append_inj h (by rw[hw,hw]);rw[hg x y h1,mW h0 hw hg (l:=l) (m:=m) h2]
theorem Cf{x y:da}(h:cq x=cq y):x=y:=by
 obtain⟨a,b⟩:=x;obtain⟨a',b'⟩:=y;simp[cq] at h;simp[h]
theorem Cg{x y:jz}(h:bN x=bN y):x=y:=by
 obtain⟨a,b⟩:=x;obtain⟨a',b'⟩:=y;simp[bN] at h;simp[h]
theorem wd{l m:List da}(h:l.flatMap cq=m.flatMap cq):l=m:=mW (w:=2) (by omega) (fun _=>rfl) (fun _ _=>Cf) h
theorem qO{l m:List jz}(h:l.flatMap bN=m.flatMap bN):l=m:=mW (w:=2) (by omega) (fun _=>rfl) (fun _ _=>Cg) h
abbrev Ch:=Bool×List jz
theorem we{x y:Ch}(h:[D.slc x.1 x.2.length (x.2.flatMap bN)]=[D.slc y.1 y.2.length (y.2.flatMap bN)]):x=y:=by
 obtain⟨a,b⟩:=x;obtain⟨a',b'⟩:=y;simp only[zc1,and_true,D.slc.injEq] at h;obtain⟨h1,_,h2⟩:=h;rw[h1,qO h2]
def fa109:Fam:=⟨109,Ch,fun x=>[.slc x.1 x.2.length (x.2.flatMap bN)],fun x=> .int .i64 (t8 x.2)⟩
theorem xX:fa109.Good:=⟨fun x=>Ca (Cd x.2),fun i j h=>by rw[we h]⟩
def fa83:Fam:=⟨83,Ch,fun x=>[.slc x.1 x.2.length (x.2.flatMap bN)],fun x=> .int .i64 (t8 x.2)⟩
theorem sR:fa83.Good:=⟨fun x=>Kw (Cd x.2),fun i j h=>by rw[we h]⟩
def CrdV.Fit(c:CrdV):Prop:=c.1.size≤1000∧c.2.2.length≤1000
abbrev Ep:={x:Ch×CrdV//x.2.Fit}
theorem wg{x y:Ep}(h:[D.slc x.1.1.1 x.1.1.2.length (x.1.1.2.flatMap bN),D.agg [D.str x.1.2.1,D.slc x.1.2.2.1 x.1.2.2.2.length (x.1.2.2.2.flatMap cq)]]=[D.slc y.1.1.1 y.1.1.2.length (y.1.1.2.flatMap bN),D.agg [D.str y.1.2.1,D.slc y.1.2.2.1 y.1.2.2.2.length (y.1.2.2.2.flatMap cq)]]):x=y:=by
 obtain⟨⟨⟨a,b⟩,c,d,e⟩,hx⟩:=x;obtain⟨⟨⟨a',b'⟩,c',d',e'⟩,hy⟩:=y;simp only[zc1,and_true,D.slc.injEq,D.agg.injEq,D.str.injEq] at h;obtain⟨⟨h1,_,h2⟩,h3,h4,_,h5⟩:=h;obtain rfl:=qO h2;obtain rfl:=wd h5;subst h1 h3 h4;rfl
def fa41:Fam:=⟨41,Ep,fun x=>[.slc x.1.1.1 x.1.1.2.length (x.1.1.2.flatMap bN),.agg [.str x.1.2.1,.slc x.1.2.2.1 x.1.2.2.2.length (x.1.2.2.2.flatMap cq)]],fun x=> .int .i64 (yS x.1.1.2 x.1.2)⟩
theorem zM:fa41.Good:=⟨fun x=>Mn (Cd x.1.1.2) x.1.2.1 x.1.2.2.2 (by have:=x.2.1;omega) x.2.2,fun i j h=>by rw[wg h]⟩
def fa152:Fam:=⟨152,Ep,fun x=>[.slc x.1.1.1 x.1.1.2.length (x.1.1.2.flatMap bN),.agg [.str x.1.2.1,.slc x.1.2.2.1 x.1.2.2.2.length (x.1.2.2.2.flatMap cq)]],fun x=> .int .i64 (yS x.1.1.2 x.1.2)⟩
theorem xY:fa152.Good:=⟨fun x=>Kx (Cd x.1.1.2) x.1.2.1 x.1.2.2.2 x.2.2,fun i j h=>by rw[wg h]⟩
section
variable {γ:Type}(c:D→Option γ)
theorem c0(pre:List CrdV)(x:CrdV)(r:List CrdV):bn ((pre++x::r).flatMap jq) (Int.toNat (pre.length:Int)*2+0) c=c (.str x.1):=dw pre x r jq 2 (fun _=>rfl) 0 (by omega) c
theorem Mz(pre:List CrdV)(x:CrdV)(r:List CrdV):bn ((pre++x::r).flatMap jq) (Int.toNat (pre.length:Int)*2+1) c=c (.slc x.2.1 x.2.2.length (x.2.2.flatMap cq)):=dw pre x r jq 2 (fun _=>rfl) 1 (by omega) c
theorem p1(pre:List KepV)(x:KepV)(r:List KepV):bn ((pre++x::r).flatMap bM) (Int.toNat (pre.length:Int)*3+1) c=c (.slc x.2.1.1 x.2.1.2.length (x.2.1.2.flatMap bN)):=dw pre x r bM 3 (fun _=>rfl) 1 (by omega) c
theorem p2(pre:List KepV)(x:KepV)(r:List KepV):bn ((pre++x::r).flatMap bM) (Int.toNat (pre.length:Int)*3+2) c=c (.slc x.2.2.1 x.2.2.2.length (x.2.2.2.flatMap jq)):=dw pre x r bM 3 (fun _=>rfl) 2 (by omega) c
end
def KepV.Fit(k:KepV):Prop:=k.1.size≤1000∧k.2.2.2.length≤100000∧∀c∈k.2.2.2,c.Fit
section
variable {f0 f1 f2 f3 f4 f5:Bool}{b0 b1 b2 b3 b4 b5:Nat}{e0 e1 e2 e3 e4 e5:List D}
theorem K6{B:FuncId→List D→Option D}{n:Nat}{g h0:Bool}{t13 t14:Int}{ks vs:List D}(s:ByteArray)(h:List jz)(fu:Nat)
  (a41:∀c:CrdV,c.Fit→B 41 [.slc h0 h.length (h.flatMap bN),.agg [.str c.1,.slc c.2.1 c.2.2.length (c.2.2.flatMap cq)]]=some (.int .i64 (yS h c))):
  ∀(r pre:List CrdV) (fuel:Nat),(pre++r).length=n→n≤100000→r.length<fuel→(∀c∈r,c.Fit)→
  kr B LL C1 fu fuel f5 b5 e5 t13 t14 g n ((pre++r).flatMap jq) s h0 h.length (h.flatMap bN) n (pre.length:Int) ks vs=bx (mT h r !=0) (some (.int .i64 (mT h r))) (qy B LL C1 fu f5 b5 e5 t13 (IntKind.wrap .i64 (t14+1)) ks vs):=by
 intro r
 induction r with
 |nil=>
  intro pre fuel hn hB hf hs;cases fuel with
  |zero=>exact absurd hf (Nat.not_lt_zero _)
  |succ fuel=>
   subst hn;rw[mJ,co,bp];rfl
 |cons x r ih=>
  intro pre fuel hn hB hf hs;cases fuel with
  |zero=>exact absurd hf (Nat.not_lt_zero _)
  |succ fuel=>
   have ih:=ih (pre++[x]) fuel (by rw[cJ];exact hn) hB (by simp at hf;omega) (fun c hc=>hs c (za3 _ hc));rw[cJ] at ih;subst hn;rw[mJ,cD,bq,cB,bv,c0,bw,Mz,bH,a41 x (hs x (za2 ..)),bm,bo,bZ pre x r (by omega),ih];show bx (yS h x !=0) _ _=bx (bx (yS h x !=0) (yS h x) (mT h r) !=0) (some (D.int .i64 (bx (yS h x !=0) (yS h x) (mT h r)))) _;cases hE:yS h x !=0 with
   |true=>rw[bq,bq,hE,bq]
   |false=>rfl
theorem MA{B:FuncId→List D→Option D}{n:Nat}(a111:∀s:Lr,B 111 [.str s.1]=some (.bool (cQ s.1)))(a119:∀(b:Bool) (e:Int),B 119 [.bool b,.int .i64 e]=some (.int .i64 (bx b e 0)))
  (a87:∀x y z w:Int,B 87 [.slc true 4 [.int .i64 x,.int .i64 y,.int .i64 z,.int .i64 w]]=some (.int .i64 (dM [x,y,z,w])))
  (a109:∀x:Ch,B 109 [.slc x.1 x.2.length (x.2.flatMap bN)]=some (.int .i64 (t8 x.2)))
  (a41:∀x:Ep,B 41 [.slc x.1.1.1 x.1.1.2.length (x.1.1.2.flatMap bN),.agg [.str x.1.2.1,.slc x.1.2.2.1 x.1.2.2.2.length (x.1.2.2.2.flatMap cq)]]=some (.int .i64 (yS x.1.1.2 x.1.2))):
  ∀(r pre:List KepV) (fuel:Nat),(pre++r).length=n→n≤100000→r.length<fuel→(∀k∈r,k.Fit)→
  qy B LL C1 fuel f5 n ((pre++r).flatMap bM) n (pre.length:Int) (br (pre.map (·.1))) (eu pre.length)=some (.int .i64 (jB pre r)):=by
 intro r
 induction r with
 |nil=>
  intro pre fuel hn hB hf hs;cases fuel with
  |zero=>exact absurd hf (Nat.not_lt_zero _)
  |succ fuel=>
   subst hn;rw[sH,co,bp];rfl
 |cons k r ih=>
  intro pre fuel hn hB hf hs;cases fuel with
  |zero=>exact absurd hf (Nat.not_lt_zero _)
  |succ fuel=>
   have ih:=ih (pre++[k]) fuel (by rw[cJ];exact hn) hB (by simp at hf;omega) (fun c hc=>hs c (za3 _ hc));rw[cJ,List.map_append,show List.map (·.1) [k]=[k.1] from rfl,show(pre++[k]).length=pre.length+1 by simp] at ih;subst hn;obtain⟨hk1,hk2,hk3⟩:=hs k (za2 ..);have a:=a111 ⟨k.1,hk1⟩;dsimp only at a;have e109:=a109 (k.2.1.1,k.2.1.2);dsimp only at e109;have hca:=K6 (B:=B) (n:=k.2.2.2.length) (g:=k.2.2.1) (h0:=k.2.1.1) (f5:=f5) (b5:=(pre++k::r).length) (e5:=(pre++k::r).flatMap bM) (t13:=((pre++k::r).length:Int)) (t14:=(pre.length:Int)) (ks:=br (pre.map (·.1)++[k.1])) (vs:=eu (pre.length+1)) k.1 k.2.1.2 fuel
    (fun c hc=>a41 ⟨((k.2.1.1,k.2.1.2),c),hc⟩) k.2.2.2 [] LL rfl hk2 (by unfold LL;omega) hk3
   rw[bZ pre k r (by omega),show(pre++[k]).length=pre.length+1 by simp,ih] at hca;rw[sH,cD,bq,cB,bv,p0,bw,p1,bH,p2,bH,a,bm,bA];simp only[a119,a87,e109,bm,bo];rw[show jB pre (k::r)=bx (CB pre k !=0) (CB pre k) (bx (mT k.2.1.2 k.2.2.2 !=0) (mT k.2.1.2 k.2.2.2) (jB (pre++[k]) r)) from rfl];unfold CB;rcases ka k.1 (pre.map (·.1)) with⟨g1,g2⟩|⟨j,g1,g2,g3⟩
   ·rw[kC g1,g2,vV (hC:=c1),mU (o9 g1)];refine(congrArg (fun z=>bx (dM [bx (!cQ k.1) 8 0,bx false 9 0,t8 k.2.1.2,bx (decide ((k.2.2.2.length:Int)>200)) 5 0] !=0) _ z) hca).trans ?_;rw[zL];exact zL _ _
   ·rw[iI g1,g3,cP (e9 _ _ (by rw[zb8] at g2;exact g2)),bA];cases cQ k.1<;>rfl
theorem MB(l:List KepV)(hl:l.length≤100000)(hs:∀k∈l,k.Fit):ce 89 [.agg [.slc f0 b0 e0,.slc f1 b1 e1,.slc f2 b2 e2,.slc f3 b3 e3,.slc f4 b4 e4,.slc f5 l.length (l.flatMap bM)]] (.int .i64 (jB [] l)):=by
 obtain⟨B,hB,hF⟩:=j2 [fa111,fa119,fa87,fa109,fa41] ⟨qN,fN,iG,xX,zM,trivial⟩ (by kernel_rfl);obtain⟨h1,h2,h3,h4,h5,_⟩:=hF;refine eA hB Tryz.func89 (ord:=O0) (N:=J9) (by kernel_rfl) ((Hm _ _ _ _ _ _ _ _ _ _ _ _ _ _ _ _ _ _ _ _ _).trans ?_);exact MA h1 (fun b e=>h2 (b,e)) (fun x y z w=>h3 ⟨[x,y,z,w],by simp⟩) h4 h5 l [] LL rfl hl (by unfold LL;omega) hs
end
def UV.Fit'(u:UV):Prop:=u.Fit∧(∀x∈u.cl,x.size≤1000)∧(∀x∈u.me,x.1.size≤1000)∧∀k∈u.pa,k.Fit
def wh(u:UV):Bool:=decide ((u.cl.length:Int)>256)||(decide ((u.me.length:Int)>200)||(decide ((u.mr.length:Int)>1000)||(decide ((u.sg.length:Int)>200)||decide ((u.pa.length:Int)>256))))
def uE(u:UV):Int:=bx (wh u) 5 (bx (E6 u.cl u.me u.ho !=0) (E6 u.cl u.me u.ho) (dM [E8 u.me u.ho.length u.mr u.sg,jB [] u.pa]))
theorem K7(u:UV)(hu:u.Fit'):ce 17 [j6 u] (.int .i64 (uE u)):=by
 obtain⟨⟨l0,l1,l2,l3,l4,l5⟩,h6,h7,h8⟩:=hu;obtain⟨B,hB,hF⟩:=j2 [one 86 [j6 u] (.int .i64 (E6 u.cl u.me u.ho)),one 88 [j6 u] (.int .i64 (E8 u.me u.ho.length u.mr u.sg)),one 89 [j6 u] (.int .i64 (jB [] u.pa)),fa87]
  ⟨bL (Mx u.cl u.me u.ho l0 l1 h6 h7),bL (My u.me u.ho.length u.mr u.sg l1 l2 l3 l4),bL (MB u.pa l5 h8),iG,trivial⟩ (by kernel_rfl)
 obtain⟨a,b,c,d,_⟩:=hF;have a:B 86 [j6 u]=some (.int .i64 (E6 u.cl u.me u.ho)):=a ();have b:B 88 [j6 u]=some (.int .i64 (E8 u.me u.ho.length u.mr u.sg)):=b ();have c:B 89 [j6 u]=some (.int .i64 (jB [] u.pa)):=c ();have a87:∀x y:Int,B 87 [.slc true 2 [.int .i64 x,.int .i64 y]]=some (.int .i64 (dM [x,y])):=fun x y=>d ⟨[x,y],by simp⟩;have h7':∀g:Bool,n8 B LL C1 u.cf u.cl.length (br u.cl) u.mf u.me.length (u.me.flatMap bJ) u.hf u.ho.length (u.ho.flatMap bN) u.kf u.mr.length (u.mr.flatMap bD) u.sf u.sg.length (br u.sg) u.pf u.pa.length (u.pa.flatMap bM) g=some (.int .i64 (bx g 5 (bx (E6 u.cl u.me u.ho !=0) (E6 u.cl u.me u.ho) (dM [E8 u.me u.ho.length u.mr u.sg,jB [] u.pa])))):=fun g=>by
  rw[B3 (hC:=c1)];unfold j6 at a b c;rw[a,bm,bo,b,bm,bo,c,bm,bo,a87,bm,bo,zL];cases g<;>rfl
 refine eA hB Tryz.func17 (ord:=O0) (N:=Mk) (by kernel_rfl) ((Hh _ _ _ _ _ _ _ _ _ _ _ _ _ _ _ _ _ _ _ _ _).trans ?_);rw[h7',h7'];unfold uE wh;cases decide ((u.cl.length:Int)>256)<;>cases decide ((u.me.length:Int)>200)<;>cases decide ((u.mr.length:Int)>1000)<;>cases decide ((u.sg.length:Int)>200)<;>rfl
theorem wk{α:Type}(p:α→Bool)(x:α)(hx:p x=true)(r:List α):∀(pre:List α) (i:Nat),decide (jA p (pre++x::r) i<((i+pre.length:Nat):Int))=pre.any p
 |[],i=>by
  rw[zb3,show jA p (x::r) i=bx (p x) (i:Int) (jA p r (i+1)) from rfl,hx,bq];simp
 |y::pre,i=>by
  rw[List.cons_append,show jA p (y::(pre++x::r)) i=bx (p y) (i:Int) (jA p (pre++x::r) (i+1)) from rfl];have ih:=wk p x hx r pre (i+1);rw[show i+1+pre.length=i+(y::pre).length by simp;omega] at ih;cases hy:p y with
  |true=>
   rw[bq];simp[hy];omega
  |false=>
   rw[bp,ih];simp[hy]
theorem Ci{α:Type}(p:α→Bool)(pre:List α)(x:α)(r:List α)(hx:p x=true):decide (ix p (pre++x::r)<(pre.length:Int))=pre.any p:=by
 have:=wk p x hx r pre 0;rw[Nat.zero_add] at this;exact this
theorem qP(s:ByteArray):db s s=true:=sEq_iff.2 rfl
theorem wl(l:List cY)(s:ByteArray):(l.any fun m=>db m.1 s)=d4 (l.map (·.1)) s:=by
 unfold d4;rw[List.any_map];rfl
theorem t7(l:List KepV)(s:ByteArray):(l.any fun m=>db m.1 s)=d4 (l.map (·.1)) s:=by
 unfold d4;rw[List.any_map];rfl
theorem Er{α:Type}{a a':List α}{x x':α}{r r':List α}(h:a++x::r=a'++x'::r')(hl:a.length=a'.length):a=a'∧x=x'∧r=r':=by
 obtain⟨h1,h2⟩:=List.append_inj h hl;simp at h2;exact⟨h1,h2.1,h2.2⟩
abbrev At(α:Type)(l:List α):={y:List α×α×List α//l=y.1++y.2.1::y.2.2}
def Es{α:Type}(k:FuncId)(u:D)(l:List α)(g:List α→α→Int):Fam:=⟨k,At α l,fun y=>[u,.int .i64 (y.1.1.length:Int)],fun y=> .int .i64 (g y.1.1 y.1.2.1)⟩
theorem nE{α:Type}{k:FuncId}{u:D}{l:List α}{g:List α→α→Int}(h:∀pre x r,l=pre++x::r→ce k [u,.int .i64 (pre.length:Int)] (.int .i64 (g pre x))):(Es k u l g).Good:=by
 refine⟨fun y=>h _ _ _ y.2,fun i j e=> ?_⟩;have e:[u,D.int .i64 (i.1.1.length:Int)]=[u,D.int .i64 (j.1.1.length:Int)]:=e;simp only[zc1,and_true,true_and,D.int.injEq] at e;obtain⟨h1,h2,h3⟩:=Er (i.2.symm.trans j.2) (by omega);show D.int .i64 (g i.1.1 i.1.2.1)=D.int .i64 (g j.1.1 j.1.2.1);rw[h1,h2]
section
variable {f0 f1 f2 f3 f4 f5:Bool}{b0 b1 b2 b3 b4 b5:Nat}{e0 e1 e2 e3 e4 e5:List D}
theorem MC(cl:List ByteArray)(pre:List cY)(x:cY)(r:List cY)(hc:cl.length≤100000)(hm:(pre++x::r).length≤100000):
  ce 82 [.agg [.slc f0 cl.length (br cl),.slc f1 (pre++x::r).length ((pre++x::r).flatMap bJ),.slc f2 b2 e2,.slc f3 b3 e3,.slc f4 b4 e4,.slc f5 b5 e5],.int .i64 (pre.length:Int)] (.int .i64 (zU cl pre x)):=by
 obtain⟨B,hB,hF⟩:=j2 [fa80,E7 23 (.agg [.slc f0 cl.length (br cl),.slc f1 (pre++x::r).length ((pre++x::r).flatMap bJ),.slc f2 b2 e2,.slc f3 b3 e3,.slc f4 b4 e4,.slc f5 b5 e5]) (fun s=> .int .i64 (ix (fun m=>db m.1 s) (pre++x::r))),fa81] ⟨nC,gJ fun s=>Em _ s hm,sQ,trivial⟩ (by kernel_rfl);obtain⟨h1,h2,h3,_⟩:=hF;have a80:∀s,B 80 [.str s]=some (.bool (cQ s)):=h1;have a23:∀s,B 23 [.agg [.slc f0 cl.length (br cl),.slc f1 (pre++x::r).length ((pre++x::r).flatMap bJ),.slc f2 b2 e2,.slc f3 b3 e3,.slc f4 b4 e4,.slc f5 b5 e5],.str s]=some (.int .i64 (ix (fun m=>db m.1 s) (pre++x::r))):=h2;have a81:B 81 [.slc f0 cl.length (br cl),.str x.2.1]=some (.bool (d4 cl x.2.1)):=h3 (f0,⟨cl,hc⟩,x.2.1);refine eA hB Tryz.func82 (ord:=O0) (N:=N0) (by kernel_rfl) ((Ho _ _ _ _ _ _ _ _ _ _ _ _ _ _ _ _ _ _ _ _ _ _).trans ?_);rw[cB,bv,HT,bw,m1,bw,m2,bo,a80,bm,bA,a23,bm,bo,Ci _ pre x r (qP x.1),wl,a81,bm,bA];unfold zU oy;cases cQ x.1 with
 |false=>rfl
 |true=>
  cases d4 (pre.map (·.1)) x.1 with
  |true=>rfl
  |false=>
   cases d4 cl x.2.1 with
   |false=>rfl
   |true=>cases decide (x.2.2< -99)<;>cases decide (x.2.2>99)<;>rfl
theorem MD(me:List cY)(n:Nat)(pre:List ci)(x:ci)(r:List ci)(hm:me.length≤100000)(hl:(pre++x::r).length≤100000):
  ce 84 [.agg [.slc f0 b0 e0,.slc f1 me.length (me.flatMap bJ),.slc f2 n e2,.slc f3 (pre++x::r).length ((pre++x::r).flatMap bD),.slc f4 b4 e4,.slc f5 b5 e5],.int .i64 (pre.length:Int)] (.int .i64 (zW me n pre x)):=by
 obtain⟨B,hB,hF⟩:=j2 [E7 23 (.agg [.slc f0 b0 e0,.slc f1 me.length (me.flatMap bJ),.slc f2 n e2,.slc f3 (pre++x::r).length ((pre++x::r).flatMap bD),.slc f4 b4 e4,.slc f5 b5 e5]) (fun s=> .int .i64 (ix (fun m=>db m.1 s) me)),fa145,
   one 95 [.agg [.slc f0 b0 e0,.slc f1 me.length (me.flatMap bJ),.slc f2 n e2,.slc f3 (pre++x::r).length ((pre++x::r).flatMap bD),.slc f4 b4 e4,.slc f5 b5 e5],.str x.1,.int .i64 x.2.2.1,.bool (db x.2.1 x.1)] (.int .i64 (ix (iJ x.1 x.2.2.1 (db x.2.1 x.1)) (pre++x::r)))]
  ⟨gJ fun s=>Em _ s hm,xV,bL (KA _ x.1 x.2.2.1 (db x.2.1 x.1) hl),trivial⟩ (by kernel_rfl)
 obtain⟨h1,h2,h3,_⟩:=hF;have a23:∀s,B 23 [.agg [.slc f0 b0 e0,.slc f1 me.length (me.flatMap bJ),.slc f2 n e2,.slc f3 (pre++x::r).length ((pre++x::r).flatMap bD),.slc f4 b4 e4,.slc f5 b5 e5],.str s]=some (.int .i64 (ix (fun m=>db m.1 s) me)):=h1;have a145:B 145 [.agg [.int .i64 x.2.2.2.1,.str x.2.2.2.2]]=some (.int .i64 (dS x.2.2.2)):=h2 x.2.2.2;have a95:B 95 [.agg [.slc f0 b0 e0,.slc f1 me.length (me.flatMap bJ),.slc f2 n e2,.slc f3 (pre++x::r).length ((pre++x::r).flatMap bD),.slc f4 b4 e4,.slc f5 b5 e5],.str x.1,.int .i64 x.2.2.1,.bool (ByteArray.toList x.2.1==ByteArray.toList x.1)]=some (.int .i64 (ix (iJ x.1 x.2.2.1 (db x.2.1 x.1)) (pre++x::r))):=h3 ();refine eA hB Tryz.func84 (ord:=O0) (N:=Ml) (by kernel_rfl) ((Hp _ _ _ _ _ _ _ _ _ _ _ _ _ _ _ _ _ _ _ _ _ _).trans ?_);have hx:iJ x.1 x.2.2.1 (db x.2.1 x.1) x=true:=by
  unfold iJ;rw[qP,show(x.2.2.1==x.2.2.1)=true by simp,show(db x.2.1 x.1==db x.2.1 x.1)=true by simp];rfl
 rw[cB,bv,k0,bw,k1,bw,k2,bo,k3,bo,k4,bw,a23,bm,bo,js,a23,bm,bo,js,zF (hC:=c1),a145,bm,bo,a95,bm,bo,Ci _ pre x r hx];show bx (!zK me x.1) _ _=_;unfold zW t6 oy;have ht:zV pre x=pre.any (iJ x.1 x.2.2.1 (db x.2.1 x.1)):=rfl;rw[ht];cases zK me x.1 with
 |false=>rfl
 |true=>
  cases zK me x.2.1 with
  |false=>rfl
  |true=>
   cases decide (x.2.2.1<1) with
   |true=>rfl
   |false=>
    cases decide (x.2.2.1>(n:Int)) with
    |true=>rfl
    |false=>
     show bx (dS x.2.2.2==0) _ _=some (D.int .i64 (dM [dS x.2.2.2,_]));unfold dM;cases h:dS x.2.2.2==0 with
     |false=>
      have:(dS x.2.2.2 !=0)=true:=by unfold bne;rw[h];rfl
      rw[this];rfl
     |true=>
      have h0:dS x.2.2.2=0:=by simpa using h
      rw[h0];cases pre.any (iJ x.1 x.2.2.1 (db x.2.1 x.1))<;>rfl
def E9(pre:List KepV)(k:KepV):Int:=bx (CB pre k !=0) (CB pre k) (mT k.2.1.2 k.2.2.2)
theorem ME{B:FuncId→List D→Option D}{n:Nat}{g h0:Bool}(s:ByteArray)(h:List jz)
  (a152:∀c:CrdV,c.Fit→B 152 [.slc h0 h.length (h.flatMap bN),.agg [.str c.1,.slc c.2.1 c.2.2.length (c.2.2.flatMap cq)]]=some (.int .i64 (yS h c))):
  ∀(r pre:List CrdV) (fuel:Nat) (e:Int),(pre++r).length=n→n≤100000→r.length<fuel→(∀c∈r,c.Fit)→
  mL B LL C1 fuel s h0 h.length (h.flatMap bN) g n ((pre++r).flatMap jq) e (pre.length:Int)=some (.int .i64 (bx (e !=0) e (mT h r))):=by
 intro r
 induction r with
 |nil=>
  intro pre fuel e hn hB hf hs;cases fuel with
  |zero=>exact absurd hf (Nat.not_lt_zero _)
  |succ fuel=>
   subst hn;rw[og,co,bp];cases h:e !=0 with
   |true=>rfl
   |false=>
    have:e=0:=by simpa using h
    rw[this];rfl
 |cons x r ih=>
  intro pre fuel e hn hB hf hs;cases fuel with
  |zero=>exact absurd hf (Nat.not_lt_zero _)
  |succ fuel=>
   have ih:=ih (pre++[x]) fuel (yS h x) (by rw[cJ];exact hn) hB (by simp at hf;omega) (fun c hc=>hs c (za3 _ hc));rw[cJ] at ih;subst hn;rw[og,cD,bq,cB,bv,c0,bw,Mz,bH,a152 x (hs x (za2 ..)),bm,bo,bZ pre x r (by omega),ih];cases h:e==0 with
   |true=>
    have:e=0:=by simpa using h
    rw[this];rfl
   |false=>
    have:(e !=0)=true:=by unfold bne;rw[h];rfl
    rw[this];rfl
theorem MF(pre:List KepV)(k:KepV)(r:List KepV)(hl:(pre++k::r).length≤100000)(hk:k.Fit):
  ce 85 [.agg [.slc f0 b0 e0,.slc f1 b1 e1,.slc f2 b2 e2,.slc f3 b3 e3,.slc f4 b4 e4,.slc f5 (pre++k::r).length ((pre++k::r).flatMap bM)],.int .i64 (pre.length:Int)] (.int .i64 (E9 pre k)):=by
 obtain⟨B,hB,hF⟩:=j2 [fa80,E7 151 (.agg [.slc f0 b0 e0,.slc f1 b1 e1,.slc f2 b2 e2,.slc f3 b3 e3,.slc f4 b4 e4,.slc f5 (pre++k::r).length ((pre++k::r).flatMap bM)]) (fun s=> .int .i64 (ix (fun m=>db m.1 s) (pre++k::r))),fa83,fa152] ⟨nC,gJ fun s=>Kz _ s hl,sR,xY,trivial⟩ (by kernel_rfl);obtain⟨h1,h2,h3,h4,_⟩:=hF;have a80:∀s,B 80 [.str s]=some (.bool (cQ s)):=h1;have a151:∀s,B 151 [.agg [.slc f0 b0 e0,.slc f1 b1 e1,.slc f2 b2 e2,.slc f3 b3 e3,.slc f4 b4 e4,.slc f5 (pre++k::r).length ((pre++k::r).flatMap bM)],.str s]=some (.int .i64 (ix (fun m=>db m.1 s) (pre++k::r))):=h2;have a83:B 83 [.slc k.2.1.1 k.2.1.2.length (k.2.1.2.flatMap bN)]=some (.int .i64 (t8 k.2.1.2)):=h3 k.2.1;have h127:∀e:Int,kv B LL C1 e k.1 k.2.1.1 k.2.1.2.length (k.2.1.2.flatMap bN) k.2.2.1 k.2.2.2.length (k.2.2.2.flatMap jq)=some (.int .i64 (bx (e !=0) e (mT k.2.1.2 k.2.2.2))):=fun e=>by
  rw[xL (hC:=c1)];exact ME k.1 k.2.1.2 (fun c hc=>h4 ⟨(k.2.1,c),hc⟩) k.2.2.2 [] LL e rfl hk.2.1 (by have:=hk.2.1;unfold LL;omega) hk.2.2
 refine eA hB Tryz.func85 (ord:=O0) (N:=Lq) (by kernel_rfl) ((Hq _ _ _ _ _ _ _ _ _ _ _ _ _ _ _ _ _ _ _ _ _ _).trans ?_);rw[cB,bv,p0,bw,p1,bH,p2,bH,a80,bm,bA,a151,bm,bo,Ci _ pre k r (qP k.1),t7,a83,bm,bo,h127,h127];unfold E9 CB;cases cQ k.1 with
 |false=>rfl
 |true=>
  cases d4 (pre.map (·.1)) k.1 with
  |true=>rfl
  |false=>
   show bx (t8 k.2.1.2==0) _ _=some (D.int .i64 (bx (dM [t8 k.2.1.2,_] !=0) (dM [t8 k.2.1.2,_]) _));unfold dM;cases h:t8 k.2.1.2==0 with
   |false=>
    have:(t8 k.2.1.2 !=0)=true:=by unfold bne;rw[h];rfl
    simp only[this,bq,bp]
   |true=>
    have h0:t8 k.2.1.2=0:=by simpa using h
    rw[h0];cases decide ((k.2.2.2.length:Int)>200)<;>rfl
end
theorem gc(a b c:Int):bx (bx (a !=0) a b !=0) (bx (a !=0) a b) c=bx (a !=0) a (bx (b !=0) b c):=by
 cases h:a !=0 with
 |true=>rw[bq,h,bq,bq]
 |false=>rfl
theorem qQ(a:Int):bx (a !=0) a 0=a:=by
 cases h:a !=0 with
 |true=>rfl
 |false=>
  have:a=0:=by simpa using h
  rw[this];rfl
theorem qR(a:Int):(a==0)= !(a !=0):=by cases h:a==0<;>simp[bne,h]
section
variable (u:UV){B:FuncId→List D→Option D}
theorem HA(hl:u.pa.length≤100000)(a85:∀pre k r,u.pa=pre++k::r→B 85 [.agg [.slc u.cf u.cl.length (br u.cl),.slc u.mf u.me.length (u.me.flatMap bJ),.slc u.hf u.ho.length (u.ho.flatMap bN),.slc u.kf u.mr.length (u.mr.flatMap bD),.slc u.sf u.sg.length (br u.sg),.slc u.pf u.pa.length (u.pa.flatMap bM)],.int .i64 (pre.length:Int)]=some (.int .i64 (E9 pre k))):
  ∀(r pre:List KepV) (fuel:Nat) (e:Int),u.pa=pre++r→r.length<fuel→iE B LL C1 fuel u.cf u.cl.length (br u.cl) u.mf u.me.length (u.me.flatMap bJ) u.hf u.ho.length (u.ho.flatMap bN) u.kf u.mr.length (u.mr.flatMap bD) u.sf u.sg.length (br u.sg) u.pf u.pa.length (u.pa.flatMap bM) e (pre.length:Int)=some (.int .i64 (bx (e !=0) e (jB pre r))):=by
 intro r
 induction r with
 |nil=>
  intro pre fuel e hn hf;cases fuel with
  |zero=>exact absurd hf (Nat.not_lt_zero _)
  |succ fuel=>
   rw[n9,show decide ((pre.length:Int)<(u.pa.length:Int))=false by rw[hn];exact co pre,bp,show jB pre []=0 from rfl,qQ]
 |cons k r ih=>
  intro pre fuel e hn hf;cases fuel with
  |zero=>exact absurd hf (Nat.not_lt_zero _)
  |succ fuel=>
   have ih:=ih (pre++[k]) fuel (E9 pre k) (by rw[cJ];exact hn) (by simp at hf;omega);rw[n9,show decide ((pre.length:Int)<(u.pa.length:Int))=true by rw[hn];exact cD pre k r,bq,a85 pre k r hn,bm,bo,bZ pre k r (by rw[←hn];omega),ih,qR];rw[show jB pre (k::r)=bx (CB pre k !=0) (CB pre k) (bx (mT k.2.1.2 k.2.2.2 !=0) (mT k.2.1.2 k.2.2.2) (jB (pre++[k]) r)) from rfl];unfold E9;rw[gc];cases e !=0<;>rfl
theorem HB(hl:u.sg.length≤100000)(hp:u.pa.length≤100000)(a85:∀pre k r,u.pa=pre++k::r→B 85 [.agg [.slc u.cf u.cl.length (br u.cl),.slc u.mf u.me.length (u.me.flatMap bJ),.slc u.hf u.ho.length (u.ho.flatMap bN),.slc u.kf u.mr.length (u.mr.flatMap bD),.slc u.sf u.sg.length (br u.sg),.slc u.pf u.pa.length (u.pa.flatMap bM)],.int .i64 (pre.length:Int)]=some (.int .i64 (E9 pre k)))
  (a23:∀s,B 23 [.agg [.slc u.cf u.cl.length (br u.cl),.slc u.mf u.me.length (u.me.flatMap bJ),.slc u.hf u.ho.length (u.ho.flatMap bN),.slc u.kf u.mr.length (u.mr.flatMap bD),.slc u.sf u.sg.length (br u.sg),.slc u.pf u.pa.length (u.pa.flatMap bM)],.str s]=some (.int .i64 (ix (fun m:cY=>db m.1 s) u.me))) (a29:∀s,B 29 [.agg [.slc u.cf u.cl.length (br u.cl),.slc u.mf u.me.length (u.me.flatMap bJ),.slc u.hf u.ho.length (u.ho.flatMap bN),.slc u.kf u.mr.length (u.mr.flatMap bD),.slc u.sf u.sg.length (br u.sg),.slc u.pf u.pa.length (u.pa.flatMap bM)],.str s]=some (.int .i64 (gI u.mr u.ho.length s))) (a81:∀x:zJ,B 81 [.slc x.1 x.2.1.1.length (br x.2.1.1),.str x.2.2]=some (.bool (d4 x.2.1.1 x.2.2))):
  ∀(r pre:List ByteArray) (fuel:Nat) (e:Int),u.sg=pre++r→r.length<fuel→fw B LL C1 fuel u.cf u.cl.length (br u.cl) u.mf u.me.length (u.me.flatMap bJ) u.hf u.ho.length (u.ho.flatMap bN) u.kf u.mr.length (u.mr.flatMap bD) u.sf u.sg.length (br u.sg) u.pf u.pa.length (u.pa.flatMap bM) e (pre.length:Int)=some (.int .i64 (bx (e !=0) e (bx (rk u.me u.ho.length u.mr pre r !=0) (rk u.me u.ho.length u.mr pre r) (jB [] u.pa)))):=by
 have hE:∀e,iE B LL C1 LL u.cf u.cl.length (br u.cl) u.mf u.me.length (u.me.flatMap bJ) u.hf u.ho.length (u.ho.flatMap bN) u.kf u.mr.length (u.mr.flatMap bD) u.sf u.sg.length (br u.sg) u.pf u.pa.length (u.pa.flatMap bM) e 0=some (.int .i64 (bx (e !=0) e (jB [] u.pa))):=fun e=>HA u hp a85 u.pa [] LL e rfl (by unfold LL;omega);intro r
 induction r with
 |nil=>
  intro pre fuel e hn hf;cases fuel with
  |zero=>exact absurd hf (Nat.not_lt_zero _)
  |succ fuel=>
   rw[oa,show decide ((pre.length:Int)<(u.sg.length:Int))=false by rw[hn];exact co pre,bp,hE];rfl
 |cons x r ih=>
  intro pre fuel e hn hf;cases fuel with
  |zero=>exact absurd hf (Nat.not_lt_zero _)
  |succ fuel=>
   have ih:=fun e=>ih (pre++[x]) fuel e (by rw[cJ];exact hn) (by simp at hf;omega);have cel:∀{γ:Type} (c:D→Option γ),bn (br u.sg) (Int.toNat (pre.length:Int)*1) c=c (.str x):=fun c=>by rw[hn];exact t0 c pre x r
   have htk:D.slc (u.sf&&decide ((pre.length:Int)=(u.sg.length:Int))) (Int.toNat ((pre.length:Int)-(0:Int))) (List.take (Int.toNat ((pre.length:Int)-(0:Int))*1) (br u.sg))= .slc false pre.length (br pre):=by rw[hn];exact nD pre x r u.sf
   have h81:B 81 [.slc false pre.length (br pre),.str x]=some (.bool (d4 pre x)):=a81 (false,⟨pre,by rw[hn] at hl;simp at hl;omega⟩,x);have hi:decide ((0:Int)≤(pre.length:Int)∧(pre.length:Int)<(u.sg.length:Int))=true:=by rw[hn];exact cB pre x r
   rw[oa,show decide ((pre.length:Int)<(u.sg.length:Int))=true by rw[hn];exact cD pre x r,bq,hE,vW (hC:=c1),hi,bv,cel,bw,a23,bm,bo,js,show decide ((0:Int)≤(0:Int)∧(0:Int)≤(pre.length:Int)∧(pre.length:Int)≤(u.sg.length:Int))=true by rw[hn];exact tZ pre x r,bv,bv,cel,bw,htk,h81,bm,bA,bv,cel,bw,a29,bm,bo,bZ pre x r (by rw[←hn];omega),ih,ih,ih,qR];rw[show rk u.me u.ho.length u.mr pre (x::r)=bx (HW u.me u.ho.length u.mr pre x !=0) (HW u.me u.ho.length u.mr pre x) (rk u.me u.ho.length u.mr (pre++[x]) r) from rfl,gc];unfold HW;cases h:e !=0 with
   |true=>rfl
   |false=>
    cases zK u.me x with
    |false=>rfl
    |true=>
     cases d4 pre x with
     |true=>rfl
     |false=>
      show some (D.int .i64 (bx (gI u.mr u.ho.length x !=0) _ _))=some (D.int .i64 (bx (bx (gI u.mr u.ho.length x !=0) (gI u.mr u.ho.length x) 0 !=0) (bx (gI u.mr u.ho.length x !=0) (gI u.mr u.ho.length x) 0) _));rw[qQ]
def sE:Int:=bx (rk u.me u.ho.length u.mr [] u.sg !=0) (rk u.me u.ho.length u.mr [] u.sg) (jB [] u.pa)
def mE:Int:=bx (lQ u.me u.ho.length [] u.mr !=0) (lQ u.me u.ho.length [] u.mr) (sE u)
theorem HC(hl:u.mr.length≤100000)(a84:∀pre x r,u.mr=pre++x::r→B 84 [.agg [.slc u.cf u.cl.length (br u.cl),.slc u.mf u.me.length (u.me.flatMap bJ),.slc u.hf u.ho.length (u.ho.flatMap bN),.slc u.kf u.mr.length (u.mr.flatMap bD),.slc u.sf u.sg.length (br u.sg),.slc u.pf u.pa.length (u.pa.flatMap bM)],.int .i64 (pre.length:Int)]=some (.int .i64 (zW u.me u.ho.length pre x)))
  (hE:∀e,fw B LL C1 LL u.cf u.cl.length (br u.cl) u.mf u.me.length (u.me.flatMap bJ) u.hf u.ho.length (u.ho.flatMap bN) u.kf u.mr.length (u.mr.flatMap bD) u.sf u.sg.length (br u.sg) u.pf u.pa.length (u.pa.flatMap bM) e 0=some (.int .i64 (bx (e !=0) e (sE u)))):
  ∀(r pre:List ci) (fuel:Nat) (e:Int),u.mr=pre++r→r.length<fuel→mK B LL C1 fuel u.cf u.cl.length (br u.cl) u.mf u.me.length (u.me.flatMap bJ) u.hf u.ho.length (u.ho.flatMap bN) u.kf u.mr.length (u.mr.flatMap bD) u.sf u.sg.length (br u.sg) u.pf u.pa.length (u.pa.flatMap bM) e (pre.length:Int)=some (.int .i64 (bx (e !=0) e (bx (lQ u.me u.ho.length pre r !=0) (lQ u.me u.ho.length pre r) (sE u)))):=by
 intro r
 induction r with
 |nil=>
  intro pre fuel e hn hf;cases fuel with
  |zero=>exact absurd hf (Nat.not_lt_zero _)
  |succ fuel=>
   rw[oe,show decide ((pre.length:Int)<(u.mr.length:Int))=false by rw[hn];exact co pre,bp,hE];rfl
 |cons x r ih=>
  intro pre fuel e hn hf;cases fuel with
  |zero=>exact absurd hf (Nat.not_lt_zero _)
  |succ fuel=>
   have ih:=fun e=>ih (pre++[x]) fuel e (by rw[cJ];exact hn) (by simp at hf;omega);rw[oe,show decide ((pre.length:Int)<(u.mr.length:Int))=true by rw[hn];exact cD pre x r,bq,a84 pre x r hn,bm,bo,bZ pre x r (by rw[←hn];omega),ih,hE,qR];rw[show lQ u.me u.ho.length pre (x::r)=bx (zW u.me u.ho.length pre x !=0) (zW u.me u.ho.length pre x) (lQ u.me u.ho.length (pre++[x]) r) from rfl,gc];cases h:e !=0 with
   |true=>rfl
   |false=>rfl
def Cj:Int:=bx ((u.ho.length:Int)==0) 0 (t8 u.ho)
theorem K8(hl:u.me.length≤100000)(a82:∀pre x r,u.me=pre++x::r→B 82 [.agg [.slc u.cf u.cl.length (br u.cl),.slc u.mf u.me.length (u.me.flatMap bJ),.slc u.hf u.ho.length (u.ho.flatMap bN),.slc u.kf u.mr.length (u.mr.flatMap bD),.slc u.sf u.sg.length (br u.sg),.slc u.pf u.pa.length (u.pa.flatMap bM)],.int .i64 (pre.length:Int)]=some (.int .i64 (zU u.cl pre x)))(a83:B 83 [.slc u.hf u.ho.length (u.ho.flatMap bN)]=some (.int .i64 (t8 u.ho)))
  (hE:∀e,fQ B LL C1 u.cf u.cl.length (br u.cl) u.mf u.me.length (u.me.flatMap bJ) u.hf u.ho.length (u.ho.flatMap bN) u.kf u.mr.length (u.mr.flatMap bD) u.sf u.sg.length (br u.sg) u.pf u.pa.length (u.pa.flatMap bM) e=some (.int .i64 (bx (e !=0) e (mE u)))):
  ∀(r pre:List cY) (fuel:Nat) (e:Int),u.me=pre++r→r.length<fuel→ku B LL C1 fuel u.cf u.cl.length (br u.cl) u.mf u.me.length (u.me.flatMap bJ) u.hf u.ho.length (u.ho.flatMap bN) u.kf u.mr.length (u.mr.flatMap bD) u.sf u.sg.length (br u.sg) u.pf u.pa.length (u.pa.flatMap bM) e (pre.length:Int)=some (.int .i64 (bx (e !=0) e (bx (iH u.cl pre r !=0) (iH u.cl pre r) (bx (Cj u !=0) (Cj u) (mE u))))):=by
 have h0:decide ((u.ho.length:Int)>0)= !((u.ho.length:Int)==0):=by
  by_cases h:u.ho.length=0
  ·rw[h];rfl
  ·have h1:decide ((u.ho.length:Int)>0)=true:=by simp;omega
   have h2:((u.ho.length:Int)==0)=false:=beq_eq_false_iff_ne.2 (by omega);rw[h1,h2];rfl
 intro r
 induction r with
 |nil=>
  intro pre fuel e hn hf;cases fuel with
  |zero=>exact absurd hf (Nat.not_lt_zero _)
  |succ fuel=>
   rw[qA,show decide ((pre.length:Int)<(u.me.length:Int))=false by rw[hn];exact co pre,bp,a83,bm,bo,hE,hE,qR,h0];unfold Cj;cases h:e !=0 with
   |true=>rfl
   |false=>
    have he:e=0:=by simpa using h
    subst he;cases (u.ho.length:Int)==0<;>rfl
 |cons x r ih=>
  intro pre fuel e hn hf;cases fuel with
  |zero=>exact absurd hf (Nat.not_lt_zero _)
  |succ fuel=>
   have ih:=fun e=>ih (pre++[x]) fuel e (by rw[cJ];exact hn) (by simp at hf;omega);rw[qA,show decide ((pre.length:Int)<(u.me.length:Int))=true by rw[hn];exact cD pre x r,bq,a82 pre x r hn,bm,bo,bZ pre x r (by rw[←hn];omega),ih,hE,a83,bm,bo,hE,qR];rw[show iH u.cl pre (x::r)=bx (zU u.cl pre x !=0) (zU u.cl pre x) (iH u.cl (pre++[x]) r) from rfl,gc];cases h:e !=0 with
   |true=>rfl
   |false=>rfl
theorem K9(hl:u.cl.length≤100000)(a80:∀s,B 80 [.str s]=some (.bool (cQ s)))(a81:∀x:zJ,B 81 [.slc x.1 x.2.1.1.length (br x.2.1.1),.str x.2.2]=some (.bool (d4 x.2.1.1 x.2.2))){M:Int}
  (hE:ku B LL C1 LL u.cf u.cl.length (br u.cl) u.mf u.me.length (u.me.flatMap bJ) u.hf u.ho.length (u.ho.flatMap bN) u.kf u.mr.length (u.mr.flatMap bD) u.sf u.sg.length (br u.sg) u.pf u.pa.length (u.pa.flatMap bM) 0 0=some (.int .i64 M)):
  ∀(r pre:List ByteArray) (fuel:Nat),u.cl=pre++r→r.length<fuel→tV B LL C1 fuel u.cf u.cl.length (br u.cl) u.mf u.me.length (u.me.flatMap bJ) u.hf u.ho.length (u.ho.flatMap bN) u.kf u.mr.length (u.mr.flatMap bD) u.sf u.sg.length (br u.sg) u.pf u.pa.length (u.pa.flatMap bM) (pre.length:Int)=some (.int .i64 (bx (lP pre r !=0) (lP pre r) M)):=by
 intro r
 induction r with
 |nil=>
  intro pre fuel hn hf;cases fuel with
  |zero=>exact absurd hf (Nat.not_lt_zero _)
  |succ fuel=>
   rw[sI,show decide ((pre.length:Int)<(u.cl.length:Int))=false by rw[hn];exact co pre,bp,hE];rfl
 |cons x r ih=>
  intro pre fuel hn hf;cases fuel with
  |zero=>exact absurd hf (Nat.not_lt_zero _)
  |succ fuel=>
   have ih:=ih (pre++[x]) fuel (by rw[cJ];exact hn) (by simp at hf;omega);have cel:∀{γ:Type} (c:D→Option γ),bn (br u.cl) (Int.toNat (pre.length:Int)*1) c=c (.str x):=fun c=>by rw[hn];exact t0 c pre x r
   have htk:D.slc (u.cf&&decide ((pre.length:Int)=(u.cl.length:Int))) (Int.toNat ((pre.length:Int)-(0:Int))) (List.take (Int.toNat ((pre.length:Int)-(0:Int))*1) (br u.cl))= .slc false pre.length (br pre):=by rw[hn];exact nD pre x r u.cf
   have h81:B 81 [.slc false pre.length (br pre),.str x]=some (.bool (d4 pre x)):=a81 (false,⟨pre,by rw[hn] at hl;simp at hl;omega⟩,x);have hi:decide ((0:Int)≤(pre.length:Int)∧(pre.length:Int)<(u.cl.length:Int))=true:=by rw[hn];exact cB pre x r
   rw[sI,show decide ((pre.length:Int)<(u.cl.length:Int))=true by rw[hn];exact cD pre x r,bq,hi,bv,cel,bw,a80,bm,bA,show decide ((0:Int)≤(0:Int)∧(0:Int)≤(pre.length:Int)∧(pre.length:Int)≤(u.cl.length:Int))=true by rw[hn];exact tZ pre x r,bv,bv,cel,bw,htk,h81,bm,bA,bZ pre x r (by rw[←hn];omega),ih];rw[show lP pre (x::r)=bx (dM [bx (!cQ x) 8 0,bx (d4 pre x) 9 0] !=0) (dM [bx (!cQ x) 8 0,bx (d4 pre x) 9 0]) (lP (pre++[x]) r) from rfl,gc];cases cQ x<;>cases d4 pre x<;>rfl
theorem MG(hu:u.Fit'):ce 16 [j6 u] (.int .i64 (uE u)):=by
 obtain⟨⟨l0,l1,l2,l3,l4,l5⟩,h6,h7,h8⟩:=hu;obtain⟨B,hB,hF⟩:=j2 [fa80,fa81,Es 82 (j6 u) u.me (zU u.cl),fa83,Es 84 (j6 u) u.mr (zW u.me u.ho.length),E7 23 (j6 u) (fun s=> .int .i64 (ix (fun m:cY=>db m.1 s) u.me)),E7 29 (j6 u) (fun s=> .int .i64 (gI u.mr u.ho.length s)),Es 85 (j6 u) u.pa E9]
  ⟨nC,sQ,nE (fun pre x r h=>by
    have:=MC (f0:=u.cf) (f1:=u.mf) (f2:=u.hf) (f3:=u.kf) (f4:=u.sf) (f5:=u.pf) (b2:=u.ho.length) (b3:=u.mr.length) (b4:=u.sg.length) (b5:=u.pa.length) (e2:=u.ho.flatMap bN) (e3:=u.mr.flatMap bD) (e4:=br u.sg) (e5:=u.pa.flatMap bM) u.cl pre x r l0 (by rw[←h];exact l1);rw[←h] at this;exact this),sR,nE (fun pre x r h=>by
    have:=MD (f0:=u.cf) (f1:=u.mf) (f2:=u.hf) (f3:=u.kf) (f4:=u.sf) (f5:=u.pf) (b0:=u.cl.length) (e0:=br u.cl) (b4:=u.sg.length) (b5:=u.pa.length) (e2:=u.ho.flatMap bN) (e4:=br u.sg) (e5:=u.pa.flatMap bM) u.me u.ho.length pre x r l1 (by rw[←h];exact l3);rw[←h] at this;exact this),gJ (fun s=>Em u.me s l1),gJ (fun s=>K1 u.mr s l2 l3),nE (fun pre x r h=>by
    have:=MF (f0:=u.cf) (f1:=u.mf) (f2:=u.hf) (f3:=u.kf) (f4:=u.sf) (f5:=u.pf) (b0:=u.cl.length) (e0:=br u.cl) (b1:=u.me.length) (e1:=u.me.flatMap bJ) (b2:=u.ho.length) (b3:=u.mr.length) (b4:=u.sg.length) (e2:=u.ho.flatMap bN) (e3:=u.mr.flatMap bD) (e4:=br u.sg) pre x r (by rw[←h];exact l5) (h8 x (by rw[h];simp));rw[←h] at this;exact this),trivial⟩ (by kernel_rfl)
 obtain⟨a80,a81,a82,a83,a84,a23,a29,a85,_⟩:=hF;have a80:∀s,B 80 [.str s]=some (.bool (cQ s)):=a80;have a81:∀x:zJ,B 81 [.slc x.1 x.2.1.1.length (br x.2.1.1),.str x.2.2]=some (.bool (d4 x.2.1.1 x.2.2)):=a81;have a82:∀pre x r,u.me=pre++x::r→B 82 [.agg [.slc u.cf u.cl.length (br u.cl),.slc u.mf u.me.length (u.me.flatMap bJ),.slc u.hf u.ho.length (u.ho.flatMap bN),.slc u.kf u.mr.length (u.mr.flatMap bD),.slc u.sf u.sg.length (br u.sg),.slc u.pf u.pa.length (u.pa.flatMap bM)],.int .i64 (pre.length:Int)]=some (.int .i64 (zU u.cl pre x)):=fun pre x r h=>a82 ⟨(pre,x,r),h⟩;have a83:B 83 [.slc u.hf u.ho.length (u.ho.flatMap bN)]=some (.int .i64 (t8 u.ho)):=a83 (u.hf,u.ho);have a84:∀pre x r,u.mr=pre++x::r→B 84 [.agg [.slc u.cf u.cl.length (br u.cl),.slc u.mf u.me.length (u.me.flatMap bJ),.slc u.hf u.ho.length (u.ho.flatMap bN),.slc u.kf u.mr.length (u.mr.flatMap bD),.slc u.sf u.sg.length (br u.sg),.slc u.pf u.pa.length (u.pa.flatMap bM)],.int .i64 (pre.length:Int)]=some (.int .i64 (zW u.me u.ho.length pre x)):=fun pre x r h=>a84 ⟨(pre,x,r),h⟩;have a85:∀pre x r,u.pa=pre++x::r→B 85 [.agg [.slc u.cf u.cl.length (br u.cl),.slc u.mf u.me.length (u.me.flatMap bJ),.slc u.hf u.ho.length (u.ho.flatMap bN),.slc u.kf u.mr.length (u.mr.flatMap bD),.slc u.sf u.sg.length (br u.sg),.slc u.pf u.pa.length (u.pa.flatMap bM)],.int .i64 (pre.length:Int)]=some (.int .i64 (E9 pre x)):=fun pre x r h=>a85 ⟨(pre,x,r),h⟩;have h2042:∀e,fw B LL C1 LL u.cf u.cl.length (br u.cl) u.mf u.me.length (u.me.flatMap bJ) u.hf u.ho.length (u.ho.flatMap bN) u.kf u.mr.length (u.mr.flatMap bD) u.sf u.sg.length (br u.sg) u.pf u.pa.length (u.pa.flatMap bM) e 0=some (.int .i64 (bx (e !=0) e (sE u))):=fun e=>HB u l4 l5 a85 a23 a29 a81 u.sg [] LL e rfl (by unfold LL;omega);have h127:∀e,fQ B LL C1 u.cf u.cl.length (br u.cl) u.mf u.me.length (u.me.flatMap bJ) u.hf u.ho.length (u.ho.flatMap bN) u.kf u.mr.length (u.mr.flatMap bD) u.sf u.sg.length (br u.sg) u.pf u.pa.length (u.pa.flatMap bM) e=some (.int .i64 (bx (e !=0) e (mE u))):=fun e=>by
  rw[xJ (hC:=c1)];exact HC u l3 a84 h2042 u.mr [] LL e rfl (by unfold LL;omega)
 have h250:ku B LL C1 LL u.cf u.cl.length (br u.cl) u.mf u.me.length (u.me.flatMap bJ) u.hf u.ho.length (u.ho.flatMap bN) u.kf u.mr.length (u.mr.flatMap bD) u.sf u.sg.length (br u.sg) u.pf u.pa.length (u.pa.flatMap bM) 0 0=some (.int .i64 (bx (iH u.cl [] u.me !=0) (iH u.cl [] u.me) (bx (Cj u !=0) (Cj u) (mE u)))):=K8 u l1 a82 a83 h127 u.me [] LL 0 rfl (by unfold LL;omega);have h7':yJ B LL C1 u.cf u.cl.length (br u.cl) u.mf u.me.length (u.me.flatMap bJ) u.hf u.ho.length (u.ho.flatMap bN) u.kf u.mr.length (u.mr.flatMap bD) u.sf u.sg.length (br u.sg) u.pf u.pa.length (u.pa.flatMap bM)=some (.int .i64 (bx (lP [] u.cl !=0) (lP [] u.cl) (bx (iH u.cl [] u.me !=0) (iH u.cl [] u.me) (bx (Cj u !=0) (Cj u) (mE u))))):=by
  rw[B4 (hC:=c1)];exact K9 u l0 a80 a81 h250 u.cl [] LL rfl (by unfold LL;omega)
 have hu:uE u=bx (wh u) 5 (bx (lP [] u.cl !=0) (lP [] u.cl) (bx (iH u.cl [] u.me !=0) (iH u.cl [] u.me) (bx (Cj u !=0) (Cj u) (mE u)))):=by
  unfold uE E6;rw[gc,gc];show bx (wh u) 5 (bx _ _ (bx _ _ (bx (Cj u !=0) (Cj u) (bx (E8 u.me u.ho.length u.mr u.sg !=0) (E8 u.me u.ho.length u.mr u.sg) (bx (jB [] u.pa !=0) (jB [] u.pa) 0)))))=_;unfold E8;rw[gc,qQ];rfl
 refine eA hB Tryz.func16 (ord:=O0) (N:=CA) (by kernel_rfl) ((Hn _ _ _ _ _ _ _ _ _ _ _ _ _ _ _ _ _ _ _ _ _).trans ?_);rw[h7',hu];unfold wh;cases decide ((u.cl.length:Int)>256)<;>cases decide ((u.me.length:Int)>200)<;>cases decide ((u.mr.length:Int)>1000)<;>cases decide ((u.sg.length:Int)>200)<;>cases decide ((u.pa.length:Int)>256)<;>rfl
def gL(s:ByteArray):Int:=bx (uE u !=0) (uE u) (bx (!zK u.me s) 10 0)
theorem Et(hu:u.Fit')(s:ByteArray):ce 90 [j6 u,.str s] (.int .i64 (gL u s)):=by
 obtain⟨B,hB,hF⟩:=j2 [one 17 [j6 u] (.int .i64 (uE u)),one 154 [j6 u,.str s] (.int .i64 (ix (fun m:cY=>db m.1 s) u.me)),fa119] ⟨bL (K7 u hu),bL (E5 u.me s hu.1.2.1),fN,trivial⟩ (by kernel_rfl);obtain⟨a,b,c,_⟩:=hF;have a:B 17 [.agg [.slc u.cf u.cl.length (br u.cl),.slc u.mf u.me.length (u.me.flatMap bJ),.slc u.hf u.ho.length (u.ho.flatMap bN),.slc u.kf u.mr.length (u.mr.flatMap bD),.slc u.sf u.sg.length (br u.sg),.slc u.pf u.pa.length (u.pa.flatMap bM)]]=some (.int .i64 (uE u)):=a ();have b:B 154 [.agg [.slc u.cf u.cl.length (br u.cl),.slc u.mf u.me.length (u.me.flatMap bJ),.slc u.hf u.ho.length (u.ho.flatMap bN),.slc u.kf u.mr.length (u.mr.flatMap bD),.slc u.sf u.sg.length (br u.sg),.slc u.pf u.pa.length (u.pa.flatMap bM)],.str s]=some (.int .i64 (ix (fun m:cY=>db m.1 s) u.me)):=b ();have c:∀(b:Bool) (e:Int),B 119 [.bool b,.int .i64 e]=some (.int .i64 (bx b e 0)):=fun b e=>c (b,e);refine eA hB Tryz.func90 (ord:=O0) (N:=N0) (by kernel_rfl) ((G5 _ _ _ _ _ _ _ _ _ _ _ _ _ _ _ _ _ _ _ _ _ _).trans ?_);rw[a,bm,bo,b,bm,bo,js,c,bm,bo];exact zL _ _
theorem MH(hu:u.Fit')(s:ByteArray):ce 18 [j6 u,.str s] (bx (gL u s !=0) (.tup [.agg [.str (ByteArray.mk #[]),.slc true 0 []],.int .i64 (gL u s)]) (.tup [.agg [.str s,ew cq (dL u.mr s u.ho.length 0)],.int .i64 0])):=by
 obtain⟨B,hB,hF⟩:=j2 [one 90 [j6 u,.str s] (.int .i64 (gL u s)),one 91 [j6 u,.str s] (.agg [.str s,ew cq (dL u.mr s u.ho.length 0)])] ⟨bL (Et u hu s),bL (Mq u.mr s hu.1.2.2.1 hu.1.2.2.2.1),trivial⟩ (by kernel_rfl);obtain⟨a,b,_⟩:=hF;have a:B 90 [.agg [.slc u.cf u.cl.length (br u.cl),.slc u.mf u.me.length (u.me.flatMap bJ),.slc u.hf u.ho.length (u.ho.flatMap bN),.slc u.kf u.mr.length (u.mr.flatMap bD),.slc u.sf u.sg.length (br u.sg),.slc u.pf u.pa.length (u.pa.flatMap bM)],.str s]=some (.int .i64 (gL u s)):=a ();have b:B 91 [.agg [.slc u.cf u.cl.length (br u.cl),.slc u.mf u.me.length (u.me.flatMap bJ),.slc u.hf u.ho.length (u.ho.flatMap bN),.slc u.kf u.mr.length (u.mr.flatMap bD),.slc u.sf u.sg.length (br u.sg),.slc u.pf u.pa.length (u.pa.flatMap bM)],.str s]=some (.agg [.str s,ew cq (dL u.mr s u.ho.length 0)]):=b ();refine eA hB Tryz.func18 (ord:=O0) (N:=N0) (by kernel_rfl) ((Ha _ _ _ _ _ _ _ _ _ _ _ _ _ _ _ _ _ _ _ _ _ _).trans ?_);rw[a,bm,bo,b,bm,mS,fa,bw,fb,dX,bH];cases gL u s !=0<;>rfl
theorem MI(hu:u.Fit')(s:ByteArray):ce 21 [j6 u,.str s] (.int .i64 (bx (gL u s !=0) (gL u s) (gI u.mr u.ho.length s))):=by
 obtain⟨B,hB,hF⟩:=j2 [one 90 [j6 u,.str s] (.int .i64 (gL u s)),one 94 [j6 u,.str s] (.int .i64 (gI u.mr u.ho.length s))] ⟨bL (Et u hu s),bL (K0 u.mr s hu.1.2.2.1 hu.1.2.2.2.1),trivial⟩ (by kernel_rfl);obtain⟨a,b,_⟩:=hF;have a:B 90 [.agg [.slc u.cf u.cl.length (br u.cl),.slc u.mf u.me.length (u.me.flatMap bJ),.slc u.hf u.ho.length (u.ho.flatMap bN),.slc u.kf u.mr.length (u.mr.flatMap bD),.slc u.sf u.sg.length (br u.sg),.slc u.pf u.pa.length (u.pa.flatMap bM)],.str s]=some (.int .i64 (gL u s)):=a ();have b:B 94 [.agg [.slc u.cf u.cl.length (br u.cl),.slc u.mf u.me.length (u.me.flatMap bJ),.slc u.hf u.ho.length (u.ho.flatMap bN),.slc u.kf u.mr.length (u.mr.flatMap bD),.slc u.sf u.sg.length (br u.sg),.slc u.pf u.pa.length (u.pa.flatMap bM)],.str s]=some (.int .i64 (gI u.mr u.ho.length s)):=b ();refine eA hB Tryz.func21 (ord:=O0) (N:=N0) (by kernel_rfl) ((Hd _ _ _ _ _ _ _ _ _ _ _ _ _ _ _ _ _ _ _ _ _ _).trans ?_);rw[a,bm,bo,b,bm,bo];exact zL _ _
theorem MJ(hu:u.Fit')(s:ByteArray):ce 19 [j6 u,.str s] (bx (gL u s !=0) (.tup [.slc true 0 [],.int .i64 (gL u s)]) (.tup [ew iD (cS (eH u.mr s) u.ho.length 0),.int .i64 0])):=by
 obtain⟨B,hB,hF⟩:=j2 [one 90 [j6 u,.str s] (.int .i64 (gL u s)),one 92 [j6 u,.str s] (ew iD (cS (eH u.mr s) u.ho.length 0))] ⟨bL (Et u hu s),bL (KY u.mr s hu.1.2.2.1 hu.1.2.2.2.1),trivial⟩ (by kernel_rfl);obtain⟨a,b,_⟩:=hF;have a:B 90 [.agg [.slc u.cf u.cl.length (br u.cl),.slc u.mf u.me.length (u.me.flatMap bJ),.slc u.hf u.ho.length (u.ho.flatMap bN),.slc u.kf u.mr.length (u.mr.flatMap bD),.slc u.sf u.sg.length (br u.sg),.slc u.pf u.pa.length (u.pa.flatMap bM)],.str s]=some (.int .i64 (gL u s)):=a ();have b:B 92 [.agg [.slc u.cf u.cl.length (br u.cl),.slc u.mf u.me.length (u.me.flatMap bJ),.slc u.hf u.ho.length (u.ho.flatMap bN),.slc u.kf u.mr.length (u.mr.flatMap bD),.slc u.sf u.sg.length (br u.sg),.slc u.pf u.pa.length (u.pa.flatMap bM)],.str s]=some (ew iD (cS (eH u.mr s) u.ho.length 0)):=b ();refine eA hB Tryz.func19 (ord:=O0) (N:=N0) (by kernel_rfl) ((Hb _ _ _ _ _ _ _ _ _ _ _ _ _ _ _ _ _ _ _ _ _ _).trans ?_);rw[a,bm,bo,b,bm,dX,bH];cases gL u s !=0<;>rfl
theorem MK(hu:u.Fit')(s:ByteArray):ce 20 [j6 u,.str s] (bx (gL u s !=0) (.tup [.slc true 0 [],.int .i64 (gL u s)]) (.tup [ew iD (cS (eI u.mr s) u.ho.length 0),.int .i64 0])):=by
 obtain⟨B,hB,hF⟩:=j2 [one 90 [j6 u,.str s] (.int .i64 (gL u s)),one 93 [j6 u,.str s] (ew iD (cS (eI u.mr s) u.ho.length 0))] ⟨bL (Et u hu s),bL (KZ u.mr s hu.1.2.2.1 hu.1.2.2.2.1),trivial⟩ (by kernel_rfl);obtain⟨a,b,_⟩:=hF;have a:B 90 [.agg [.slc u.cf u.cl.length (br u.cl),.slc u.mf u.me.length (u.me.flatMap bJ),.slc u.hf u.ho.length (u.ho.flatMap bN),.slc u.kf u.mr.length (u.mr.flatMap bD),.slc u.sf u.sg.length (br u.sg),.slc u.pf u.pa.length (u.pa.flatMap bM)],.str s]=some (.int .i64 (gL u s)):=a ();have b:B 93 [.agg [.slc u.cf u.cl.length (br u.cl),.slc u.mf u.me.length (u.me.flatMap bJ),.slc u.hf u.ho.length (u.ho.flatMap bN),.slc u.kf u.mr.length (u.mr.flatMap bD),.slc u.sf u.sg.length (br u.sg),.slc u.pf u.pa.length (u.pa.flatMap bM)],.str s]=some (ew iD (cS (eI u.mr s) u.ho.length 0)):=b ();refine eA hB Tryz.func20 (ord:=O0) (N:=N0) (by kernel_rfl) ((Hc _ _ _ _ _ _ _ _ _ _ _ _ _ _ _ _ _ _ _ _ _ _).trans ?_);rw[a,bm,bo,b,bm,dX,bH];cases gL u s !=0<;>rfl
end
def sm(s:ByteArray):Bool:= !decide ((s.size:Int)>60)
theorem yT{s:ByteArray}(h:sm s=true):s.size≤60:=by
 unfold sm at h;simp at h;omega
def jt(k n m:Int):Bool:=decide (k≤n)||(decide (k>m)&&decide (k≤IntKind.wrap .i64 (m+3)))
theorem ML(k n m:Int):ce 75 [.int .i64 k,.int .i64 n,.int .i64 m] (.bool (jt k n m)):=
 eA cx Tryz.func75 (ord:=O0) (N:=N0) (by kernel_rfl) ((GK _ _ _ k n m).trans (by
  unfold jt;generalize decide (k≤n)=a;generalize decide (k>m)=b;cases a<;>cases b<;>rfl))
def fa75:Fam:=⟨75,Int×Int×Int,fun x=>[.int .i64 x.1,.int .i64 x.2.1,.int .i64 x.2.2],fun x=> .bool (jt x.1 x.2.1 x.2.2)⟩
theorem sS:fa75.Good:=⟨fun x=>ML x.1 x.2.1 x.2.2,fun i j h=>by
 obtain⟨a,b,c⟩:=i;obtain⟨a',b',c'⟩:=j;have h:[D.int .i64 a,D.int .i64 b,D.int .i64 c]=[D.int .i64 a',D.int .i64 b',D.int .i64 c']:=h;simp at h;simp[h]⟩
theorem eQ{k n m:Nat}(h:jt (k:Int) n m=true)(hn:n≤m)(hm:m≤2000):k≤3000:=by
 unfold jt at h;rw[dJ (by omega)] at h;simp at h;omega
def Eu(c:CrdV):Bool:=bx (decide ((c.1.size:Int)>60)) false (bx (decide ((c.2.2.length:Int)>39)) false (c.2.2.all fun x=>sm x.2))
theorem La{call:CL}{f:Bool}{n:Nat}{s:ByteArray}{z:Int}:∀(r pre:List da) (fuel:Nat),(pre++r).length=n→n≤100000→r.length<fuel→
  oX call LL C1 fuel s f n ((pre++r).flatMap cq) z (pre.length:Int)=some (.bool (r.all fun x=>sm x.2)):=by
 intro r
 induction r with
 |nil=>
  intro pre fuel hn hB hf;cases fuel with
  |zero=>exact absurd hf (Nat.not_lt_zero _)
  |succ fuel=>
   subst hn;rw[qq,co,bp];rfl
 |cons x r ih=>
  intro pre fuel hn hB hf;cases fuel with
  |zero=>exact absurd hf (Nat.not_lt_zero _)
  |succ fuel=>
   have ih:=ih (pre++[x]) fuel (by rw[cJ];exact hn) hB (by simp at hf;omega);rw[cJ] at ih;subst hn;rw[qq,cD,bq,cB,bv,n1,bw,bZ pre x r (by omega),ih,List.all_cons];unfold sm;cases decide ((x.2.size:Int)>60)<;>rfl
theorem Lb(c:CrdV):ce 150 [.agg [.str c.1,.slc c.2.1 c.2.2.length (c.2.2.flatMap cq),.int .i64 0]] (.bool (Eu c)):=by
 refine eA cx Tryz.func150 (ord:=O0) (N:=GZ) (by kernel_rfl) ((D9 _ _ _ _ _ _ _ _).trans ?_);unfold Eu;cases decide ((c.1.size:Int)>60) with
 |true=>rfl
 |false=>
  rw[bp,bp];cases h:decide ((c.2.2.length:Int)>39) with
  |true=>rfl
  |false=>
   simp only[decide_eq_false_iff_not] at h;rw[bp,bp];exact La c.2.2 [] LL rfl (by omega) (by unfold LL;omega)
theorem wm{x y:CrdV}(h:jq x=jq y):x=y:=by
 obtain⟨a,b,c⟩:=x;obtain⟨a',b',c'⟩:=y;simp only[jq,zc1,and_true,D.slc.injEq,D.str.injEq] at h;obtain⟨h1,h2,_,h3⟩:=h;rw[h1,h2,wd h3]
theorem Ck{x y:KepV}(h:bM x=bM y):x=y:=by
 obtain⟨a,⟨b,c⟩,d,e⟩:=x;obtain⟨a',⟨b',c'⟩,d',e'⟩:=y;simp only[bM,zc1,and_true,D.slc.injEq,D.str.injEq] at h;obtain⟨h1,⟨h2,_,h3⟩,h4,_,h5⟩:=h;rw[h1,h2,qO h3,h4,mW (w:=2) (by omega) (fun _=>rfl) (fun _ _=>wm) h5]
def fa150:Fam:=⟨150,CrdV,fun c=>[.agg [.str c.1,.slc c.2.1 c.2.2.length (c.2.2.flatMap cq),.int .i64 0]],fun c=> .bool (Eu c)⟩
theorem xZ:fa150.Good:=⟨Lb,fun i j h=>by
 have h:[D.agg [.str i.1,.slc i.2.1 i.2.2.length (i.2.2.flatMap cq),.int .i64 0]]=[D.agg [.str j.1,.slc j.2.1 j.2.2.length (j.2.2.flatMap cq),.int .i64 0]]:=h;simp only[zc1,and_true,D.agg.injEq] at h;rw[wm (x:=i) (y:=j) (by unfold jq;rw[h.1,h.2])]⟩
def yU(k:KepV):Bool:=bx (decide ((k.1.size:Int)>60)) false (bx (decide ((k.2.1.2.length:Int)>39)) false (bx (!jt (k.2.2.2.length:Int) 5 200) false (k.2.2.2.all Eu)))
theorem MM{B:FuncId→List D→Option D}{f g:Bool}{n m:Nat}{s:ByteArray}{c:List D}(hF:∀c:CrdV,B 150 [.agg [.str c.1,.slc c.2.1 c.2.2.length (c.2.2.flatMap cq),.int .i64 0]]=some (.bool (Eu c))):∀(r pre:List CrdV) (fuel:Nat),(pre++r).length=n→n≤100000→r.length<fuel→
  tM B LL C1 fuel s g m c f n ((pre++r).flatMap jq) (pre.length:Int)=some (.bool (r.all Eu)):=by
 intro r
 induction r with
 |nil=>
  intro pre fuel hn hB hf;cases fuel with
  |zero=>exact absurd hf (Nat.not_lt_zero _)
  |succ fuel=>
   subst hn;rw[sv,co,bp];rfl
 |cons x r ih=>
  intro pre fuel hn hB hf;cases fuel with
  |zero=>exact absurd hf (Nat.not_lt_zero _)
  |succ fuel=>
   have ih:=ih (pre++[x]) fuel (by rw[cJ];exact hn) hB (by simp at hf;omega);rw[cJ] at ih;subst hn;rw[sv,cD,bq,cB,bv,c0,bw,Mz,bH,hF x,bm,bA,bZ pre x r (by omega),ih,List.all_cons];cases Eu x<;>rfl
theorem MN(k:KepV):ce 76 [.agg (bM k)] (.bool (yU k)):=by
 obtain⟨B,hB,hF⟩:=j2 [fa75,fa150] ⟨sS,xZ,trivial⟩ (by kernel_rfl);have a:B 75 [.int .i64 (k.2.2.2.length:Int),.int .i64 5,.int .i64 200]=some (.bool (jt (k.2.2.2.length:Int) 5 200)):=hF.1 ((k.2.2.2.length:Int),5,200);refine eA hB Tryz.func76 (ord:=O0) (N:=Lo) (by kernel_rfl) ((GL _ _ _ _ _ _ _ _ _ _).trans ?_);rw[a,bm,bA,BX (hC:=c1)];unfold yU;cases decide ((k.1.size:Int)>60) with
 |true=>rfl
 |false=>
  rw[bp,bp];cases decide ((k.2.1.2.length:Int)>39) with
  |true=>rfl
  |false=>
   rw[bp,bp];cases h:jt (k.2.2.2.length:Int) 5 200 with
   |false=>rfl
   |true=>
    have:=eQ (n:=5) (m:=200) h (by omega) (by omega);rw[Bool.not_true,bp,bp];exact MM hF.2.1 k.2.2.2 [] LL rfl (by omega) (by unfold LL;omega)
def fa76:Fam:=⟨76,KepV,fun k=>[.agg (bM k)],fun k=> .bool (yU k)⟩
theorem zN:fa76.Good:=⟨MN,fun i j h=>by
 have h:[D.agg (bM i)]=[D.agg (bM j)]:=h;simp only[zc1,and_true,D.agg.injEq] at h;rw[Ck h]⟩
section
variable {f0 f1 f2 f3 f4 f5:Bool}{b0 b1 b2 b3 b4 b5:Nat}{e0 e1 e2 e3 e4 e5:List D}{B:FuncId→List D→Option D}
theorem zO{n:Nat}{E:List D}(hF:∀k:KepV,B 76 [.agg [.str k.1,.slc k.2.1.1 k.2.1.2.length (k.2.1.2.flatMap bN),.slc k.2.2.1 k.2.2.2.length (k.2.2.2.flatMap jq)]]=some (.bool (yU k))):∀(r pre:List KepV) (fuel:Nat),(pre++r).length=n→E=(pre++r).flatMap bM→n≤100000→r.length<fuel→
  iF B LL C1 fuel f0 b0 e0 f1 b1 e1 f2 b2 e2 f3 b3 e3 f4 b4 e4 f5 n E (pre.length:Int)=some (.bool (r.all yU)):=by
 intro r
 induction r with
 |nil=>
  intro pre fuel hn he hB hf;cases fuel with
  |zero=>exact absurd hf (Nat.not_lt_zero _)
  |succ fuel=>
   subst hn;rw[oh,co,bp];rfl
 |cons x r ih=>
  intro pre fuel hn he hB hf;cases fuel with
  |zero=>exact absurd hf (Nat.not_lt_zero _)
  |succ fuel=>
   have ih:=ih (pre++[x]) fuel (by rw[cJ];exact hn) (by rw[cJ];exact he) hB (by simp at hf;omega);subst hn;rw[oh,cD,bq,cB,bv,show∀{γ:Type} (c:D→Option γ),bn E (Int.toNat (pre.length:Int)*3+0) c=c (.str x.1) from fun c=>by rw[he];exact p0 c pre x r,bw,show∀{γ:Type} (c:D→Option γ),bn E (Int.toNat (pre.length:Int)*3+1) c=c (.slc x.2.1.1 x.2.1.2.length (x.2.1.2.flatMap bN)) from fun c=>by rw[he];exact p1 c pre x r,bH,show∀{γ:Type} (c:D→Option γ),bn E (Int.toNat (pre.length:Int)*3+2) c=c (.slc x.2.2.1 x.2.2.2.length (x.2.2.2.flatMap jq)) from fun c=>by rw[he];exact p2 c pre x r,bH,hF x,bm,bA,bZ pre x r (by omega),ih,List.all_cons];cases yU x<;>rfl
theorem Cl{n:Nat}{M:Bool}{E:List D}(hE:iF B LL C1 LL f0 b0 e0 f1 b1 e1 f2 b2 e2 f3 b3 e3 f4 n E f5 b5 e5 0=some (.bool M)):∀(r pre:List ByteArray) (fuel:Nat),(pre++r).length=n→E=br (pre++r)→n≤100000→r.length<fuel→
  kw B LL C1 fuel f0 b0 e0 f1 b1 e1 f2 b2 e2 f3 b3 e3 f4 n E f5 b5 e5 (pre.length:Int)=some (.bool ((r.all sm&&M))):=by
 intro r
 induction r with
 |nil=>
  intro pre fuel hn he hB hf;cases fuel with
  |zero=>exact absurd hf (Nat.not_lt_zero _)
  |succ fuel=>
   subst hn;rw[qD,co,bp,hE];rfl
 |cons x r ih=>
  intro pre fuel hn he hB hf;cases fuel with
  |zero=>exact absurd hf (Nat.not_lt_zero _)
  |succ fuel=>
   have ih:=ih (pre++[x]) fuel (by rw[cJ];exact hn) (by rw[cJ];exact he) hB (by simp at hf;omega);subst hn;rw[qD,cD,bq,cB,bv,show∀{γ:Type} (c:D→Option γ),bn E (Int.toNat (pre.length:Int)*1) c=c (.str x) from fun c=>by rw[he];exact t0 c pre x r,bw,bZ pre x r (by omega),ih,List.all_cons];unfold sm;cases decide ((x.size:Int)>60)<;>rfl
theorem Cm{n:Nat}{M:Bool}{E:List D}(hE:kw B LL C1 LL f0 b0 e0 f1 b1 e1 f2 b2 e2 f3 n E f4 b4 e4 f5 b5 e5 0=some (.bool M)):∀(r pre:List ci) (fuel:Nat),(pre++r).length=n→E=(pre++r).flatMap bD→n≤100000→r.length<fuel→
  kx B LL C1 fuel f0 b0 e0 f1 b1 e1 f2 b2 e2 f3 n E f4 b4 e4 f5 b5 e5 (pre.length:Int)=some (.bool ((r.all (fun x=>sm x.1&&(sm x.2.1&&sm x.2.2.2.2))&&M))):=by
 intro r
 induction r with
 |nil=>
  intro pre fuel hn he hB hf;cases fuel with
  |zero=>exact absurd hf (Nat.not_lt_zero _)
  |succ fuel=>
   subst hn;rw[qE,co,bp,hE];rfl
 |cons x r ih=>
  intro pre fuel hn he hB hf;cases fuel with
  |zero=>exact absurd hf (Nat.not_lt_zero _)
  |succ fuel=>
   have ih:=ih (pre++[x]) fuel (by rw[cJ];exact hn) (by rw[cJ];exact he) hB (by simp at hf;omega);subst hn;rw[qE,cD,bq,cB,bv,show∀{γ:Type} (c:D→Option γ),bn E (Int.toNat (pre.length:Int)*5+0) c=c (.str x.1) from fun c=>by rw[he];exact k0 c pre x r,bw,show∀{γ:Type} (c:D→Option γ),bn E (Int.toNat (pre.length:Int)*5+1) c=c (.str x.2.1) from fun c=>by rw[he];exact k1 c pre x r,bw,show∀{γ:Type} (c:D→Option γ),bn E (Int.toNat (pre.length:Int)*5+3+1) c=c (.str x.2.2.2.2) from fun c=>by rw[he];exact k4 c pre x r,bw,bZ pre x r (by omega),ih,List.all_cons];unfold sm;cases decide ((x.1.size:Int)>60)<;>cases decide ((x.2.1.size:Int)>60)<;>cases decide ((x.2.2.2.2.size:Int)>60)<;>rfl
theorem Cn{n:Nat}{M:Bool}{E:List D}(hE:kx B LL C1 LL f0 b0 e0 f1 n E f2 b2 e2 f3 b3 e3 f4 b4 e4 f5 b5 e5 0=some (.bool M)):∀(r pre:List cY) (fuel:Nat),(pre++r).length=n→E=(pre++r).flatMap bJ→n≤100000→r.length<fuel→
  ky B LL C1 fuel f0 b0 e0 f1 n E f2 b2 e2 f3 b3 e3 f4 b4 e4 f5 b5 e5 (pre.length:Int)=some (.bool ((r.all (fun x=>sm x.1&&sm x.2.1)&&M))):=by
 intro r
 induction r with
 |nil=>
  intro pre fuel hn he hB hf;cases fuel with
  |zero=>exact absurd hf (Nat.not_lt_zero _)
  |succ fuel=>
   subst hn;rw[qF,co,bp,hE];rfl
 |cons x r ih=>
  intro pre fuel hn he hB hf;cases fuel with
  |zero=>exact absurd hf (Nat.not_lt_zero _)
  |succ fuel=>
   have ih:=ih (pre++[x]) fuel (by rw[cJ];exact hn) (by rw[cJ];exact he) hB (by simp at hf;omega);subst hn;rw[qF,cD,bq,cB,bv,show∀{γ:Type} (c:D→Option γ),bn E (Int.toNat (pre.length:Int)*3+0) c=c (.str x.1) from fun c=>by rw[he];exact HT c pre x r,bw,show∀{γ:Type} (c:D→Option γ),bn E (Int.toNat (pre.length:Int)*3+1) c=c (.str x.2.1) from fun c=>by rw[he];exact m1 c pre x r,bw,bZ pre x r (by omega),ih,List.all_cons];unfold sm;cases decide ((x.1.size:Int)>60)<;>cases decide ((x.2.1.size:Int)>60)<;>rfl
theorem Ev{n:Nat}{M:Bool}{E:List D}(hE:ky B LL C1 LL f0 n E f1 b1 e1 f2 b2 e2 f3 b3 e3 f4 b4 e4 f5 b5 e5 0=some (.bool M)):∀(r pre:List ByteArray) (fuel:Nat),(pre++r).length=n→E=br (pre++r)→n≤100000→r.length<fuel→
  tW B LL C1 fuel f0 n E f1 b1 e1 f2 b2 e2 f3 b3 e3 f4 b4 e4 f5 b5 e5 (pre.length:Int)=some (.bool ((r.all sm&&M))):=by
 intro r
 induction r with
 |nil=>
  intro pre fuel hn he hB hf;cases fuel with
  |zero=>exact absurd hf (Nat.not_lt_zero _)
  |succ fuel=>
   subst hn;rw[sJ,co,bp,hE];rfl
 |cons x r ih=>
  intro pre fuel hn he hB hf;cases fuel with
  |zero=>exact absurd hf (Nat.not_lt_zero _)
  |succ fuel=>
   have ih:=ih (pre++[x]) fuel (by rw[cJ];exact hn) (by rw[cJ];exact he) hB (by simp at hf;omega);subst hn;rw[sJ,cD,bq,cB,bv,show∀{γ:Type} (c:D→Option γ),bn E (Int.toNat (pre.length:Int)*1) c=c (.str x) from fun c=>by rw[he];exact t0 c pre x r,bw,bZ pre x r (by omega),ih,List.all_cons];unfold sm;cases decide ((x.size:Int)>60)<;>rfl
end
section
variable (u:UV)
def MO:Bool:=u.cl.all sm&&(u.me.all (fun x=>sm x.1&&sm x.2.1)&&(u.mr.all (fun x=>sm x.1&&(sm x.2.1&&sm x.2.2.2.2))&&(u.sg.all sm&&u.pa.all yU)))
def Co:Bool:=bx (!jt (u.cl.length:Int) 6 256) false (bx (!jt (u.me.length:Int) 6 200) false (bx (decide ((u.ho.length:Int)>39)) false (bx (!jt (u.mr.length:Int) 30 1000) false (bx (!jt (u.sg.length:Int) 8 200) false (bx (!jt (u.pa.length:Int) 4 256) false (MO u))))))
theorem MP:ce 14 [j6 u] (.bool (Co u)):=by
 obtain⟨B,hB,hF⟩:=j2 [fa75,fa76] ⟨sS,zN,trivial⟩ (by kernel_rfl);have a:∀k n m:Int,B 75 [.int .i64 k,.int .i64 n,.int .i64 m]=some (.bool (jt k n m)):=fun k n m=>hF.1 (k,n,m);have b:∀k:KepV,B 76 [.agg [.str k.1,.slc k.2.1.1 k.2.1.2.length (k.2.1.2.flatMap bN),.slc k.2.2.1 k.2.2.2.length (k.2.2.2.flatMap jq)]]=some (.bool (yU k)):=hF.2.1;have h7:u.cl.length≤100000→u.me.length≤100000→u.mr.length≤100000→u.sg.length≤100000→u.pa.length≤100000→yK B LL C1 u.cf u.cl.length (br u.cl) u.mf u.me.length (u.me.flatMap bJ) u.hf u.ho.length (u.ho.flatMap bN) u.kf u.mr.length (u.mr.flatMap bD) u.sf u.sg.length (br u.sg) u.pf u.pa.length (u.pa.flatMap bM)=some (.bool (MO u)):=fun l0 l1 l3 l4 l5=>by
  have g5:iF B LL C1 LL u.cf u.cl.length (br u.cl) u.mf u.me.length (u.me.flatMap bJ) u.hf u.ho.length (u.ho.flatMap bN) u.kf u.mr.length (u.mr.flatMap bD) u.sf u.sg.length (br u.sg) u.pf u.pa.length (u.pa.flatMap bM) 0=some (.bool (u.pa.all yU)):=zO b u.pa [] LL rfl rfl l5 (by unfold LL;omega);have g4:kw B LL C1 LL u.cf u.cl.length (br u.cl) u.mf u.me.length (u.me.flatMap bJ) u.hf u.ho.length (u.ho.flatMap bN) u.kf u.mr.length (u.mr.flatMap bD) u.sf u.sg.length (br u.sg) u.pf u.pa.length (u.pa.flatMap bM) 0=some (.bool (u.sg.all sm&&u.pa.all yU)):=Cl g5 u.sg [] LL rfl rfl l4 (by unfold LL;omega);have g3:kx B LL C1 LL u.cf u.cl.length (br u.cl) u.mf u.me.length (u.me.flatMap bJ) u.hf u.ho.length (u.ho.flatMap bN) u.kf u.mr.length (u.mr.flatMap bD) u.sf u.sg.length (br u.sg) u.pf u.pa.length (u.pa.flatMap bM) 0=some (.bool (u.mr.all (fun x=>sm x.1&&(sm x.2.1&&sm x.2.2.2.2))&&(u.sg.all sm&&u.pa.all yU))):=Cm g4 u.mr [] LL rfl rfl l3 (by unfold LL;omega);have g1:ky B LL C1 LL u.cf u.cl.length (br u.cl) u.mf u.me.length (u.me.flatMap bJ) u.hf u.ho.length (u.ho.flatMap bN) u.kf u.mr.length (u.mr.flatMap bD) u.sf u.sg.length (br u.sg) u.pf u.pa.length (u.pa.flatMap bM) 0=some (.bool (u.me.all (fun x=>sm x.1&&sm x.2.1)&&(u.mr.all (fun x=>sm x.1&&(sm x.2.1&&sm x.2.2.2.2))&&(u.sg.all sm&&u.pa.all yU)))):=Cn g3 u.me [] LL rfl rfl l1 (by unfold LL;omega);rw[B5 (hC:=c1)];exact Ev g1 u.cl [] LL rfl rfl l0 (by unfold LL;omega)
 refine eA hB Tryz.func14 (ord:=O0) (N:=E0) (by kernel_rfl) ((Hs _ _ _ _ _ _ _ _ _ _ _ _ _ _ _ _ _ _ _ _ _).trans ?_);rw[a,bm,bA,a,bm,bA,a,bm,bA,a,bm,bA,a,bm,bA];unfold Co;cases h0:jt (u.cl.length:Int) 6 256 with
 |false=>rfl
 |true=>
  rw[Bool.not_true,bp,bp];cases h1:jt (u.me.length:Int) 6 200 with
  |false=>rfl
  |true=>
   rw[Bool.not_true,bp,bp];cases h2:decide ((u.ho.length:Int)>39) with
   |true=>rfl
   |false=>
    rw[bp,bp];cases h3:jt (u.mr.length:Int) 30 1000 with
    |false=>rfl
    |true=>
     rw[Bool.not_true,bp,bp];cases h4:jt (u.sg.length:Int) 8 200 with
     |false=>rfl
     |true=>
      rw[Bool.not_true,bp,bp];cases h5:jt (u.pa.length:Int) 4 256 with
      |false=>rfl
      |true=>
       rw[Bool.not_true,bp,bp];have q0:=eQ (n:=6) (m:=256) h0 (by omega) (by omega);have q1:=eQ (n:=6) (m:=200) h1 (by omega) (by omega);have q3:=eQ (n:=30) (m:=1000) h3 (by omega) (by omega);have q4:=eQ (n:=8) (m:=200) h4 (by omega) (by omega);have q5:=eQ (n:=4) (m:=256) h5 (by omega) (by omega);exact h7 (by omega) (by omega) (by omega) (by omega) (by omega)
theorem gK{b r:Bool}(h:bx b false r=true):b=false∧r=true:=by
 cases b with
 |true=>cases h
 |false=>exact⟨rfl,h⟩
theorem nF{b:Bool}(h:(!b)=false):b=true:=by cases b<;>first|rfl|cases h
theorem Ew{c:CrdV}(h:Eu c=true):c.Fit:=by
 unfold Eu at h;obtain⟨h1,h⟩:=gK h;obtain⟨h2,_⟩:=gK h;simp at h1 h2;exact⟨by omega,by omega⟩
theorem Ex{k:KepV}(h:yU k=true):k.Fit:=by
 unfold yU at h;obtain⟨h1,h⟩:=gK h;obtain⟨h2,h⟩:=gK h;obtain⟨h3,h⟩:=gK h;have:=eQ (n:=5) (m:=200) (nF h3) (by omega) (by omega);simp at h1;exact⟨by omega,by omega,fun c hc=>Ew (zd1.1 h c hc)⟩
theorem HD(h:Co u=true):u.Fit'∧u.ho.length≤39:=by
 unfold Co at h;obtain⟨h0,h⟩:=gK h;obtain⟨h1,h⟩:=gK h;obtain⟨h2,h⟩:=gK h;obtain⟨h3,h⟩:=gK h;obtain⟨h4,h⟩:=gK h;obtain⟨h5,h⟩:=gK h;have q0:=eQ (n:=6) (m:=256) (nF h0) (by omega) (by omega);have q1:=eQ (n:=6) (m:=200) (nF h1) (by omega) (by omega);have q3:=eQ (n:=30) (m:=1000) (nF h3) (by omega) (by omega);have q4:=eQ (n:=8) (m:=200) (nF h4) (by omega) (by omega);have q5:=eQ (n:=4) (m:=256) (nF h5) (by omega) (by omega);simp at h2;unfold MO at h;simp only[zc0,zd1] at h;obtain⟨a,b,c,d,e⟩:=h;exact⟨⟨⟨by omega,by omega,by omega,by omega,by omega,by omega⟩,fun x hx=>by have:=yT (a x hx);omega,fun x hx=>by have:=yT (b x hx).1;omega,fun k hk=>Ex (e k hk)⟩,by omega⟩
def HE:UV:={u with mf:=u.me.isEmpty,kf:=u.mr.isEmpty,pf:=u.pa.isEmpty}
end
section
variable {f0 f1 f2 f3 f4 f5:Bool}{b0 b1 b2 b3 b4 b5:Nat}{e0 e1 e2 e3 e4 e5:List D}{B:FuncId→List D→Option D}
theorem HF{i n:Nat}(h:i<n)(hn:n*40≤cu):decide ((i+1)*40≤cu∧i+1≤9223372036854775807)=true:=by
 rw[show cu=140737488355328 from rfl] at hn ⊢;simp only[zc3];omega
theorem Cp{i n:Nat}(h:i<n)(hn:n*64≤cu):decide ((i+1)*64≤cu∧i+1≤9223372036854775807)=true:=by
 rw[show cu=140737488355328 from rfl] at hn ⊢;simp only[zc3];omega
theorem kD{n w:Nat}(hw:40≤w)(hn:n*w≤cu):n≤4000000000000:=by
 rw[show cu=140737488355328 from rfl] at hn;have:=Nat.mul_le_mul_left n hw;omega
theorem Cq{n:Nat}(me:List cY)(mr:List ci)(hn64:n*64≤cu):∀(r pre:List KepV) (fuel:Nat),(pre++r).length=n→r.length<fuel→
  cT B LL C1 fuel f5 n ((pre++r).flatMap bM) f0 b0 e0 f2 b2 e2 f4 b4 e4 n (pre.length:Int) (eG bJ me) (eG bD mr) (eG bM pre)=some (.agg [.slc f0 b0 e0,ew bJ me,.slc f2 b2 e2,ew bD mr,.slc f4 b4 e4,ew bM (pre++r)]):=by
 intro r
 induction r with
 |nil=>
  intro pre fuel hn hf;cases fuel with
  |zero=>exact absurd hf (Nat.not_lt_zero _)
  |succ fuel=>
   have he:decide ((pre.length:Int)<(n:Int))=false:=by rw[←hn];exact co pre
   generalize List.flatMap bM (pre++[])=E;rw[zb2];cases me<;>cases mr<;>cases pre<;>simp only[eG]<;>
    first
    |(rw[kX,he,bp];rfl)
    |(rw[kY,he,bp];rfl)
    |(rw[kZ,he,bp];rfl)
    |(rw[k9,he,bp];rfl)
    |(rw[la,he,bp];rfl)
    |(rw[lb,he,bp];rfl)
    |(rw[lc,he,bp];rfl)
    |(rw[ld,he,bp];rfl)
 |cons x r ih=>
  intro pre fuel hn hf;cases fuel with
  |zero=>exact absurd hf (Nat.not_lt_zero _)
  |succ fuel=>
   have ih:=ih (pre++[x]) fuel (by rw[cJ];exact hn) (by simp at hf;omega);rw[cJ,fx] at ih;have hl:=kD (by omega) hn64;have hlt:pre.length<n:=by rw[←hn];simp
   have h1:decide ((pre.length:Int)<(n:Int))=true:=by rw[←hn];exact cD pre x r
   have h2:decide ((0:Int)≤(pre.length:Int)∧(pre.length:Int)<(n:Int))=true:=by rw[←hn];exact cB pre x r
   have h3:=bZ pre x r (by rw[hn];omega);have q0:∀(c:D→Option D),bn ((pre++x::r).flatMap bM) (Int.toNat (pre.length:Int)*3+0) c=c (.str x.1):=fun c=>p0 c pre x r;have q1:∀(c:D→Option D),bn ((pre++x::r).flatMap bM) (Int.toNat (pre.length:Int)*3+1) c=_:=fun c=>p1 c pre x r;have q2:∀(c:D→Option D),bn ((pre++x::r).flatMap bM) (Int.toNat (pre.length:Int)*3+2) c=_:=fun c=>p2 c pre x r;have hrm:=Cp hlt hn64;rw[←ih];generalize List.flatMap bM (pre++x::r)=E at q0 q1 q2;generalize (((pre++[x]).length:Nat):Int)=j at h3;cases pre with
   |nil=>
    cases me<;>cases mr<;>simp only[eG]<;>
    first
    |(rw[kX,h1,bq,h2,bv,q0,bw,q1,bH,q2,bH,h3];rfl)
    |(rw[kZ,h1,bq,h2,bv,q0,bw,q1,bH,q2,bH,h3];rfl)
    |(rw[la,h1,bq,h2,bv,q0,bw,q1,bH,q2,bH,h3];rfl)
    |(rw[lc,h1,bq,h2,bv,q0,bw,q1,bH,q2,bH,h3];rfl)
   |cons o os=>
    rw[show(o::os).length=os.length+1 from rfl] at hrm;cases me<;>cases mr<;>simp only[eG]<;>
    first
    |(rw[kY,h1,bq,h2,bv,q0,bw,q1,bH,q2,bH,hrm,bv,h3];rfl)
    |(rw[k9,h1,bq,h2,bv,q0,bw,q1,bH,q2,bH,hrm,bv,h3];rfl)
    |(rw[lb,h1,bq,h2,bv,q0,bw,q1,bH,q2,bH,hrm,bv,h3];rfl)
    |(rw[ld,h1,bq,h2,bv,q0,bw,q1,bH,q2,bH,hrm,bv,h3];rfl)
theorem Cr{n n5:Nat}(me:List cY)(pa:List KepV)(hn64:n*64≤cu)(hp64:n5*64≤cu)(hp:pa.length=n5):∀(r pre:List ci) (fuel:Nat),(pre++r).length=n→r.length<fuel→
  eP B LL C1 fuel f3 n ((pre++r).flatMap bD) f0 b0 e0 f1 b1 e1 f2 b2 e2 f4 b4 e4 f5 n5 (pa.flatMap bM) n (pre.length:Int) (eG bJ me) (eG bD pre)=some (.agg [.slc f0 b0 e0,ew bJ me,.slc f2 b2 e2,ew bD (pre++r),.slc f4 b4 e4,ew bM pa]):=by
 intro r
 induction r with
 |nil=>
  intro pre fuel hn hf;cases fuel with
  |zero=>exact absurd hf (Nat.not_lt_zero _)
  |succ fuel=>
   have he:decide ((pre.length:Int)<(n:Int))=false:=by rw[←hn];exact co pre
   have hl:=kD (by omega) hp64;have g:cT B LL C1 LL f5 n5 (pa.flatMap bM) f0 b0 e0 f2 b2 e2 f4 b4 e4 n5 0 (eG bJ me) (eG bD pre) .nil=some (.agg [.slc f0 b0 e0,ew bJ me,.slc f2 b2 e2,ew bD pre,.slc f4 b4 e4,ew bM pa]):=Cq me pre hp64 pa [] LL hp (by unfold LL;omega);generalize List.flatMap bD (pre++[])=E;rw[zb2,←g];cases me<;>cases pre<;>simp only[eG]<;>
    first
    |(rw[mM,he,bp])
    |(rw[mN,he,bp])
    |(rw[mO,he,bp])
    |(rw[mP,he,bp])
 |cons x r ih=>
  intro pre fuel hn hf;cases fuel with
  |zero=>exact absurd hf (Nat.not_lt_zero _)
  |succ fuel=>
   have ih:=ih (pre++[x]) fuel (by rw[cJ];exact hn) (by simp at hf;omega);rw[cJ,fx] at ih;have hl:=kD (by omega) hn64;have hlt:pre.length<n:=by rw[←hn];simp
   have h1:decide ((pre.length:Int)<(n:Int))=true:=by rw[←hn];exact cD pre x r
   have h2:decide ((0:Int)≤(pre.length:Int)∧(pre.length:Int)<(n:Int))=true:=by rw[←hn];exact cB pre x r
   have h3:=bZ pre x r (by rw[hn];omega);have q0:∀(c:D→Option D),bn ((pre++x::r).flatMap bD) (Int.toNat (pre.length:Int)*5+0) c=_:=fun c=>k0 c pre x r;have q1:∀(c:D→Option D),bn ((pre++x::r).flatMap bD) (Int.toNat (pre.length:Int)*5+1) c=_:=fun c=>k1 c pre x r;have q2:∀(c:D→Option D),bn ((pre++x::r).flatMap bD) (Int.toNat (pre.length:Int)*5+2) c=_:=fun c=>k2 c pre x r;have q3:∀(c:D→Option D),bn ((pre++x::r).flatMap bD) (Int.toNat (pre.length:Int)*5+3) c=_:=fun c=>k3 c pre x r;have q4:∀(c:D→Option D),bn ((pre++x::r).flatMap bD) (Int.toNat (pre.length:Int)*5+4) c=_:=fun c=>k4 c pre x r;have hrm:=Cp hlt hn64;rw[←ih];generalize List.flatMap bD (pre++x::r)=E at q0 q1 q2 q3 q4;generalize (((pre++[x]).length:Nat):Int)=j at h3;cases pre with
   |nil=>
    cases me<;>simp only[eG]<;>
    first
    |(rw[mM,h1,bq,h2,bv,q0,bw,q1,bw,q2,bo,q3,bo,q4,bw,h3];rfl)
    |(rw[mO,h1,bq,h2,bv,q0,bw,q1,bw,q2,bo,q3,bo,q4,bw,h3];rfl)
   |cons o os=>
    rw[show(o::os).length=os.length+1 from rfl] at hrm;cases me<;>simp only[eG]<;>
    first
    |(rw[mN,h1,bq,h2,bv,q0,bw,q1,bw,q2,bo,q3,bo,q4,bw,hrm,bv,h3];rfl)
    |(rw[mP,h1,bq,h2,bv,q0,bw,q1,bw,q2,bo,q3,bo,q4,bw,hrm,bv,h3];rfl)
theorem Ey{n n3 n5:Nat}(mr:List ci)(pa:List KepV)(hn40:n*40≤cu)(hm64:n3*64≤cu)(hm:mr.length=n3)(hp64:n5*64≤cu)(hp:pa.length=n5):∀(r pre:List cY) (fuel:Nat),(pre++r).length=n→r.length<fuel→
  lL B LL C1 fuel f1 n ((pre++r).flatMap bJ) f0 b0 e0 f2 b2 e2 f3 n3 (mr.flatMap bD) f4 b4 e4 f5 n5 (pa.flatMap bM) n (pre.length:Int) (eG bJ pre)=some (.agg [.slc f0 b0 e0,ew bJ (pre++r),.slc f2 b2 e2,ew bD mr,.slc f4 b4 e4,ew bM pa]):=by
 intro r
 induction r with
 |nil=>
  intro pre fuel hn hf;cases fuel with
  |zero=>exact absurd hf (Nat.not_lt_zero _)
  |succ fuel=>
   have he:decide ((pre.length:Int)<(n:Int))=false:=by rw[←hn];exact co pre
   have hl:=kD (by omega) hm64;have g:eP B LL C1 LL f3 n3 (mr.flatMap bD) f0 b0 e0 f1 n ((pre++[]).flatMap bJ) f2 b2 e2 f4 b4 e4 f5 n5 (pa.flatMap bM) n3 0 (eG bJ pre) .nil=some (.agg [.slc f0 b0 e0,ew bJ pre,.slc f2 b2 e2,ew bD mr,.slc f4 b4 e4,ew bM pa]):=Cr pre pa hm64 hp64 hp mr [] LL hm (by unfold LL;omega);generalize List.flatMap bJ (pre++[])=E at g ⊢;rw[zb2,←g];cases pre<;>simp only[eG]<;>
    first
    |(rw[qB,he,bp])
    |(rw[qC,he,bp])
 |cons x r ih=>
  intro pre fuel hn hf;cases fuel with
  |zero=>exact absurd hf (Nat.not_lt_zero _)
  |succ fuel=>
   have ih:=ih (pre++[x]) fuel (by rw[cJ];exact hn) (by simp at hf;omega);rw[cJ,fx] at ih;have hl:=kD (by omega) hn40;have hlt:pre.length<n:=by rw[←hn];simp
   have h1:decide ((pre.length:Int)<(n:Int))=true:=by rw[←hn];exact cD pre x r
   have h2:decide ((0:Int)≤(pre.length:Int)∧(pre.length:Int)<(n:Int))=true:=by rw[←hn];exact cB pre x r
   have h3:=bZ pre x r (by rw[hn];omega);have q0:∀(c:D→Option D),bn ((pre++x::r).flatMap bJ) (Int.toNat (pre.length:Int)*3+0) c=_:=fun c=>HT c pre x r;have q1:∀(c:D→Option D),bn ((pre++x::r).flatMap bJ) (Int.toNat (pre.length:Int)*3+1) c=_:=fun c=>m1 c pre x r;have q2:∀(c:D→Option D),bn ((pre++x::r).flatMap bJ) (Int.toNat (pre.length:Int)*3+2) c=_:=fun c=>m2 c pre x r;have hrm:=HF hlt hn40;rw[←ih];generalize List.flatMap bJ (pre++x::r)=E at q0 q1 q2;generalize (((pre++[x]).length:Nat):Int)=j at h3;cases pre with
   |nil=>
    simp only[eG];rw[qB,h1,bq,h2,bv,q0,bw,q1,bw,q2,bo,h3];rfl
   |cons o os=>
    rw[show(o::os).length=os.length+1 from rfl] at hrm;simp only[eG];rw[qC,h1,bq,h2,bv,q0,bw,q1,bw,q2,bo,hrm,bv,h3];rfl
theorem MQ(u:UV)(h1:u.me.length*40≤cu)(h3:u.mr.length*64≤cu)(h5:u.pa.length*64≤cu):ce 13 [j6 u] (j6 (HE u)):=by
 refine eA cx Tryz.func13 (ord:=O0) (N:=Ka) (by kernel_rfl) ((Hr _ _ _ _ _ _ _ _ _ _ _ _ _ _ _ _ _ _ _ _ _).trans ?_);have hl:=kD (by omega) h1;have g:lL (fun _ _=>none) LL C1 LL u.mf u.me.length (u.me.flatMap bJ) u.cf u.cl.length (br u.cl) u.hf u.ho.length (u.ho.flatMap bN) u.kf u.mr.length (u.mr.flatMap bD) u.sf u.sg.length (br u.sg) u.pf u.pa.length (u.pa.flatMap bM) u.me.length 0 .nil=_:=Ey u.mr u.pa h1 h3 rfl h5 rfl u.me [] LL rfl (by unfold LL;omega);refine g.trans ?_;rw[dX,dX,dX];rfl
end
end Go.Pd
end
