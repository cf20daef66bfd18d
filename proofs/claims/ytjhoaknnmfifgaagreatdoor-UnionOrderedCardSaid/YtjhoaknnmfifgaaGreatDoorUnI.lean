import Derived.Test.YtjhoaknnmfifgaaGreatDoorUnH
import Derived.Test.YtjhoaknnmfifgaaGreatDoorUnG
section
namespace Go.Pd
open Go Go.Proofs Go.RowKit
def hP(l:List eT)(i:Nat):Int:=(l.getD i (0,0)).1
def hS(l:List eT)(i:Nat):Int:=(l.getD i (0,0)).2
theorem xL(l:List eT):ik l.length (l.flatMap bR) (hP l) (hS l):=by
 intro i hi;obtain⟨pre,r,h,rfl⟩:=kQ (zd0 hi);have e:l.getD pre.length (0,0)=l[pre.length]:=by rw[List.getD_eq_getElem?_getD,zd0 hi];rfl
 unfold hP hS;rw[e];generalize l[pre.length]=x at h;subst h;exact⟨nc x r bR 2 (fun _=>rfl) pre 0 (by omega),nc x r bR 2 (fun _=>rfl) pre 1 (by omega)⟩
def sO(l:List eT):Int:=de l.length (hP l) (hS l)
def mz:List ByteArray→List ByteArray→Int
 |_,[]=>0
 |pre,x::r=>bC (dr [bC (!cZ x) 8 0,bC (eh pre x) 9 0] !=0) (dr [bC (!cZ x) 8 0,bC (eh pre x) 9 0]) (mz (pre++[x]) r)
def zF(cl:List ByteArray)(pre:List cw)(x:cw):Int:=dr [bC (!cZ x.1) 8 0,bC (eh (pre.map (·.1)) x.1) 9 0,bC (!eh cl x.2.1) 10 0,bC (nH x.2.2 (-99) 99) 3 0]
def iq(cl:List ByteArray):List cw→List cw→Int
 |_,[]=>0
 |pre,x::r=>bC (zF cl pre x !=0) (zF cl pre x) (iq cl (pre++[x]) r)
def BY(me:List cw)(s:ByteArray):Bool:=me.any fun m=>cN m.1 s
def qd(me:List cw)(n:Nat)(x:bU):Bool:= !BY me x.1||(!BY me x.2.1||nH x.2.2.1 1 (n:Int))
def BZ(pre:List bU)(x:bU):Bool:=pre.any (fS x.1 x.2.2.1 (cN x.2.1 x.1))
def vJ(me:List cw)(n:Nat)(pre:List bU)(x:bU):Int:=dr [bC (qd me n x) 10 0,dN x.2.2.2,bC (BZ pre x) 9 0]
def jd(me:List cw)(n:Nat):List bU→List bU→Int
 |_,[]=>0
 |pre,x::r=>bC (vJ me n pre x !=0) (vJ me n pre x) (jd me n (pre++[x]) r)
def KZ(me:List cw)(n:Nat)(l:List bU)(pre:List ByteArray)(x:ByteArray):Int:=dr [bC (!BY me x) 10 0,bC (eh pre x) 9 0,my l n x]
def sP(me:List cw)(n:Nat)(l:List bU):List ByteArray→List ByteArray→Int
 |_,[]=>0
 |pre,x::r=>bC (KZ me n l pre x !=0) (KZ me n l pre x) (sP me n l (pre++[x]) r)
def EO(pre:List KepV)(k:KepV):Int:=dr [bC (!cZ k.1) 8 0,bC (eh (pre.map (·.1)) k.1) 9 0,sO k.2.1.2,bC (decide ((k.2.2.2.length:Int)>200)) 5 0]
def AS(h:List eT)(c:CrdV):Int:=nD h.length (hP h) (hS h) c.1 c.2.2
def nJ(h:List eT):List CrdV→Int
 |[]=>0
 |c::r=>bC (AS h c !=0) (AS h c) (nJ h r)
def ki:List KepV→List KepV→Int
 |_,[]=>0
 |pre,k::r=>bC (EO pre k !=0) (EO pre k) (bC (nJ k.2.1.2 k.2.2.2 !=0) (nJ k.2.1.2 k.2.2.2) (ki (pre++[k]) r))
theorem ir(s:ByteArray)(l:List ByteArray):(cx (.str s) (bz l) 0=some none∧eh l s=false)∨∃j,cx (.str s) (bz l) 0=some (some j)∧j<l.length∧eh l s=true:=by
 have H:∀(l:List ByteArray) (i:Nat),(cx (.str s) (bz l) i=some none∧eh l s=false)∨∃j,cx (.str s) (bz l) i=some (some (i+j))∧j<l.length∧eh l s=true:=by
  intro l
  induction l with
  |nil=>exact fun i=> .inl ⟨rfl,rfl⟩
  |cons x l ih=>
   intro i;have hk:eI (.str s) (.str x)=some (cN x s):=by
    show some (s==x)=_;rw[beq_toListBytes,nE];rfl
   have e:cx (.str s) (bz (x::l)) i=match some (cN x s) with
    |some true=>some (some i)
    |some false=>cx (.str s) (bz l) (i+1)
    |none=>none:=by
    rw[←hk];rfl
   rw[e];have e2:eh (x::l) s=(cN x s||eh l s):=rfl;rw[e2];cases hs:cN x s with
   |true=>exact .inr ⟨0,rfl,by simp,rfl⟩
   |false=>
    rcases ih (i+1) with⟨h1,h2⟩|⟨j,h1,h2,h3⟩
    ·exact .inl ⟨h1,h2⟩
    ·exact .inr ⟨j+1,by rw[show i+(j+1)=i+1+j by omega];exact h1,by simp;exact h2,h3⟩
 rcases H l 0 with h|⟨j,h1,h2,h3⟩
 ·exact .inl h
 ·exact .inr ⟨j,by rw[Nat.zero_add] at h1;exact h1,h2,h3⟩
theorem qe{s:ByteArray}{l:List ByteArray}{n:Nat}(h:cx (.str s) (bz l) 0=some none):iA (.str s) (.bool true) (bz l) (eS n)=some (bz (l++[s]),eS (n+1)):=by
 unfold iA;rw[h];simp[bz,eS]
def gJ(x:bU):D:= .agg [.str x.1,.int .i64 x.2.2.1,.bool (cN x.2.1 x.1)]
theorem D3(x:bU)(l:List bU):(cx (gJ x) (l.map gJ) 0=some none∧BZ l x=false)∨∃j,cx (gJ x) (l.map gJ) 0=some (some j)∧j<l.length∧BZ l x=true:=by
 have H:∀(l:List bU) (i:Nat),(cx (gJ x) (l.map gJ) i=some none∧BZ l x=false)∨∃j,cx (gJ x) (l.map gJ) i=some (some (i+j))∧j<l.length∧BZ l x=true:=by
  intro l
  induction l with
  |nil=>exact fun i=> .inl ⟨rfl,rfl⟩
  |cons y l ih=>
   intro i;have hk:eI (gJ x) (gJ y)=some (fS x.1 x.2.2.1 (cN x.2.1 x.1) y):=by
    have e:eI (gJ x) (gJ y)=some ((x.1==y.1)&&((x.2.2.1==y.2.2.1)&&((cN x.2.1 x.1==cN y.2.1 y.1)&&true))):=rfl;rw[e,beq_toListBytes];show some (cN x.1 y.1&&_)=_;rw[nE x.1 y.1,Bool.and_true,show(x.2.2.1==y.2.2.1)=(y.2.2.1==x.2.2.1) from Bool.beq_comm ..,show(cN x.2.1 x.1==cN y.2.1 y.1)=(cN y.2.1 y.1==cN x.2.1 x.1) from Bool.beq_comm ..];rfl
   have e:cx (gJ x) ((y::l).map gJ) i=match some (fS x.1 x.2.2.1 (cN x.2.1 x.1) y) with
    |some true=>some (some i)
    |some false=>cx (gJ x) (l.map gJ) (i+1)
    |none=>none:=by
    rw[←hk];rfl
   rw[e];have e2:BZ (y::l) x=(fS x.1 x.2.2.1 (cN x.2.1 x.1) y||BZ l x):=rfl;rw[e2];cases hs:fS x.1 x.2.2.1 (cN x.2.1 x.1) y with
   |true=>exact .inr ⟨0,rfl,by simp,rfl⟩
   |false=>
    rcases ih (i+1) with⟨h1,h2⟩|⟨j,h1,h2,h3⟩
    ·exact .inl ⟨h1,h2⟩
    ·exact .inr ⟨j+1,by rw[show i+(j+1)=i+1+j by omega];exact h1,by simp;exact h2,h3⟩
 rcases H l 0 with h|⟨j,h1,h2,h3⟩
 ·exact .inl h
 ·exact .inr ⟨j,by rw[Nat.zero_add] at h1;exact h1,h2,h3⟩
theorem GI{x:bU}{l:List bU}{n:Nat}(h:cx (gJ x) (l.map gJ) 0=some none):iA (gJ x) (.bool true) (l.map gJ) (eS n)=some ((l++[x]).map gJ,eS (n+1)):=by
 unfold iA;rw[h];simp[eS]
section
variable {γ:Type}
theorem iU{o:Option (Option Nat)}(h:o=some none)(a:Option γ)(c:Nat→Option γ):fa o a c=a:=by rw[h];rfl
theorem fU{o:Option (Option Nat)}{j:Nat}(h:o=some (some j))(a:Option γ)(c:Nat→Option γ):fa o a c=c j:=by rw[h];rfl
theorem lr{o:Option (List D×List D)}{a b:List D}(h:o=some (a,b))(c:List D→List D→Option γ):kj o c=c a b:=by rw[h];rfl
end
theorem GJ(E M:Int):bC (E !=0) (some (D.int .i64 E)) (some (D.int .i64 M))=some (.int .i64 (bC (E !=0) E M)):=by cases E !=0<;>rfl
theorem nK(E M K:Int):bC (E !=0) (some (D.int .i64 E)) (some (D.int .i64 (bC (M !=0) M K)))=some (.int .i64 (bC (bC (E !=0) E M !=0) (bC (E !=0) E M) K)):=by
 cases h:E !=0 with
 |true=>rw[bx,bx,h,bx]
 |false=>rfl
section
variable {f0 f1 f2 f3 f4 f5:Bool}{b0 b1 b2 b3 b4 b5:Nat}{e0 e1 e2 e3 e4 e5:List D}
theorem NH{B:FuncId→List D→Option D}{n:Nat}{H:Int}(cl:List ByteArray)(a111:∀s:OF,B 111 [.str s.1]=some (.bool (cZ s.1)))(a119:∀(b:Bool) (e:Int),B 119 [.bool b,.int .i64 e]=some (.int .i64 (bC b e 0)))
  (a118:∀h:Int,B 118 [.int .i64 h,.int .i64 (-99),.int .i64 99]=some (.bool (nH h (-99) 99))) (a87:∀x y z w:Int,B 87 [.slc true 4 [.int .i64 x,.int .i64 y,.int .i64 z,.int .i64 w]]=some (.int .i64 (dr [x,y,z,w]))) (a109:B 109 [.slc f2 b2 e2]=some (.int .i64 H)):
  ∀(r pre:List cw) (fuel:Nat),(pre++r).length=n→n≤100000→r.length<fuel→(∀x∈r,x.1.size≤1000)→
  j6 B LL C1 fuel f1 n ((pre++r).flatMap bO) f0 b0 e0 f2 b2 e2 f3 b3 e3 f4 b4 e4 f5 b5 e5 (bz cl) (eS cl.length) n (pre.length:Int) (bz (pre.map (·.1))) (eS pre.length)=some (.int .i64 (bC (iq cl pre r !=0) (iq cl pre r) (bC ((b2:Int)==0) 0 H))):=by
 intro r
 induction r with
 |nil=>
  intro pre fuel hn hB hf hs;cases fuel with
  |zero=>exact absurd hf (Nat.not_lt_zero _)
  |succ fuel=>
   subst hn;rw[rF,cz,br,a109,bq,bv,show iq cl pre []=0 from rfl];cases (b2:Int)==0<;>rfl
 |cons x r ih=>
  intro pre fuel hn hB hf hs;cases fuel with
  |zero=>exact absurd hf (Nat.not_lt_zero _)
  |succ fuel=>
   have ih:=ih (pre++[x]) fuel (by rw[cU];exact hn) hB (by simp at hf;omega) (fun y hy=>hs y (za5 _ hy));rw[cU,List.map_append,show List.map (·.1) [x]=[x.1] from rfl,show(pre++[x]).length=pre.length+1 by simp] at ih;subst hn;have a:=a111 ⟨x.1,hs x (za4 ..)⟩;dsimp only at a;rw[rF,cJ,bx,cF,bw,Ki,bA,m1,bA,m2,bv,a,bq,bD,cq pre x r (by omega),show(pre++[x]).length=pre.length+1 by simp];simp only[a119,a118,a87,bq,bv,bD];rw[show iq cl pre (x::r)=bC (zF cl pre x !=0) (zF cl pre x) (iq cl (pre++[x]) r) from rfl];unfold zF;rcases ir x.1 (pre.map (·.1)) with⟨g1,g2⟩|⟨j,g1,g2,g3⟩
   ·rw[iU g1,g2];rcases ir x.2.1 cl with⟨k1,k2⟩|⟨k,k1,k2,k3⟩
    ·rw[iU k1,k2];rw[lr (qe g1),ih];exact nK _ _ _
    ·rw[fU k1,k3,cu (fC _ _ k2),bD];rw[lr (qe g1),ih];exact nK _ _ _
   ·rw[fU g1,g3,cu (fC _ _ (by rw[zc0] at g2;exact g2)),bD];rcases ir x.2.1 cl with⟨k1,k2⟩|⟨k,k1,k2,k3⟩
    ·rw[iU k1,k2];cases cZ x.1<;>rfl
    ·rw[fU k1,k3,cu (fC _ _ k2),bD];cases cZ x.1<;>rfl
theorem NI{B:FuncId→List D→Option D}{n:Nat}{H:Int}(me:List cw)(hm:me.length≤100000)(hms:∀x∈me,x.1.size≤1000)(a111:∀s:OF,B 111 [.str s.1]=some (.bool (cZ s.1)))(a119:∀(b:Bool) (e:Int),B 119 [.bool b,.int .i64 e]=some (.int .i64 (bC b e 0)))
  (a118:∀h:Int,B 118 [.int .i64 h,.int .i64 (-99),.int .i64 99]=some (.bool (nH h (-99) 99))) (a87:∀x y z w:Int,B 87 [.slc true 4 [.int .i64 x,.int .i64 y,.int .i64 z,.int .i64 w]]=some (.int .i64 (dr [x,y,z,w])))
  (a87t:∀x y:Int,B 87 [.slc true 2 [.int .i64 x,.int .i64 y]]=some (.int .i64 (dr [x,y]))) (a109:B 109 [.slc f2 b2 e2]=some (.int .i64 H)):
  ∀(r pre:List ByteArray) (fuel:Nat),(pre++r).length=n→n≤100000→r.length<fuel→(∀x∈r,x.size≤1000)→
  rE B LL C1 fuel f0 n (bz (pre++r)) f1 me.length (me.flatMap bO) f2 b2 e2 f3 b3 e3 f4 b4 e4 f5 b5 e5 n (pre.length:Int) (bz pre) (eS pre.length)=some (.int .i64 (bC (mz pre r !=0) (mz pre r) (bC (iq (pre++r) [] me !=0) (iq (pre++r) [] me) (bC ((b2:Int)==0) 0 H)))):=by
 intro r
 induction r with
 |nil=>
  intro pre fuel hn hB hf hs;cases fuel with
  |zero=>exact absurd hf (Nat.not_lt_zero _)
  |succ fuel=>
   subst hn;have:=NH (f0:=f0) (f1:=f1) (f2:=f2) (f3:=f3) (f4:=f4) (f5:=f5) (b0:=(pre++[]).length) (b2:=b2) (b3:=b3) (b4:=b4) (b5:=b5) (e0:=bz (pre++[])) (e2:=e2) (e3:=e3) (e4:=e4) (e5:=e5) (n:=me.length) pre a111 a119 a118 a87 a109 me [] LL rfl hm (by unfold LL;omega) hms;rw[t7,cz,br];refine this.trans ?_;rw[zb4];rfl
 |cons x r ih=>
  intro pre fuel hn hB hf hs;cases fuel with
  |zero=>exact absurd hf (Nat.not_lt_zero _)
  |succ fuel=>
   have ih:=ih (pre++[x]) fuel (by rw[cU];exact hn) hB (by simp at hf;omega) (fun y hy=>hs y (za5 _ hy));rw[cU] at ih;subst hn;have a:=a111 ⟨x,hs x (za4 ..)⟩;dsimp only at a;rw[t7,cJ,bx,cF,bw,t0,bA,a,bq,bD,cq pre x r (by omega)];simp only[a119,a87t,bq,bv];rw[show mz pre (x::r)=bC (dr [bC (!cZ x) 8 0,bC (eh pre x) 9 0] !=0) (dr [bC (!cZ x) 8 0,bC (eh pre x) 9 0]) (mz (pre++[x]) r) from rfl];rcases ir x pre with⟨g1,g2⟩|⟨j,g1,g2,g3⟩
   ·rw[iU g1,g2,lr (qe g1),show eS (pre.length+1)=eS (pre++[x]).length by rw[za6];rfl,ih];exact nK _ _ _
   ·rw[fU g1,g3,cu (fC _ _ g2),bD];cases cZ x<;>rfl
def GK(cl:List ByteArray)(me:List cw)(ho:List eT):Int:=bC (mz [] cl !=0) (mz [] cl) (bC (iq cl [] me !=0) (iq cl [] me) (bC ((ho.length:Int)==0) 0 (sO ho)))
theorem PT(cl:List ByteArray)(me:List cw)(ho:List eT)(hc:cl.length≤100000)(hm:me.length≤100000)(hcs:∀x∈cl,x.size≤1000)(hms:∀x∈me,x.1.size≤1000):
  ct 86 [.agg [.slc f0 cl.length (bz cl),.slc f1 me.length (me.flatMap bO),.slc f2 ho.length (ho.flatMap bR),.slc f3 b3 e3,.slc f4 b4 e4,.slc f5 b5 e5]] (.int .i64 (GK cl me ho)):=by
 obtain⟨B,hB,hF⟩:=iz [fa111,fa119,fa118,fa87,one 109 [.slc f2 ho.length (ho.flatMap bR)] (.int .i64 (sO ho))] ⟨rV,ip,mw,jz,bN (AN (xL ho)),trivial⟩ rfl;refine ed hB Tryz.func86 (ord:=O0) (N:=OB) (by kernel_rfl) ((J6 _ _ _ _ _ _ _ _ _ _ _ _ _ _ _ _ _ _ _ _ _).trans ?_);exact NI (H:=sO ho) me hm hms hF.1 (fun b e=>hF.2.1 (b,e)) (fun h=>hF.2.2.1 (h,-99,99)) (fun x y z w=>hF.2.2.2.1 ⟨[x,y,z,w],by simp⟩) (fun x y=>hF.2.2.2.1 ⟨[x,y],by simp⟩) (hF.2.2.2.2.1 ()) cl [] LL rfl hc (by unfold LL;omega) hcs
end
end Go.Pd
end
section
namespace Go.Pd
open Go Go.Proofs Go.RowKit
set_option maxRecDepth 100000
def HR(k:FuncId)(u:D)(g:ByteArray→D):Fam:=⟨k,ByteArray,fun s=>[u,.str s],g⟩
theorem iu{k:FuncId}{u:D}{g:ByteArray→D}(h:∀s,ct k [u,.str s] (g s)):(HR k u g).Good:=⟨h,fun i j e=>by
 have e:[u,D.str i]=[u,D.str j]:=e;simp only[zc3,and_true,true_and] at e;rw[show i=j from D.str.inj e]⟩
theorem oH(me:List cw)(s:ByteArray):decide (ix (fun m=>cN m.1 s) me<0)= !BY me s:=Kh _ _
section
variable {f0 f1 f2 f3 f4 f5:Bool}{b0 b1 b2 b3 b4 b5:Nat}{e0 e1 e2 e3 e4 e5:List D}
theorem NJ{B:FuncId→List D→Option D}{n N:Nat}(me:List cw)(l:List bU)
  (a154:∀s,B 154 [.agg [.slc f0 b0 e0,.slc f1 b1 e1,.slc f2 b2 e2,.slc f3 b3 e3,.slc f4 n e4,.slc f5 b5 e5],.str s]=some (.int .i64 (ix (fun m=>cN m.1 s) me)))
  (a94:∀s,B 94 [.agg [.slc f0 b0 e0,.slc f1 b1 e1,.slc f2 b2 e2,.slc f3 b3 e3,.slc f4 n e4,.slc f5 b5 e5],.str s]=some (.int .i64 (my l N s)))
  (a119:∀(b:Bool) (e:Int),B 119 [.bool b,.int .i64 e]=some (.int .i64 (bC b e 0))) (a87:∀x y z:Int,B 87 [.slc true 3 [.int .i64 x,.int .i64 y,.int .i64 z]]=some (.int .i64 (dr [x,y,z])))
  (a155:∀(f:Bool) (l:List ByteArray) (s:ByteArray),l.length≤100000→B 155 [.slc f l.length (bz l),.str s]=some (.bool (eh l s))):
  ∀(r pre:List ByteArray) (fuel:Nat),(pre++r).length=n→e4=bz (pre++r)→n≤100000→r.length<fuel→
  np B LL C1 fuel f4 n (bz (pre++r)) f0 b0 e0 f1 b1 e1 f2 b2 e2 f3 b3 e3 f5 b5 e5 n (pre.length:Int)=some (.int .i64 (sP me N l pre r)):=by
 intro r
 induction r with
 |nil=>
  intro pre fuel hn he hB hf;cases fuel with
  |zero=>exact absurd hf (Nat.not_lt_zero _)
  |succ fuel=>
   subst hn;rw[rH,cz,br];rfl
 |cons x r ih=>
  intro pre fuel hn he hB hf;cases fuel with
  |zero=>exact absurd hf (Nat.not_lt_zero _)
  |succ fuel=>
   have ih:=ih (pre++[x]) fuel (by rw[cU];exact hn) (by rw[cU];exact he) hB (by simp at hf;omega);rw[cU] at ih;subst hn;rw[←he] at ih;rw[rH,cJ,bx,cF,bw,t0,bA,←he,a154,bq,bv,oH,a119,bq,bv,vI,bw,he,oG,a155 _ _ _ (by simp at hB;omega),bq,bD,a119,bq,bv,←he,a94,bq,bv,a87,bq,bv,cq pre x r (by omega),ih];exact GJ (KZ me N l pre x) (sP me N l (pre++[x]) r)
theorem NK{B:FuncId→List D→Option D}{n:Nat}{S:Int}(me:List cw)
  (a153:∀m:bU,B 153 [.agg [.str m.1,.str m.2.1,.int .i64 m.2.2.1,.int .i64 m.2.2.2.1,.str m.2.2.2.2]]=some (.bool (cN m.2.1 m.1)))
  (a154:∀s,B 154 [.agg [.slc f0 b0 e0,.slc f1 b1 e1,.slc f2 b2 e2,.slc f3 n e3,.slc f4 b4 e4,.slc f5 b5 e5],.str s]=some (.int .i64 (ix (fun m=>cN m.1 s) me)))
  (a118:∀h:Int,B 118 [.int .i64 h,.int .i64 1,.int .i64 (b2:Int)]=some (.bool (nH h 1 (b2:Int))))
  (a147:∀x:cM,B 147 [.agg [.int .i64 x.1,.str x.2]]=some (.int .i64 (dN x)))
  (a119:∀(b:Bool) (e:Int),B 119 [.bool b,.int .i64 e]=some (.int .i64 (bC b e 0))) (a87:∀x y z:Int,B 87 [.slc true 3 [.int .i64 x,.int .i64 y,.int .i64 z]]=some (.int .i64 (dr [x,y,z])))
  (hS:np B LL C1 LL f4 b4 e4 f0 b0 e0 f1 b1 e1 f2 b2 e2 f3 n e3 f5 b5 e5 b4 0=some (.int .i64 S)):
  ∀(r pre:List bU) (fuel:Nat),(pre++r).length=n→e3=(pre++r).flatMap bH→n≤100000→r.length<fuel→
  rG B LL C1 fuel f3 n ((pre++r).flatMap bH) f0 b0 e0 f1 b1 e1 f2 b2 e2 f4 b4 e4 f5 b5 e5 n (pre.length:Int) (pre.map gJ) (eS pre.length)=some (.int .i64 (bC (jd me b2 pre r !=0) (jd me b2 pre r) S)):=by
 intro r
 induction r with
 |nil=>
  intro pre fuel hn he hB hf;cases fuel with
  |zero=>exact absurd hf (Nat.not_lt_zero _)
  |succ fuel=>
   subst hn;rw[t8,cz,br,←he];exact hS
 |cons x r ih=>
  intro pre fuel hn he hB hf;cases fuel with
  |zero=>exact absurd hf (Nat.not_lt_zero _)
  |succ fuel=>
   have ih:=ih (pre++[x]) fuel (by rw[cU];exact hn) (by rw[cU];exact he) hB (by simp at hf;omega);rw[cU,show(pre++[x]).length=pre.length+1 by simp] at ih;subst hn;have h14:∀st:Bool,g8 B LL C1 fuel f3 (pre++x::r).length ((pre++x::r).flatMap bH) ((pre++x::r).length:Int) (pre.length:Int) f0 b0 e0 f1 b1 e1 f2 b2 e2 f4 b4 e4 f5 b5 e5 (pre.map gJ) (eS pre.length) st x.1 x.2.1 x.2.2.1 x.2.2.2.1 x.2.2.2.2 x.1 x.2.2.1 (cN x.2.1 x.1)=
     some (.int .i64 (bC (bC (dr [bC st 10 0,dN x.2.2.2,bC (BZ pre x) 9 0] !=0) (dr [bC st 10 0,dN x.2.2.2,bC (BZ pre x) 9 0]) (jd me b2 (pre++[x]) r) !=0) (bC (dr [bC st 10 0,dN x.2.2.2,bC (BZ pre x) 9 0] !=0) (dr [bC st 10 0,dN x.2.2.2,bC (BZ pre x) 9 0]) (jd me b2 (pre++[x]) r)) S)):=fun st=>by
    rw[vC (hC:=c1),a119,bq,bv,a147 x.2.2.2,bq,bv,cq pre x r (by omega),show(pre++[x]).length=pre.length+1 by simp];simp only[a119,a87,bq,bv];rcases D3 x pre with⟨g1,g2⟩|⟨j,g1,g2,g3⟩
    ·rw[show D.agg [D.str x.1,D.int IntKind.i64 x.2.2.1,D.bool (cN x.2.1 x.1)]=gJ x from rfl,iU g1,g2,lr (GI g1),ih];exact nK _ _ _
    ·rw[show D.agg [D.str x.1,D.int IntKind.i64 x.2.2.1,D.bool (cN x.2.1 x.1)]=gJ x from rfl,fU g1,g3,cu (fC _ _ g2),bD];have hne:(dr [bC st 10 0,dN x.2.2.2,bC true 9 0] !=0)=true:=by
      unfold dr;cases st with
      |true=>rfl
      |false=>
       show(dr [dN x.2.2.2,bC true 9 0] !=0)=true;unfold dr;cases h:dN x.2.2.2 !=0 with
       |true=>rw[bx,h]
       |false=>rfl
     rw[hne];show some (D.int .i64 (dr [bC st 10 0,dN x.2.2.2,bC true 9 0]))=some (D.int .i64 (bC (dr [bC st 10 0,dN x.2.2.2,bC true 9 0] !=0) (dr [bC st 10 0,dN x.2.2.2,bC true 9 0]) S));rw[hne];rfl
   have e153:=a153 x;rw[t8,cJ,bx,cF,bw,k0,bA,k1,bA,k2,bv,k3,bv,k4,bA,e153,bq,bD,←he,a154,bq,bv,oH,a154,bq,bv,oH,a118,bq,bD,he,h14,h14];rw[show jd me b2 pre (x::r)=bC (vJ me b2 pre x !=0) (vJ me b2 pre x) (jd me b2 (pre++[x]) r) from rfl];unfold vJ qd;cases BY me x.1<;>cases BY me x.2.1<;>rfl
def GL(me:List cw)(n:Nat)(l:List bU)(sg:List ByteArray):Int:=bC (jd me n [] l !=0) (jd me n [] l) (sP me n l [] sg)
theorem PU(me:List cw)(n:Nat)(l:List bU)(sg:List ByteArray)(hm:me.length≤100000)(hn:n≤100000)(hl:l.length≤100000)(hs:sg.length≤100000):
  ct 88 [.agg [.slc f0 b0 e0,.slc f1 me.length (me.flatMap bO),.slc f2 n e2,.slc f3 l.length (l.flatMap bH),.slc f4 sg.length (bz sg),.slc f5 b5 e5]] (.int .i64 (GL me n l sg)):=by
 obtain⟨B,hB,hF⟩:=iz [fa153,HR 154 (.agg [.slc f0 b0 e0,.slc f1 me.length (me.flatMap bO),.slc f2 n e2,.slc f3 l.length (l.flatMap bH),.slc f4 sg.length (bz sg),.slc f5 b5 e5]) (fun s=> .int .i64 (ix (fun m=>cN m.1 s) me)),fa118,fa147,fa119,fa87,HR 94 (.agg [.slc f0 b0 e0,.slc f1 me.length (me.flatMap bO),.slc f2 n e2,.slc f3 l.length (l.flatMap bH),.slc f4 sg.length (bz sg),.slc f5 b5 e5]) (fun s=> .int .i64 (my l n s)),fa155]
  ⟨rT,iu fun s=>Nv me s hm,mw,zC,ip,jz,iu fun s=>PR l s hn hl,zE,trivial⟩ (by kernel_rfl)
 obtain⟨h1,h2,h3,h4,h5,h6,h7,h8,_⟩:=hF;refine ed hB Tryz.func88 (ord:=MW) (N:=MV) (by kernel_rfl) ((J7 _ _ _ _ _ _ _ _ _ _ _ _ _ _ _ _ _ _ _ _ _).trans ?_);have a87:∀x y z:Int,B 87 [.slc true 3 [.int .i64 x,.int .i64 y,.int .i64 z]]=some (.int .i64 (dr [x,y,z])):=fun x y z=>h6 ⟨[x,y,z],by simp⟩;have hS:=NJ (f0:=f0) (f1:=f1) (f2:=f2) (f3:=f3) (f4:=f4) (f5:=f5) (b0:=b0) (b1:=me.length) (b2:=n) (b3:=l.length) (b5:=b5) (e0:=e0) (e1:=me.flatMap bO) (e2:=e2) (e3:=l.flatMap bH) (e4:=bz sg) (e5:=e5) (n:=sg.length) (N:=n) me l h2 h7 (fun b e=>h5 (b,e)) a87 (fun f l s hl=>h8 (f,⟨l,hl⟩,s)) sg [] LL rfl rfl hs (by unfold LL;omega);exact NK (e3:=l.flatMap bH) me h1 h2 (fun h=>h3 (h,1,(n:Int))) h4 (fun b e=>h5 (b,e)) a87 hS l [] LL rfl rfl hl (by unfold LL;omega)
end
theorem nL{α:Type}{g:α→List D}{w:Nat}(h0:0<w)(hw:∀x,(g x).length=w)(hg:∀x y,g x=g y→x=y):∀{l m:List α},l.flatMap g=m.flatMap g→l=m
 |[],[],_=>rfl
 |[],y::m,h=>by
  have:=congrArg List.length h;simp[hw] at this;omega
 |x::l,[],h=>by
  have:=congrArg List.length h;simp[hw] at this;omega
 |x::l,y::m,h=>by
  rw[List.flatMap_cons,List.flatMap_cons] at h;obtain⟨h1,h2⟩:=List.append_inj h (by rw[hw,hw]);rw[hg x y h1,nL h0 hw hg (l:=l) (m:=m) h2]
theorem D4{x y:cM}(h:cQ x=cQ y):x=y:=by
 obtain⟨a,b⟩:=x;obtain⟨a',b'⟩:=y;simp[cQ] at h;simp[h]
theorem D5{x y:eT}(h:bR x=bR y):x=y:=by
 obtain⟨a,b⟩:=x;obtain⟨a',b'⟩:=y;simp[bR] at h;simp[h]
theorem xM{l m:List cM}(h:l.flatMap cQ=m.flatMap cQ):l=m:=nL (w:=2) (by omega) (fun _=>rfl) (fun _ _=>D4) h
theorem rW{l m:List eT}(h:l.flatMap bR=m.flatMap bR):l=m:=nL (w:=2) (by omega) (fun _=>rfl) (fun _ _=>D5) h
abbrev D6:=Bool×List eT
theorem xN{x y:D6}(h:[D.slc x.1 x.2.length (x.2.flatMap bR)]=[D.slc y.1 y.2.length (y.2.flatMap bR)]):x=y:=by
 obtain⟨a,b⟩:=x;obtain⟨a',b'⟩:=y;simp only[zc3,and_true,D.slc.injEq] at h;obtain⟨h1,_,h2⟩:=h;rw[h1,rW h2]
def fa109:Fam:=⟨109,D6,fun x=>[.slc x.1 x.2.length (x.2.flatMap bR)],fun x=> .int .i64 (sO x.2)⟩
theorem zG:fa109.Good:=⟨fun x=>AN (xL x.2),fun i j h=>by rw[xN h]⟩
def fa83:Fam:=⟨83,D6,fun x=>[.slc x.1 x.2.length (x.2.flatMap bR)],fun x=> .int .i64 (sO x.2)⟩
theorem ul:fa83.Good:=⟨fun x=>Nj (xL x.2),fun i j h=>by rw[xN h]⟩
def CrdV.Fit(c:CrdV):Prop:=c.1.size≤1000∧c.2.2.length≤1000
abbrev GM:={x:D6×CrdV//x.2.Fit}
theorem xO{x y:GM}(h:[D.slc x.1.1.1 x.1.1.2.length (x.1.1.2.flatMap bR),D.agg [D.str x.1.2.1,D.slc x.1.2.2.1 x.1.2.2.2.length (x.1.2.2.2.flatMap cQ)]]=[D.slc y.1.1.1 y.1.1.2.length (y.1.1.2.flatMap bR),D.agg [D.str y.1.2.1,D.slc y.1.2.2.1 y.1.2.2.2.length (y.1.2.2.2.flatMap cQ)]]):x=y:=by
 obtain⟨⟨⟨a,b⟩,c,d,e⟩,hx⟩:=x;obtain⟨⟨⟨a',b'⟩,c',d',e'⟩,hy⟩:=y;simp only[zc3,and_true,D.slc.injEq,D.agg.injEq,D.str.injEq] at h;obtain⟨⟨h1,_,h2⟩,h3,h4,_,h5⟩:=h;obtain rfl:=rW h2;obtain rfl:=xM h5;subst h1 h3 h4;rfl
def fa41:Fam:=⟨41,GM,fun x=>[.slc x.1.1.1 x.1.1.2.length (x.1.1.2.flatMap bR),.agg [.str x.1.2.1,.slc x.1.2.2.1 x.1.2.2.2.length (x.1.2.2.2.flatMap cQ)]],fun x=> .int .i64 (AS x.1.1.2 x.1.2)⟩
theorem B0:fa41.Good:=⟨fun x=>PD (xL x.1.1.2) x.1.2.1 x.1.2.2.2 (by have:=x.2.1;omega) x.2.2,fun i j h=>by rw[xO h]⟩
def fa152:Fam:=⟨152,GM,fun x=>[.slc x.1.1.1 x.1.1.2.length (x.1.1.2.flatMap bR),.agg [.str x.1.2.1,.slc x.1.2.2.1 x.1.2.2.2.length (x.1.2.2.2.flatMap cQ)]],fun x=> .int .i64 (AS x.1.1.2 x.1.2)⟩
theorem zH:fa152.Good:=⟨fun x=>Nk (xL x.1.1.2) x.1.2.1 x.1.2.2.2 x.2.2,fun i j h=>by rw[xO h]⟩
section
variable {γ:Type}(c:D→Option γ)
theorem c0(pre:List CrdV)(x:CrdV)(r:List CrdV):bu ((pre++x::r).flatMap j8) (Int.toNat (pre.length:Int)*2+0) c=c (.str x.1):=db pre x r j8 2 (fun _=>rfl) 0 (by omega) c
theorem PV(pre:List CrdV)(x:CrdV)(r:List CrdV):bu ((pre++x::r).flatMap j8) (Int.toNat (pre.length:Int)*2+1) c=c (.slc x.2.1 x.2.2.length (x.2.2.flatMap cQ)):=db pre x r j8 2 (fun _=>rfl) 1 (by omega) c
theorem p1(pre:List KepV)(x:KepV)(r:List KepV):bu ((pre++x::r).flatMap bV) (Int.toNat (pre.length:Int)*3+1) c=c (.slc x.2.1.1 x.2.1.2.length (x.2.1.2.flatMap bR)):=db pre x r bV 3 (fun _=>rfl) 1 (by omega) c
theorem p2(pre:List KepV)(x:KepV)(r:List KepV):bu ((pre++x::r).flatMap bV) (Int.toNat (pre.length:Int)*3+2) c=c (.slc x.2.2.1 x.2.2.2.length (x.2.2.2.flatMap j8)):=db pre x r bV 3 (fun _=>rfl) 2 (by omega) c
end
def KepV.Fit(k:KepV):Prop:=k.1.size≤1000∧k.2.2.2.length≤100000∧∀c∈k.2.2.2,c.Fit
section
variable {f0 f1 f2 f3 f4 f5:Bool}{b0 b1 b2 b3 b4 b5:Nat}{e0 e1 e2 e3 e4 e5:List D}
theorem NL{B:FuncId→List D→Option D}{n:Nat}{g h0:Bool}{t13 t14:Int}{ks vs:List D}(s:ByteArray)(h:List eT)(fu:Nat)
  (a41:∀c:CrdV,c.Fit→B 41 [.slc h0 h.length (h.flatMap bR),.agg [.str c.1,.slc c.2.1 c.2.2.length (c.2.2.flatMap cQ)]]=some (.int .i64 (AS h c))):
  ∀(r pre:List CrdV) (fuel:Nat),(pre++r).length=n→n≤100000→r.length<fuel→(∀c∈r,c.Fit)→
  ld B LL C1 fu fuel f5 b5 e5 t13 t14 g n ((pre++r).flatMap j8) s h0 h.length (h.flatMap bR) n (pre.length:Int) ks vs=bC (nJ h r !=0) (some (.int .i64 (nJ h r))) (rI B LL C1 fu f5 b5 e5 t13 (IntKind.wrap .i64 (t14+1)) ks vs):=by
 intro r
 induction r with
 |nil=>
  intro pre fuel hn hB hf hs;cases fuel with
  |zero=>exact absurd hf (Nat.not_lt_zero _)
  |succ fuel=>
   subst hn;rw[nt,cz,br];rfl
 |cons x r ih=>
  intro pre fuel hn hB hf hs;cases fuel with
  |zero=>exact absurd hf (Nat.not_lt_zero _)
  |succ fuel=>
   have ih:=ih (pre++[x]) fuel (by rw[cU];exact hn) hB (by simp at hf;omega) (fun c hc=>hs c (za5 _ hc));rw[cU] at ih;subst hn;rw[nt,cJ,bx,cF,bw,c0,bA,PV,bI,a41 x (hs x (za4 ..)),bq,bv,cq pre x r (by omega),ih];show bC (AS h x !=0) _ _=bC (bC (AS h x !=0) (AS h x) (nJ h r) !=0) (some (D.int .i64 (bC (AS h x !=0) (AS h x) (nJ h r)))) _;cases hE:AS h x !=0 with
   |true=>rw[bx,bx,hE,bx]
   |false=>rfl
theorem PW{B:FuncId→List D→Option D}{n:Nat}(a111:∀s:OF,B 111 [.str s.1]=some (.bool (cZ s.1)))(a119:∀(b:Bool) (e:Int),B 119 [.bool b,.int .i64 e]=some (.int .i64 (bC b e 0)))
  (a87:∀x y z w:Int,B 87 [.slc true 4 [.int .i64 x,.int .i64 y,.int .i64 z,.int .i64 w]]=some (.int .i64 (dr [x,y,z,w])))
  (a109:∀x:D6,B 109 [.slc x.1 x.2.length (x.2.flatMap bR)]=some (.int .i64 (sO x.2)))
  (a41:∀x:GM,B 41 [.slc x.1.1.1 x.1.1.2.length (x.1.1.2.flatMap bR),.agg [.str x.1.2.1,.slc x.1.2.2.1 x.1.2.2.2.length (x.1.2.2.2.flatMap cQ)]]=some (.int .i64 (AS x.1.1.2 x.1.2))):
  ∀(r pre:List KepV) (fuel:Nat),(pre++r).length=n→n≤100000→r.length<fuel→(∀k∈r,k.Fit)→
  rI B LL C1 fuel f5 n ((pre++r).flatMap bV) n (pre.length:Int) (bz (pre.map (·.1))) (eS pre.length)=some (.int .i64 (ki pre r)):=by
 intro r
 induction r with
 |nil=>
  intro pre fuel hn hB hf hs;cases fuel with
  |zero=>exact absurd hf (Nat.not_lt_zero _)
  |succ fuel=>
   subst hn;rw[ua,cz,br];rfl
 |cons k r ih=>
  intro pre fuel hn hB hf hs;cases fuel with
  |zero=>exact absurd hf (Nat.not_lt_zero _)
  |succ fuel=>
   have ih:=ih (pre++[k]) fuel (by rw[cU];exact hn) hB (by simp at hf;omega) (fun c hc=>hs c (za5 _ hc));rw[cU,List.map_append,show List.map (·.1) [k]=[k.1] from rfl,show(pre++[k]).length=pre.length+1 by simp] at ih;subst hn;obtain⟨hk1,hk2,hk3⟩:=hs k (za4 ..);have a:=a111 ⟨k.1,hk1⟩;dsimp only at a;have e109:=a109 (k.2.1.1,k.2.1.2);dsimp only at e109;have hca:=NL (B:=B) (n:=k.2.2.2.length) (g:=k.2.2.1) (h0:=k.2.1.1) (f5:=f5) (b5:=(pre++k::r).length) (e5:=(pre++k::r).flatMap bV) (t13:=((pre++k::r).length:Int)) (t14:=(pre.length:Int)) (ks:=bz (pre.map (·.1)++[k.1])) (vs:=eS (pre.length+1)) k.1 k.2.1.2 fuel
    (fun c hc=>a41 ⟨((k.2.1.1,k.2.1.2),c),hc⟩) k.2.2.2 [] LL rfl hk2 (by unfold LL;omega) hk3
   rw[cq pre k r (by omega),show(pre++[k]).length=pre.length+1 by simp,ih] at hca;rw[ua,cJ,bx,cF,bw,p0,bA,p1,bI,p2,bI,a,bq,bD];simp only[a119,a87,e109,bq,bv];rw[show ki pre (k::r)=bC (EO pre k !=0) (EO pre k) (bC (nJ k.2.1.2 k.2.2.2 !=0) (nJ k.2.1.2 k.2.2.2) (ki (pre++[k]) r)) from rfl];unfold EO;rcases ir k.1 (pre.map (·.1)) with⟨g1,g2⟩|⟨j,g1,g2,g3⟩
   ·rw[iU g1,g2,xB (hC:=c1),lr (qe g1)];refine(congrArg (fun z=>bC (dr [bC (!cZ k.1) 8 0,bC false 9 0,sO k.2.1.2,bC (decide ((k.2.2.2.length:Int)>200)) 5 0] !=0) _ z) hca).trans ?_;rw[GJ];exact GJ _ _
   ·rw[fU g1,g3,cu (fC _ _ (by rw[zc0] at g2;exact g2)),bD];cases cZ k.1<;>rfl
theorem PX(l:List KepV)(hl:l.length≤100000)(hs:∀k∈l,k.Fit):ct 89 [.agg [.slc f0 b0 e0,.slc f1 b1 e1,.slc f2 b2 e2,.slc f3 b3 e3,.slc f4 b4 e4,.slc f5 l.length (l.flatMap bV)]] (.int .i64 (ki [] l)):=by
 obtain⟨B,hB,hF⟩:=iz [fa111,fa119,fa87,fa109,fa41] ⟨rV,ip,jz,zG,B0,trivial⟩ (by kernel_rfl);obtain⟨h1,h2,h3,h4,h5,_⟩:=hF;refine ed hB Tryz.func89 (ord:=O0) (N:=MX) (by kernel_rfl) ((J8 _ _ _ _ _ _ _ _ _ _ _ _ _ _ _ _ _ _ _ _ _).trans ?_);exact PW h1 (fun b e=>h2 (b,e)) (fun x y z w=>h3 ⟨[x,y,z,w],by simp⟩) h4 h5 l [] LL rfl hl (by unfold LL;omega) hs
end
def UV.Fit'(u:UV):Prop:=u.Fit∧(∀x∈u.cl,x.size≤1000)∧(∀x∈u.me,x.1.size≤1000)∧∀k∈u.pa,k.Fit
def um(u:UV):Bool:=decide ((u.cl.length:Int)>256)||(decide ((u.me.length:Int)>200)||(decide ((u.mr.length:Int)>1000)||(decide ((u.sg.length:Int)>200)||decide ((u.pa.length:Int)>256))))
def uE(u:UV):Int:=bC (um u) 5 (bC (GK u.cl u.me u.ho !=0) (GK u.cl u.me u.ho) (dr [GL u.me u.ho.length u.mr u.sg,ki [] u.pa]))
theorem NM(u:UV)(hu:u.Fit'):ct 17 [dY u] (.int .i64 (uE u)):=by
 obtain⟨⟨l0,l1,l2,l3,l4,l5⟩,h6,h7,h8⟩:=hu;obtain⟨B,hB,hF⟩:=iz [one 86 [dY u] (.int .i64 (GK u.cl u.me u.ho)),one 88 [dY u] (.int .i64 (GL u.me u.ho.length u.mr u.sg)),one 89 [dY u] (.int .i64 (ki [] u.pa)),fa87]
  ⟨bN (PT u.cl u.me u.ho l0 l1 h6 h7),bN (PU u.me u.ho.length u.mr u.sg l1 l2 l3 l4),bN (PX u.pa l5 h8),jz,trivial⟩ (by kernel_rfl)
 obtain⟨a,b,c,d,_⟩:=hF;have a:B 86 [dY u]=some (.int .i64 (GK u.cl u.me u.ho)):=a ();have b:B 88 [dY u]=some (.int .i64 (GL u.me u.ho.length u.mr u.sg)):=b ();have c:B 89 [dY u]=some (.int .i64 (ki [] u.pa)):=c ();have a87:∀x y:Int,B 87 [.slc true 2 [.int .i64 x,.int .i64 y]]=some (.int .i64 (dr [x,y])):=fun x y=>d ⟨[x,y],by simp⟩;have h7':∀g:Bool,pn B LL C1 u.cf u.cl.length (bz u.cl) u.mf u.me.length (u.me.flatMap bO) u.hf u.ho.length (u.ho.flatMap bR) u.kf u.mr.length (u.mr.flatMap bH) u.sf u.sg.length (bz u.sg) u.pf u.pa.length (u.pa.flatMap bV) g=some (.int .i64 (bC g 5 (bC (GK u.cl u.me u.ho !=0) (GK u.cl u.me u.ho) (dr [GL u.me u.ho.length u.mr u.sg,ki [] u.pa])))):=fun g=>by
  rw[DW (hC:=c1)];unfold dY at a b c;rw[a,bq,bv,b,bq,bv,c,bq,bv,a87,bq,bv,GJ];cases g<;>rfl
 refine ed hB Tryz.func17 (ord:=O0) (N:=PA) (by kernel_rfl) ((J5 _ _ _ _ _ _ _ _ _ _ _ _ _ _ _ _ _ _ _ _ _).trans ?_);rw[h7',h7'];unfold uE um;cases decide ((u.cl.length:Int)>256)<;>cases decide ((u.me.length:Int)>200)<;>cases decide ((u.mr.length:Int)>1000)<;>cases decide ((u.sg.length:Int)>200)<;>rfl
theorem xP{α:Type}(p:α→Bool)(x:α)(hx:p x=true)(r:List α):∀(pre:List α) (i:Nat),decide (jx p (pre++x::r) i<((i+pre.length:Nat):Int))=pre.any p
 |[],i=>by
  rw[zb5,show jx p (x::r) i=bC (p x) (i:Int) (jx p r (i+1)) from rfl,hx,bx];simp
 |y::pre,i=>by
  rw[List.cons_append,show jx p (y::(pre++x::r)) i=bC (p y) (i:Int) (jx p (pre++x::r) (i+1)) from rfl];have ih:=xP p x hx r pre (i+1);rw[show i+1+pre.length=i+(y::pre).length by simp;omega] at ih;cases hy:p y with
  |true=>
   rw[bx];simp[hy];omega
  |false=>
   rw[br,ih];simp[hy]
theorem D7{α:Type}(p:α→Bool)(pre:List α)(x:α)(r:List α)(hx:p x=true):decide (ix p (pre++x::r)<(pre.length:Int))=pre.any p:=by
 have:=xP p x hx r pre 0;rw[Nat.zero_add] at this;exact this
theorem rX(s:ByteArray):cN s s=true:=sEq_iff.2 rfl
theorem xQ(l:List cw)(s:ByteArray):(l.any fun m=>cN m.1 s)=eh (l.map (·.1)) s:=by
 unfold eh;rw[List.any_map];rfl
theorem vK(l:List KepV)(s:ByteArray):(l.any fun m=>cN m.1 s)=eh (l.map (·.1)) s:=by
 unfold eh;rw[List.any_map];rfl
theorem GN{α:Type}{a a':List α}{x x':α}{r r':List α}(h:a++x::r=a'++x'::r')(hl:a.length=a'.length):a=a'∧x=x'∧r=r':=by
 obtain⟨h1,h2⟩:=List.append_inj h hl;simp at h2;exact⟨h1,h2.1,h2.2⟩
abbrev At(α:Type)(l:List α):={y:List α×α×List α//l=y.1++y.2.1::y.2.2}
def GO{α:Type}(k:FuncId)(u:D)(l:List α)(g:List α→α→Int):Fam:=⟨k,At α l,fun y=>[u,.int .i64 (y.1.1.length:Int)],fun y=> .int .i64 (g y.1.1 y.1.2.1)⟩
theorem oI{α:Type}{k:FuncId}{u:D}{l:List α}{g:List α→α→Int}(h:∀pre x r,l=pre++x::r→ct k [u,.int .i64 (pre.length:Int)] (.int .i64 (g pre x))):(GO k u l g).Good:=by
 refine⟨fun y=>h _ _ _ y.2,fun i j e=> ?_⟩;have e:[u,D.int .i64 (i.1.1.length:Int)]=[u,D.int .i64 (j.1.1.length:Int)]:=e;simp only[zc3,and_true,true_and,D.int.injEq] at e;obtain⟨h1,h2,h3⟩:=GN (i.2.symm.trans j.2) (by omega);show D.int .i64 (g i.1.1 i.1.2.1)=D.int .i64 (g j.1.1 j.1.2.1);rw[h1,h2]
section
variable {f0 f1 f2 f3 f4 f5:Bool}{b0 b1 b2 b3 b4 b5:Nat}{e0 e1 e2 e3 e4 e5:List D}
theorem PY(cl:List ByteArray)(pre:List cw)(x:cw)(r:List cw)(hc:cl.length≤100000)(hm:(pre++x::r).length≤100000):
  ct 82 [.agg [.slc f0 cl.length (bz cl),.slc f1 (pre++x::r).length ((pre++x::r).flatMap bO),.slc f2 b2 e2,.slc f3 b3 e3,.slc f4 b4 e4,.slc f5 b5 e5],.int .i64 (pre.length:Int)] (.int .i64 (zF cl pre x)):=by
 obtain⟨B,hB,hF⟩:=iz [fa80,HR 23 (.agg [.slc f0 cl.length (bz cl),.slc f1 (pre++x::r).length ((pre++x::r).flatMap bO),.slc f2 b2 e2,.slc f3 b3 e3,.slc f4 b4 e4,.slc f5 b5 e5]) (fun s=> .int .i64 (ix (fun m=>cN m.1 s) (pre++x::r))),fa81] ⟨oF,iu fun s=>GH _ s hm,uk,trivial⟩ (by kernel_rfl);obtain⟨h1,h2,h3,_⟩:=hF;have a80:∀s,B 80 [.str s]=some (.bool (cZ s)):=h1;have a23:∀s,B 23 [.agg [.slc f0 cl.length (bz cl),.slc f1 (pre++x::r).length ((pre++x::r).flatMap bO),.slc f2 b2 e2,.slc f3 b3 e3,.slc f4 b4 e4,.slc f5 b5 e5],.str s]=some (.int .i64 (ix (fun m=>cN m.1 s) (pre++x::r))):=h2;have a81:B 81 [.slc f0 cl.length (bz cl),.str x.2.1]=some (.bool (eh cl x.2.1)):=h3 (f0,⟨cl,hc⟩,x.2.1);refine ed hB Tryz.func82 (ord:=O0) (N:=N0) (by kernel_rfl) ((Ka _ _ _ _ _ _ _ _ _ _ _ _ _ _ _ _ _ _ _ _ _ _).trans ?_);rw[cF,bw,Ki,bA,m1,bA,m2,bv,a80,bq,bD,a23,bq,bv,D7 _ pre x r (rX x.1),xQ,a81,bq,bD];unfold zF nH;cases cZ x.1 with
 |false=>rfl
 |true=>
  cases eh (pre.map (·.1)) x.1 with
  |true=>rfl
  |false=>
   cases eh cl x.2.1 with
   |false=>rfl
   |true=>cases decide (x.2.2< -99)<;>cases decide (x.2.2>99)<;>rfl
theorem PZ(me:List cw)(n:Nat)(pre:List bU)(x:bU)(r:List bU)(hm:me.length≤100000)(hl:(pre++x::r).length≤100000):
  ct 84 [.agg [.slc f0 b0 e0,.slc f1 me.length (me.flatMap bO),.slc f2 n e2,.slc f3 (pre++x::r).length ((pre++x::r).flatMap bH),.slc f4 b4 e4,.slc f5 b5 e5],.int .i64 (pre.length:Int)] (.int .i64 (vJ me n pre x)):=by
 obtain⟨B,hB,hF⟩:=iz [HR 23 (.agg [.slc f0 b0 e0,.slc f1 me.length (me.flatMap bO),.slc f2 n e2,.slc f3 (pre++x::r).length ((pre++x::r).flatMap bH),.slc f4 b4 e4,.slc f5 b5 e5]) (fun s=> .int .i64 (ix (fun m=>cN m.1 s) me)),fa145,
   one 95 [.agg [.slc f0 b0 e0,.slc f1 me.length (me.flatMap bO),.slc f2 n e2,.slc f3 (pre++x::r).length ((pre++x::r).flatMap bH),.slc f4 b4 e4,.slc f5 b5 e5],.str x.1,.int .i64 x.2.2.1,.bool (cN x.2.1 x.1)] (.int .i64 (ix (fS x.1 x.2.2.1 (cN x.2.1 x.1)) (pre++x::r)))]
  ⟨iu fun s=>GH _ s hm,zD,bN (Nn _ x.1 x.2.2.1 (cN x.2.1 x.1) hl),trivial⟩ (by kernel_rfl)
 obtain⟨h1,h2,h3,_⟩:=hF;have a23:∀s,B 23 [.agg [.slc f0 b0 e0,.slc f1 me.length (me.flatMap bO),.slc f2 n e2,.slc f3 (pre++x::r).length ((pre++x::r).flatMap bH),.slc f4 b4 e4,.slc f5 b5 e5],.str s]=some (.int .i64 (ix (fun m=>cN m.1 s) me)):=h1;have a145:B 145 [.agg [.int .i64 x.2.2.2.1,.str x.2.2.2.2]]=some (.int .i64 (dN x.2.2.2)):=h2 x.2.2.2;have a95:B 95 [.agg [.slc f0 b0 e0,.slc f1 me.length (me.flatMap bO),.slc f2 n e2,.slc f3 (pre++x::r).length ((pre++x::r).flatMap bH),.slc f4 b4 e4,.slc f5 b5 e5],.str x.1,.int .i64 x.2.2.1,.bool (ByteArray.toList x.2.1==ByteArray.toList x.1)]=some (.int .i64 (ix (fS x.1 x.2.2.1 (cN x.2.1 x.1)) (pre++x::r))):=h3 ();refine ed hB Tryz.func84 (ord:=O0) (N:=PB) (by kernel_rfl) ((Kb _ _ _ _ _ _ _ _ _ _ _ _ _ _ _ _ _ _ _ _ _ _).trans ?_);have hx:fS x.1 x.2.2.1 (cN x.2.1 x.1) x=true:=by
  unfold fS;rw[rX,show(x.2.2.1==x.2.2.1)=true by simp,show(cN x.2.1 x.1==cN x.2.1 x.1)=true by simp];rfl
 rw[cF,bw,k0,bA,k1,bA,k2,bv,k3,bv,k4,bA,a23,bq,bv,oH,a23,bq,bv,oH,BS (hC:=c1),a145,bq,bv,a95,bq,bv,D7 _ pre x r hx];show bC (!BY me x.1) _ _=_;unfold vJ qd nH;have ht:BZ pre x=pre.any (fS x.1 x.2.2.1 (cN x.2.1 x.1)):=rfl;rw[ht];cases BY me x.1 with
 |false=>rfl
 |true=>
  cases BY me x.2.1 with
  |false=>rfl
  |true=>
   cases decide (x.2.2.1<1) with
   |true=>rfl
   |false=>
    cases decide (x.2.2.1>(n:Int)) with
    |true=>rfl
    |false=>
     show bC (dN x.2.2.2==0) _ _=some (D.int .i64 (dr [dN x.2.2.2,_]));unfold dr;cases h:dN x.2.2.2==0 with
     |false=>
      have:(dN x.2.2.2 !=0)=true:=by unfold bne;rw[h];rfl
      rw[this];rfl
     |true=>
      have h0:dN x.2.2.2=0:=by simpa using h
      rw[h0];cases pre.any (fS x.1 x.2.2.1 (cN x.2.1 x.1))<;>rfl
def HS(pre:List KepV)(k:KepV):Int:=bC (EO pre k !=0) (EO pre k) (nJ k.2.1.2 k.2.2.2)
theorem P0{B:FuncId→List D→Option D}{n:Nat}{g h0:Bool}(s:ByteArray)(h:List eT)
  (a152:∀c:CrdV,c.Fit→B 152 [.slc h0 h.length (h.flatMap bR),.agg [.str c.1,.slc c.2.1 c.2.2.length (c.2.2.flatMap cQ)]]=some (.int .i64 (AS h c))):
  ∀(r pre:List CrdV) (fuel:Nat) (e:Int),(pre++r).length=n→n≤100000→r.length<fuel→(∀c∈r,c.Fit)→
  nv B LL C1 fuel s h0 h.length (h.flatMap bR) g n ((pre++r).flatMap j8) e (pre.length:Int)=some (.int .i64 (bC (e !=0) e (nJ h r))):=by
 intro r
 induction r with
 |nil=>
  intro pre fuel e hn hB hf hs;cases fuel with
  |zero=>exact absurd hf (Nat.not_lt_zero _)
  |succ fuel=>
   subst hn;rw[pu,cz,br];cases h:e !=0 with
   |true=>rfl
   |false=>
    have:e=0:=by simpa using h
    rw[this];rfl
 |cons x r ih=>
  intro pre fuel e hn hB hf hs;cases fuel with
  |zero=>exact absurd hf (Nat.not_lt_zero _)
  |succ fuel=>
   have ih:=ih (pre++[x]) fuel (AS h x) (by rw[cU];exact hn) hB (by simp at hf;omega) (fun c hc=>hs c (za5 _ hc));rw[cU] at ih;subst hn;rw[pu,cJ,bx,cF,bw,c0,bA,PV,bI,a152 x (hs x (za4 ..)),bq,bv,cq pre x r (by omega),ih];cases h:e==0 with
   |true=>
    have:e=0:=by simpa using h
    rw[this];rfl
   |false=>
    have:(e !=0)=true:=by unfold bne;rw[h];rfl
    rw[this];rfl
theorem P1(pre:List KepV)(k:KepV)(r:List KepV)(hl:(pre++k::r).length≤100000)(hk:k.Fit):
  ct 85 [.agg [.slc f0 b0 e0,.slc f1 b1 e1,.slc f2 b2 e2,.slc f3 b3 e3,.slc f4 b4 e4,.slc f5 (pre++k::r).length ((pre++k::r).flatMap bV)],.int .i64 (pre.length:Int)] (.int .i64 (HS pre k)):=by
 obtain⟨B,hB,hF⟩:=iz [fa80,HR 151 (.agg [.slc f0 b0 e0,.slc f1 b1 e1,.slc f2 b2 e2,.slc f3 b3 e3,.slc f4 b4 e4,.slc f5 (pre++k::r).length ((pre++k::r).flatMap bV)]) (fun s=> .int .i64 (ix (fun m=>cN m.1 s) (pre++k::r))),fa83,fa152] ⟨oF,iu fun s=>Nm _ s hl,ul,zH,trivial⟩ (by kernel_rfl);obtain⟨h1,h2,h3,h4,_⟩:=hF;have a80:∀s,B 80 [.str s]=some (.bool (cZ s)):=h1;have a151:∀s,B 151 [.agg [.slc f0 b0 e0,.slc f1 b1 e1,.slc f2 b2 e2,.slc f3 b3 e3,.slc f4 b4 e4,.slc f5 (pre++k::r).length ((pre++k::r).flatMap bV)],.str s]=some (.int .i64 (ix (fun m=>cN m.1 s) (pre++k::r))):=h2;have a83:B 83 [.slc k.2.1.1 k.2.1.2.length (k.2.1.2.flatMap bR)]=some (.int .i64 (sO k.2.1.2)):=h3 k.2.1;have h127:∀e:Int,lh B LL C1 e k.1 k.2.1.1 k.2.1.2.length (k.2.1.2.flatMap bR) k.2.2.1 k.2.2.2.length (k.2.2.2.flatMap j8)=some (.int .i64 (bC (e !=0) e (nJ k.2.1.2 k.2.2.2))):=fun e=>by
  rw[zr (hC:=c1)];exact P0 k.1 k.2.1.2 (fun c hc=>h4 ⟨(k.2.1,c),hc⟩) k.2.2.2 [] LL e rfl hk.2.1 (by have:=hk.2.1;unfold LL;omega) hk.2.2
 refine ed hB Tryz.func85 (ord:=O0) (N:=OC) (by kernel_rfl) ((Kc _ _ _ _ _ _ _ _ _ _ _ _ _ _ _ _ _ _ _ _ _ _).trans ?_);rw[cF,bw,p0,bA,p1,bI,p2,bI,a80,bq,bD,a151,bq,bv,D7 _ pre k r (rX k.1),vK,a83,bq,bv,h127,h127];unfold HS EO;cases cZ k.1 with
 |false=>rfl
 |true=>
  cases eh (pre.map (·.1)) k.1 with
  |true=>rfl
  |false=>
   show bC (sO k.2.1.2==0) _ _=some (D.int .i64 (bC (dr [sO k.2.1.2,_] !=0) (dr [sO k.2.1.2,_]) _));unfold dr;cases h:sO k.2.1.2==0 with
   |false=>
    have:(sO k.2.1.2 !=0)=true:=by unfold bne;rw[h];rfl
    simp only[this,bx,br]
   |true=>
    have h0:sO k.2.1.2=0:=by simpa using h
    rw[h0];cases decide ((k.2.2.2.length:Int)>200)<;>rfl
end
theorem gE(a b c:Int):bC (bC (a !=0) a b !=0) (bC (a !=0) a b) c=bC (a !=0) a (bC (b !=0) b c):=by
 cases h:a !=0 with
 |true=>rw[bx,h,bx,bx]
 |false=>rfl
theorem rY(a:Int):bC (a !=0) a 0=a:=by
 cases h:a !=0 with
 |true=>rfl
 |false=>
  have:a=0:=by simpa using h
  rw[this];rfl
theorem rZ(a:Int):(a==0)= !(a !=0):=by cases h:a==0<;>simp[bne,h]
section
variable (u:UV){B:FuncId→List D→Option D}
theorem Kp(hl:u.pa.length≤100000)(a85:∀pre k r,u.pa=pre++k::r→B 85 [.agg [.slc u.cf u.cl.length (bz u.cl),.slc u.mf u.me.length (u.me.flatMap bO),.slc u.hf u.ho.length (u.ho.flatMap bR),.slc u.kf u.mr.length (u.mr.flatMap bH),.slc u.sf u.sg.length (bz u.sg),.slc u.pf u.pa.length (u.pa.flatMap bV)],.int .i64 (pre.length:Int)]=some (.int .i64 (HS pre k))):
  ∀(r pre:List KepV) (fuel:Nat) (e:Int),u.pa=pre++r→r.length<fuel→jv B LL C1 fuel u.cf u.cl.length (bz u.cl) u.mf u.me.length (u.me.flatMap bO) u.hf u.ho.length (u.ho.flatMap bR) u.kf u.mr.length (u.mr.flatMap bH) u.sf u.sg.length (bz u.sg) u.pf u.pa.length (u.pa.flatMap bV) e (pre.length:Int)=some (.int .i64 (bC (e !=0) e (ki pre r))):=by
 intro r
 induction r with
 |nil=>
  intro pre fuel e hn hf;cases fuel with
  |zero=>exact absurd hf (Nat.not_lt_zero _)
  |succ fuel=>
   rw[pp,show decide ((pre.length:Int)<(u.pa.length:Int))=false by rw[hn];exact cz pre,br,show ki pre []=0 from rfl,rY]
 |cons k r ih=>
  intro pre fuel e hn hf;cases fuel with
  |zero=>exact absurd hf (Nat.not_lt_zero _)
  |succ fuel=>
   have ih:=ih (pre++[k]) fuel (HS pre k) (by rw[cU];exact hn) (by simp at hf;omega);rw[pp,show decide ((pre.length:Int)<(u.pa.length:Int))=true by rw[hn];exact cJ pre k r,bx,a85 pre k r hn,bq,bv,cq pre k r (by rw[←hn];omega),ih,rZ];rw[show ki pre (k::r)=bC (EO pre k !=0) (EO pre k) (bC (nJ k.2.1.2 k.2.2.2 !=0) (nJ k.2.1.2 k.2.2.2) (ki (pre++[k]) r)) from rfl];unfold HS;rw[gE];cases e !=0<;>rfl
theorem Kq(hl:u.sg.length≤100000)(hp:u.pa.length≤100000)(a85:∀pre k r,u.pa=pre++k::r→B 85 [.agg [.slc u.cf u.cl.length (bz u.cl),.slc u.mf u.me.length (u.me.flatMap bO),.slc u.hf u.ho.length (u.ho.flatMap bR),.slc u.kf u.mr.length (u.mr.flatMap bH),.slc u.sf u.sg.length (bz u.sg),.slc u.pf u.pa.length (u.pa.flatMap bV)],.int .i64 (pre.length:Int)]=some (.int .i64 (HS pre k)))
  (a23:∀s,B 23 [.agg [.slc u.cf u.cl.length (bz u.cl),.slc u.mf u.me.length (u.me.flatMap bO),.slc u.hf u.ho.length (u.ho.flatMap bR),.slc u.kf u.mr.length (u.mr.flatMap bH),.slc u.sf u.sg.length (bz u.sg),.slc u.pf u.pa.length (u.pa.flatMap bV)],.str s]=some (.int .i64 (ix (fun m:cw=>cN m.1 s) u.me))) (a29:∀s,B 29 [.agg [.slc u.cf u.cl.length (bz u.cl),.slc u.mf u.me.length (u.me.flatMap bO),.slc u.hf u.ho.length (u.ho.flatMap bR),.slc u.kf u.mr.length (u.mr.flatMap bH),.slc u.sf u.sg.length (bz u.sg),.slc u.pf u.pa.length (u.pa.flatMap bV)],.str s]=some (.int .i64 (my u.mr u.ho.length s))) (a81:∀x:BX,B 81 [.slc x.1 x.2.1.1.length (bz x.2.1.1),.str x.2.2]=some (.bool (eh x.2.1.1 x.2.2))):
  ∀(r pre:List ByteArray) (fuel:Nat) (e:Int),u.sg=pre++r→r.length<fuel→fR B LL C1 fuel u.cf u.cl.length (bz u.cl) u.mf u.me.length (u.me.flatMap bO) u.hf u.ho.length (u.ho.flatMap bR) u.kf u.mr.length (u.mr.flatMap bH) u.sf u.sg.length (bz u.sg) u.pf u.pa.length (u.pa.flatMap bV) e (pre.length:Int)=some (.int .i64 (bC (e !=0) e (bC (sP u.me u.ho.length u.mr pre r !=0) (sP u.me u.ho.length u.mr pre r) (ki [] u.pa)))):=by
 have hE:∀e,jv B LL C1 LL u.cf u.cl.length (bz u.cl) u.mf u.me.length (u.me.flatMap bO) u.hf u.ho.length (u.ho.flatMap bR) u.kf u.mr.length (u.mr.flatMap bH) u.sf u.sg.length (bz u.sg) u.pf u.pa.length (u.pa.flatMap bV) e 0=some (.int .i64 (bC (e !=0) e (ki [] u.pa))):=fun e=>Kp u hp a85 u.pa [] LL e rfl (by unfold LL;omega);intro r
 induction r with
 |nil=>
  intro pre fuel e hn hf;cases fuel with
  |zero=>exact absurd hf (Nat.not_lt_zero _)
  |succ fuel=>
   rw[pq,show decide ((pre.length:Int)<(u.sg.length:Int))=false by rw[hn];exact cz pre,br,hE];rfl
 |cons x r ih=>
  intro pre fuel e hn hf;cases fuel with
  |zero=>exact absurd hf (Nat.not_lt_zero _)
  |succ fuel=>
   have ih:=fun e=>ih (pre++[x]) fuel e (by rw[cU];exact hn) (by simp at hf;omega);have cel:∀{γ:Type} (c:D→Option γ),bu (bz u.sg) (Int.toNat (pre.length:Int)*1) c=c (.str x):=fun c=>by rw[hn];exact t0 c pre x r
   have htk:D.slc (u.sf&&decide ((pre.length:Int)=(u.sg.length:Int))) (Int.toNat ((pre.length:Int)-(0:Int))) (List.take (Int.toNat ((pre.length:Int)-(0:Int))*1) (bz u.sg))= .slc false pre.length (bz pre):=by rw[hn];exact oG pre x r u.sf
   have h81:B 81 [.slc false pre.length (bz pre),.str x]=some (.bool (eh pre x)):=a81 (false,⟨pre,by rw[hn] at hl;simp at hl;omega⟩,x);have hi:decide ((0:Int)≤(pre.length:Int)∧(pre.length:Int)<(u.sg.length:Int))=true:=by rw[hn];exact cF pre x r
   rw[pq,show decide ((pre.length:Int)<(u.sg.length:Int))=true by rw[hn];exact cJ pre x r,bx,hE,xC (hC:=c1),hi,bw,cel,bA,a23,bq,bv,oH,show decide ((0:Int)≤(0:Int)∧(0:Int)≤(pre.length:Int)∧(pre.length:Int)≤(u.sg.length:Int))=true by rw[hn];exact vI pre x r,bw,bw,cel,bA,htk,h81,bq,bD,bw,cel,bA,a29,bq,bv,cq pre x r (by rw[←hn];omega),ih,ih,ih,rZ];rw[show sP u.me u.ho.length u.mr pre (x::r)=bC (KZ u.me u.ho.length u.mr pre x !=0) (KZ u.me u.ho.length u.mr pre x) (sP u.me u.ho.length u.mr (pre++[x]) r) from rfl,gE];unfold KZ;cases h:e !=0 with
   |true=>rfl
   |false=>
    cases BY u.me x with
    |false=>rfl
    |true=>
     cases eh pre x with
     |true=>rfl
     |false=>
      show some (D.int .i64 (bC (my u.mr u.ho.length x !=0) _ _))=some (D.int .i64 (bC (bC (my u.mr u.ho.length x !=0) (my u.mr u.ho.length x) 0 !=0) (bC (my u.mr u.ho.length x !=0) (my u.mr u.ho.length x) 0) _));rw[rY]
def sE:Int:=bC (sP u.me u.ho.length u.mr [] u.sg !=0) (sP u.me u.ho.length u.mr [] u.sg) (ki [] u.pa)
def mE:Int:=bC (jd u.me u.ho.length [] u.mr !=0) (jd u.me u.ho.length [] u.mr) (sE u)
theorem Ks(hl:u.mr.length≤100000)(a84:∀pre x r,u.mr=pre++x::r→B 84 [.agg [.slc u.cf u.cl.length (bz u.cl),.slc u.mf u.me.length (u.me.flatMap bO),.slc u.hf u.ho.length (u.ho.flatMap bR),.slc u.kf u.mr.length (u.mr.flatMap bH),.slc u.sf u.sg.length (bz u.sg),.slc u.pf u.pa.length (u.pa.flatMap bV)],.int .i64 (pre.length:Int)]=some (.int .i64 (vJ u.me u.ho.length pre x)))
  (hE:∀e,fR B LL C1 LL u.cf u.cl.length (bz u.cl) u.mf u.me.length (u.me.flatMap bO) u.hf u.ho.length (u.ho.flatMap bR) u.kf u.mr.length (u.mr.flatMap bH) u.sf u.sg.length (bz u.sg) u.pf u.pa.length (u.pa.flatMap bV) e 0=some (.int .i64 (bC (e !=0) e (sE u)))):
  ∀(r pre:List bU) (fuel:Nat) (e:Int),u.mr=pre++r→r.length<fuel→nu B LL C1 fuel u.cf u.cl.length (bz u.cl) u.mf u.me.length (u.me.flatMap bO) u.hf u.ho.length (u.ho.flatMap bR) u.kf u.mr.length (u.mr.flatMap bH) u.sf u.sg.length (bz u.sg) u.pf u.pa.length (u.pa.flatMap bV) e (pre.length:Int)=some (.int .i64 (bC (e !=0) e (bC (jd u.me u.ho.length pre r !=0) (jd u.me u.ho.length pre r) (sE u)))):=by
 intro r
 induction r with
 |nil=>
  intro pre fuel e hn hf;cases fuel with
  |zero=>exact absurd hf (Nat.not_lt_zero _)
  |succ fuel=>
   rw[pt,show decide ((pre.length:Int)<(u.mr.length:Int))=false by rw[hn];exact cz pre,br,hE];rfl
 |cons x r ih=>
  intro pre fuel e hn hf;cases fuel with
  |zero=>exact absurd hf (Nat.not_lt_zero _)
  |succ fuel=>
   have ih:=fun e=>ih (pre++[x]) fuel e (by rw[cU];exact hn) (by simp at hf;omega);rw[pt,show decide ((pre.length:Int)<(u.mr.length:Int))=true by rw[hn];exact cJ pre x r,bx,a84 pre x r hn,bq,bv,cq pre x r (by rw[←hn];omega),ih,hE,rZ];rw[show jd u.me u.ho.length pre (x::r)=bC (vJ u.me u.ho.length pre x !=0) (vJ u.me u.ho.length pre x) (jd u.me u.ho.length (pre++[x]) r) from rfl,gE];cases h:e !=0 with
   |true=>rfl
   |false=>rfl
def D8:Int:=bC ((u.ho.length:Int)==0) 0 (sO u.ho)
theorem NN(hl:u.me.length≤100000)(a82:∀pre x r,u.me=pre++x::r→B 82 [.agg [.slc u.cf u.cl.length (bz u.cl),.slc u.mf u.me.length (u.me.flatMap bO),.slc u.hf u.ho.length (u.ho.flatMap bR),.slc u.kf u.mr.length (u.mr.flatMap bH),.slc u.sf u.sg.length (bz u.sg),.slc u.pf u.pa.length (u.pa.flatMap bV)],.int .i64 (pre.length:Int)]=some (.int .i64 (zF u.cl pre x)))(a83:B 83 [.slc u.hf u.ho.length (u.ho.flatMap bR)]=some (.int .i64 (sO u.ho)))
  (hE:∀e,gr B LL C1 u.cf u.cl.length (bz u.cl) u.mf u.me.length (u.me.flatMap bO) u.hf u.ho.length (u.ho.flatMap bR) u.kf u.mr.length (u.mr.flatMap bH) u.sf u.sg.length (bz u.sg) u.pf u.pa.length (u.pa.flatMap bV) e=some (.int .i64 (bC (e !=0) e (mE u)))):
  ∀(r pre:List cw) (fuel:Nat) (e:Int),u.me=pre++r→r.length<fuel→lg B LL C1 fuel u.cf u.cl.length (bz u.cl) u.mf u.me.length (u.me.flatMap bO) u.hf u.ho.length (u.ho.flatMap bR) u.kf u.mr.length (u.mr.flatMap bH) u.sf u.sg.length (bz u.sg) u.pf u.pa.length (u.pa.flatMap bV) e (pre.length:Int)=some (.int .i64 (bC (e !=0) e (bC (iq u.cl pre r !=0) (iq u.cl pre r) (bC (D8 u !=0) (D8 u) (mE u))))):=by
 have h0:decide ((u.ho.length:Int)>0)= !((u.ho.length:Int)==0):=by
  by_cases h:u.ho.length=0
  ·rw[h];rfl
  ·have h1:decide ((u.ho.length:Int)>0)=true:=by simp;omega
   have h2:((u.ho.length:Int)==0)=false:=beq_eq_false_iff_ne.2 (by omega);rw[h1,h2];rfl
 intro r
 induction r with
 |nil=>
  intro pre fuel e hn hf;cases fuel with
  |zero=>exact absurd hf (Nat.not_lt_zero _)
  |succ fuel=>
   rw[rK,show decide ((pre.length:Int)<(u.me.length:Int))=false by rw[hn];exact cz pre,br,a83,bq,bv,hE,hE,rZ,h0];unfold D8;cases h:e !=0 with
   |true=>rfl
   |false=>
    have he:e=0:=by simpa using h
    subst he;cases (u.ho.length:Int)==0<;>rfl
 |cons x r ih=>
  intro pre fuel e hn hf;cases fuel with
  |zero=>exact absurd hf (Nat.not_lt_zero _)
  |succ fuel=>
   have ih:=fun e=>ih (pre++[x]) fuel e (by rw[cU];exact hn) (by simp at hf;omega);rw[rK,show decide ((pre.length:Int)<(u.me.length:Int))=true by rw[hn];exact cJ pre x r,bx,a82 pre x r hn,bq,bv,cq pre x r (by rw[←hn];omega),ih,hE,a83,bq,bv,hE,rZ];rw[show iq u.cl pre (x::r)=bC (zF u.cl pre x !=0) (zF u.cl pre x) (iq u.cl (pre++[x]) r) from rfl,gE];cases h:e !=0 with
   |true=>rfl
   |false=>rfl
theorem NO(hl:u.cl.length≤100000)(a80:∀s,B 80 [.str s]=some (.bool (cZ s)))(a81:∀x:BX,B 81 [.slc x.1 x.2.1.1.length (bz x.2.1.1),.str x.2.2]=some (.bool (eh x.2.1.1 x.2.2))){M:Int}
  (hE:lg B LL C1 LL u.cf u.cl.length (bz u.cl) u.mf u.me.length (u.me.flatMap bO) u.hf u.ho.length (u.ho.flatMap bR) u.kf u.mr.length (u.mr.flatMap bH) u.sf u.sg.length (bz u.sg) u.pf u.pa.length (u.pa.flatMap bV) 0 0=some (.int .i64 M)):
  ∀(r pre:List ByteArray) (fuel:Nat),u.cl=pre++r→r.length<fuel→vD B LL C1 fuel u.cf u.cl.length (bz u.cl) u.mf u.me.length (u.me.flatMap bO) u.hf u.ho.length (u.ho.flatMap bR) u.kf u.mr.length (u.mr.flatMap bH) u.sf u.sg.length (bz u.sg) u.pf u.pa.length (u.pa.flatMap bV) (pre.length:Int)=some (.int .i64 (bC (mz pre r !=0) (mz pre r) M)):=by
 intro r
 induction r with
 |nil=>
  intro pre fuel hn hf;cases fuel with
  |zero=>exact absurd hf (Nat.not_lt_zero _)
  |succ fuel=>
   rw[ub,show decide ((pre.length:Int)<(u.cl.length:Int))=false by rw[hn];exact cz pre,br,hE];rfl
 |cons x r ih=>
  intro pre fuel hn hf;cases fuel with
  |zero=>exact absurd hf (Nat.not_lt_zero _)
  |succ fuel=>
   have ih:=ih (pre++[x]) fuel (by rw[cU];exact hn) (by simp at hf;omega);have cel:∀{γ:Type} (c:D→Option γ),bu (bz u.cl) (Int.toNat (pre.length:Int)*1) c=c (.str x):=fun c=>by rw[hn];exact t0 c pre x r
   have htk:D.slc (u.cf&&decide ((pre.length:Int)=(u.cl.length:Int))) (Int.toNat ((pre.length:Int)-(0:Int))) (List.take (Int.toNat ((pre.length:Int)-(0:Int))*1) (bz u.cl))= .slc false pre.length (bz pre):=by rw[hn];exact oG pre x r u.cf
   have h81:B 81 [.slc false pre.length (bz pre),.str x]=some (.bool (eh pre x)):=a81 (false,⟨pre,by rw[hn] at hl;simp at hl;omega⟩,x);have hi:decide ((0:Int)≤(pre.length:Int)∧(pre.length:Int)<(u.cl.length:Int))=true:=by rw[hn];exact cF pre x r
   rw[ub,show decide ((pre.length:Int)<(u.cl.length:Int))=true by rw[hn];exact cJ pre x r,bx,hi,bw,cel,bA,a80,bq,bD,show decide ((0:Int)≤(0:Int)∧(0:Int)≤(pre.length:Int)∧(pre.length:Int)≤(u.cl.length:Int))=true by rw[hn];exact vI pre x r,bw,bw,cel,bA,htk,h81,bq,bD,cq pre x r (by rw[←hn];omega),ih];rw[show mz pre (x::r)=bC (dr [bC (!cZ x) 8 0,bC (eh pre x) 9 0] !=0) (dr [bC (!cZ x) 8 0,bC (eh pre x) 9 0]) (mz (pre++[x]) r) from rfl,gE];cases cZ x<;>cases eh pre x<;>rfl
theorem NP(hu:u.Fit'):ct 16 [dY u] (.int .i64 (uE u)):=by
 obtain⟨⟨l0,l1,l2,l3,l4,l5⟩,h6,h7,h8⟩:=hu;obtain⟨B,hB,hF⟩:=iz [fa80,fa81,GO 82 (dY u) u.me (zF u.cl),fa83,GO 84 (dY u) u.mr (vJ u.me u.ho.length),HR 23 (dY u) (fun s=> .int .i64 (ix (fun m:cw=>cN m.1 s) u.me)),HR 29 (dY u) (fun s=> .int .i64 (my u.mr u.ho.length s)),GO 85 (dY u) u.pa HS]
  ⟨oF,uk,oI (fun pre x r h=>by
    have:=PY (f0:=u.cf) (f1:=u.mf) (f2:=u.hf) (f3:=u.kf) (f4:=u.sf) (f5:=u.pf) (b2:=u.ho.length) (b3:=u.mr.length) (b4:=u.sg.length) (b5:=u.pa.length) (e2:=u.ho.flatMap bR) (e3:=u.mr.flatMap bH) (e4:=bz u.sg) (e5:=u.pa.flatMap bV) u.cl pre x r l0 (by rw[←h];exact l1);rw[←h] at this;exact this),ul,oI (fun pre x r h=>by
    have:=PZ (f0:=u.cf) (f1:=u.mf) (f2:=u.hf) (f3:=u.kf) (f4:=u.sf) (f5:=u.pf) (b0:=u.cl.length) (e0:=bz u.cl) (b4:=u.sg.length) (b5:=u.pa.length) (e2:=u.ho.flatMap bR) (e4:=bz u.sg) (e5:=u.pa.flatMap bV) u.me u.ho.length pre x r l1 (by rw[←h];exact l3);rw[←h] at this;exact this),iu (fun s=>GH u.me s l1),iu (fun s=>PS u.mr s l2 l3),oI (fun pre x r h=>by
    have:=P1 (f0:=u.cf) (f1:=u.mf) (f2:=u.hf) (f3:=u.kf) (f4:=u.sf) (f5:=u.pf) (b0:=u.cl.length) (e0:=bz u.cl) (b1:=u.me.length) (e1:=u.me.flatMap bO) (b2:=u.ho.length) (b3:=u.mr.length) (b4:=u.sg.length) (e2:=u.ho.flatMap bR) (e3:=u.mr.flatMap bH) (e4:=bz u.sg) pre x r (by rw[←h];exact l5) (h8 x (by rw[h];simp));rw[←h] at this;exact this),trivial⟩ (by kernel_rfl)
 obtain⟨a80,a81,a82,a83,a84,a23,a29,a85,_⟩:=hF;have a80:∀s,B 80 [.str s]=some (.bool (cZ s)):=a80;have a81:∀x:BX,B 81 [.slc x.1 x.2.1.1.length (bz x.2.1.1),.str x.2.2]=some (.bool (eh x.2.1.1 x.2.2)):=a81;have a82:∀pre x r,u.me=pre++x::r→B 82 [.agg [.slc u.cf u.cl.length (bz u.cl),.slc u.mf u.me.length (u.me.flatMap bO),.slc u.hf u.ho.length (u.ho.flatMap bR),.slc u.kf u.mr.length (u.mr.flatMap bH),.slc u.sf u.sg.length (bz u.sg),.slc u.pf u.pa.length (u.pa.flatMap bV)],.int .i64 (pre.length:Int)]=some (.int .i64 (zF u.cl pre x)):=fun pre x r h=>a82 ⟨(pre,x,r),h⟩;have a83:B 83 [.slc u.hf u.ho.length (u.ho.flatMap bR)]=some (.int .i64 (sO u.ho)):=a83 (u.hf,u.ho);have a84:∀pre x r,u.mr=pre++x::r→B 84 [.agg [.slc u.cf u.cl.length (bz u.cl),.slc u.mf u.me.length (u.me.flatMap bO),.slc u.hf u.ho.length (u.ho.flatMap bR),.slc u.kf u.mr.length (u.mr.flatMap bH),.slc u.sf u.sg.length (bz u.sg),.slc u.pf u.pa.length (u.pa.flatMap bV)],.int .i64 (pre.length:Int)]=some (.int .i64 (vJ u.me u.ho.length pre x)):=fun pre x r h=>a84 ⟨(pre,x,r),h⟩;have a85:∀pre x r,u.pa=pre++x::r→B 85 [.agg [.slc u.cf u.cl.length (bz u.cl),.slc u.mf u.me.length (u.me.flatMap bO),.slc u.hf u.ho.length (u.ho.flatMap bR),.slc u.kf u.mr.length (u.mr.flatMap bH),.slc u.sf u.sg.length (bz u.sg),.slc u.pf u.pa.length (u.pa.flatMap bV)],.int .i64 (pre.length:Int)]=some (.int .i64 (HS pre x)):=fun pre x r h=>a85 ⟨(pre,x,r),h⟩;have h2042:∀e,fR B LL C1 LL u.cf u.cl.length (bz u.cl) u.mf u.me.length (u.me.flatMap bO) u.hf u.ho.length (u.ho.flatMap bR) u.kf u.mr.length (u.mr.flatMap bH) u.sf u.sg.length (bz u.sg) u.pf u.pa.length (u.pa.flatMap bV) e 0=some (.int .i64 (bC (e !=0) e (sE u))):=fun e=>Kq u l4 l5 a85 a23 a29 a81 u.sg [] LL e rfl (by unfold LL;omega);have h127:∀e,gr B LL C1 u.cf u.cl.length (bz u.cl) u.mf u.me.length (u.me.flatMap bO) u.hf u.ho.length (u.ho.flatMap bR) u.kf u.mr.length (u.mr.flatMap bH) u.sf u.sg.length (bz u.sg) u.pf u.pa.length (u.pa.flatMap bV) e=some (.int .i64 (bC (e !=0) e (mE u))):=fun e=>by
  rw[zp (hC:=c1)];exact Ks u l3 a84 h2042 u.mr [] LL e rfl (by unfold LL;omega)
 have h250:lg B LL C1 LL u.cf u.cl.length (bz u.cl) u.mf u.me.length (u.me.flatMap bO) u.hf u.ho.length (u.ho.flatMap bR) u.kf u.mr.length (u.mr.flatMap bH) u.sf u.sg.length (bz u.sg) u.pf u.pa.length (u.pa.flatMap bV) 0 0=some (.int .i64 (bC (iq u.cl [] u.me !=0) (iq u.cl [] u.me) (bC (D8 u !=0) (D8 u) (mE u)))):=NN u l1 a82 a83 h127 u.me [] LL 0 rfl (by unfold LL;omega);have h7':AH B LL C1 u.cf u.cl.length (bz u.cl) u.mf u.me.length (u.me.flatMap bO) u.hf u.ho.length (u.ho.flatMap bR) u.kf u.mr.length (u.mr.flatMap bH) u.sf u.sg.length (bz u.sg) u.pf u.pa.length (u.pa.flatMap bV)=some (.int .i64 (bC (mz [] u.cl !=0) (mz [] u.cl) (bC (iq u.cl [] u.me !=0) (iq u.cl [] u.me) (bC (D8 u !=0) (D8 u) (mE u))))):=by
  rw[DX (hC:=c1)];exact NO u l0 a80 a81 h250 u.cl [] LL rfl (by unfold LL;omega)
 have hu:uE u=bC (um u) 5 (bC (mz [] u.cl !=0) (mz [] u.cl) (bC (iq u.cl [] u.me !=0) (iq u.cl [] u.me) (bC (D8 u !=0) (D8 u) (mE u)))):=by
  unfold uE GK;rw[gE,gE];show bC (um u) 5 (bC _ _ (bC _ _ (bC (D8 u !=0) (D8 u) (bC (GL u.me u.ho.length u.mr u.sg !=0) (GL u.me u.ho.length u.mr u.sg) (bC (ki [] u.pa !=0) (ki [] u.pa) 0)))))=_;unfold GL;rw[gE,rY];rfl
 refine ed hB Tryz.func16 (ord:=O0) (N:=EN) (by kernel_rfl) ((J9 _ _ _ _ _ _ _ _ _ _ _ _ _ _ _ _ _ _ _ _ _).trans ?_);rw[h7',hu];unfold um;cases decide ((u.cl.length:Int)>256)<;>cases decide ((u.me.length:Int)>200)<;>cases decide ((u.mr.length:Int)>1000)<;>cases decide ((u.sg.length:Int)>200)<;>cases decide ((u.pa.length:Int)>256)<;>rfl
def HT(s:ByteArray):Int:=bC (uE u !=0) (uE u) (bC (!BY u.me s) 10 0)
end
def sm(s:ByteArray):Bool:= !decide ((s.size:Int)>60)
theorem AT{s:ByteArray}(h:sm s=true):s.size≤60:=by
 unfold sm at h;simp at h;omega
def jA(k n m:Int):Bool:=decide (k≤n)||(decide (k>m)&&decide (k≤IntKind.wrap .i64 (m+3)))
theorem P2(k n m:Int):ct 75 [.int .i64 k,.int .i64 n,.int .i64 m] (.bool (jA k n m)):=
 ed cA Tryz.func75 (ord:=O0) (N:=N0) (by kernel_rfl) ((JH _ _ _ k n m).trans (by
  unfold jA;generalize decide (k≤n)=a;generalize decide (k>m)=b;cases a<;>cases b<;>rfl))
def fa75:Fam:=⟨75,Int×Int×Int,fun x=>[.int .i64 x.1,.int .i64 x.2.1,.int .i64 x.2.2],fun x=> .bool (jA x.1 x.2.1 x.2.2)⟩
theorem un:fa75.Good:=⟨fun x=>P2 x.1 x.2.1 x.2.2,fun i j h=>by
 obtain⟨a,b,c⟩:=i;obtain⟨a',b',c'⟩:=j;have h:[D.int .i64 a,D.int .i64 b,D.int .i64 c]=[D.int .i64 a',D.int .i64 b',D.int .i64 c']:=h;simp at h;simp[h]⟩
theorem fm{k n m:Nat}(h:jA (k:Int) n m=true)(hn:n≤m)(hm:m≤2000):k≤3000:=by
 unfold jA at h;rw[co (by omega)] at h;simp at h;omega
def GP(c:CrdV):Bool:=bC (decide ((c.1.size:Int)>60)) false (bC (decide ((c.2.2.length:Int)>39)) false (c.2.2.all fun x=>sm x.2))
theorem NQ{call:CL}{f:Bool}{n:Nat}{s:ByteArray}{z:Int}:∀(r pre:List cM) (fuel:Nat),(pre++r).length=n→n≤100000→r.length<fuel→
  qb call LL C1 fuel s f n ((pre++r).flatMap cQ) z (pre.length:Int)=some (.bool (r.all fun x=>sm x.2)):=by
 intro r
 induction r with
 |nil=>
  intro pre fuel hn hB hf;cases fuel with
  |zero=>exact absurd hf (Nat.not_lt_zero _)
  |succ fuel=>
   subst hn;rw[rA,cz,br];rfl
 |cons x r ih=>
  intro pre fuel hn hB hf;cases fuel with
  |zero=>exact absurd hf (Nat.not_lt_zero _)
  |succ fuel=>
   have ih:=ih (pre++[x]) fuel (by rw[cU];exact hn) hB (by simp at hf;omega);rw[cU] at ih;subst hn;rw[rA,cJ,bx,cF,bw,n1,bA,cq pre x r (by omega),ih,List.all_cons];unfold sm;cases decide ((x.2.size:Int)>60)<;>rfl
theorem NR(c:CrdV):ct 150 [.agg [.str c.1,.slc c.2.1 c.2.2.length (c.2.2.flatMap cQ),.int .i64 0]] (.bool (GP c)):=by
 refine ed cA Tryz.func150 (ord:=O0) (N:=JW) (by kernel_rfl) ((Gu _ _ _ _ _ _ _ _).trans ?_);unfold GP;cases decide ((c.1.size:Int)>60) with
 |true=>rfl
 |false=>
  rw[br,br];cases h:decide ((c.2.2.length:Int)>39) with
  |true=>rfl
  |false=>
   simp only[decide_eq_false_iff_not] at h;rw[br,br];exact NQ c.2.2 [] LL rfl (by omega) (by unfold LL;omega)
theorem xR{x y:CrdV}(h:j8 x=j8 y):x=y:=by
 obtain⟨a,b,c⟩:=x;obtain⟨a',b',c'⟩:=y;simp only[j8,zc3,and_true,D.slc.injEq,D.str.injEq] at h;obtain⟨h1,h2,_,h3⟩:=h;rw[h1,h2,xM h3]
theorem D9{x y:KepV}(h:bV x=bV y):x=y:=by
 obtain⟨a,⟨b,c⟩,d,e⟩:=x;obtain⟨a',⟨b',c'⟩,d',e'⟩:=y;simp only[bV,zc3,and_true,D.slc.injEq,D.str.injEq] at h;obtain⟨h1,⟨h2,_,h3⟩,h4,_,h5⟩:=h;rw[h1,h2,rW h3,h4,nL (w:=2) (by omega) (fun _=>rfl) (fun _ _=>xR) h5]
def fa150:Fam:=⟨150,CrdV,fun c=>[.agg [.str c.1,.slc c.2.1 c.2.2.length (c.2.2.flatMap cQ),.int .i64 0]],fun c=> .bool (GP c)⟩
theorem zI:fa150.Good:=⟨NR,fun i j h=>by
 have h:[D.agg [.str i.1,.slc i.2.1 i.2.2.length (i.2.2.flatMap cQ),.int .i64 0]]=[D.agg [.str j.1,.slc j.2.1 j.2.2.length (j.2.2.flatMap cQ),.int .i64 0]]:=h;simp only[zc3,and_true,D.agg.injEq] at h;rw[xR (x:=i) (y:=j) (by unfold j8;rw[h.1,h.2])]⟩
def AU(k:KepV):Bool:=bC (decide ((k.1.size:Int)>60)) false (bC (decide ((k.2.1.2.length:Int)>39)) false (bC (!jA (k.2.2.2.length:Int) 5 200) false (k.2.2.2.all GP)))
theorem P3{B:FuncId→List D→Option D}{f g:Bool}{n m:Nat}{s:ByteArray}{c:List D}(hF:∀c:CrdV,B 150 [.agg [.str c.1,.slc c.2.1 c.2.2.length (c.2.2.flatMap cQ),.int .i64 0]]=some (.bool (GP c))):∀(r pre:List CrdV) (fuel:Nat),(pre++r).length=n→n≤100000→r.length<fuel→
  vt B LL C1 fuel s g m c f n ((pre++r).flatMap j8) (pre.length:Int)=some (.bool (r.all GP)):=by
 intro r
 induction r with
 |nil=>
  intro pre fuel hn hB hf;cases fuel with
  |zero=>exact absurd hf (Nat.not_lt_zero _)
  |succ fuel=>
   subst hn;rw[tV,cz,br];rfl
 |cons x r ih=>
  intro pre fuel hn hB hf;cases fuel with
  |zero=>exact absurd hf (Nat.not_lt_zero _)
  |succ fuel=>
   have ih:=ih (pre++[x]) fuel (by rw[cU];exact hn) hB (by simp at hf;omega);rw[cU] at ih;subst hn;rw[tV,cJ,bx,cF,bw,c0,bA,PV,bI,hF x,bq,bD,cq pre x r (by omega),ih,List.all_cons];cases GP x<;>rfl
theorem P4(k:KepV):ct 76 [.agg (bV k)] (.bool (AU k)):=by
 obtain⟨B,hB,hF⟩:=iz [fa75,fa150] ⟨un,zI,trivial⟩ (by kernel_rfl);have a:B 75 [.int .i64 (k.2.2.2.length:Int),.int .i64 5,.int .i64 200]=some (.bool (jA (k.2.2.2.length:Int) 5 200)):=hF.1 ((k.2.2.2.length:Int),5,200);refine ed hB Tryz.func76 (ord:=O0) (N:=OA) (by kernel_rfl) ((JI _ _ _ _ _ _ _ _ _ _).trans ?_);rw[a,bq,bD,DQ (hC:=c1)];unfold AU;cases decide ((k.1.size:Int)>60) with
 |true=>rfl
 |false=>
  rw[br,br];cases decide ((k.2.1.2.length:Int)>39) with
  |true=>rfl
  |false=>
   rw[br,br];cases h:jA (k.2.2.2.length:Int) 5 200 with
   |false=>rfl
   |true=>
    have:=fm (n:=5) (m:=200) h (by omega) (by omega);rw[Bool.not_true,br,br];exact P3 hF.2.1 k.2.2.2 [] LL rfl (by omega) (by unfold LL;omega)
def fa76:Fam:=⟨76,KepV,fun k=>[.agg (bV k)],fun k=> .bool (AU k)⟩
theorem B1:fa76.Good:=⟨P4,fun i j h=>by
 have h:[D.agg (bV i)]=[D.agg (bV j)]:=h;simp only[zc3,and_true,D.agg.injEq] at h;rw[D9 h]⟩
section
variable {f0 f1 f2 f3 f4 f5:Bool}{b0 b1 b2 b3 b4 b5:Nat}{e0 e1 e2 e3 e4 e5:List D}{B:FuncId→List D→Option D}
theorem B2{n:Nat}{E:List D}(hF:∀k:KepV,B 76 [.agg [.str k.1,.slc k.2.1.1 k.2.1.2.length (k.2.1.2.flatMap bR),.slc k.2.2.1 k.2.2.2.length (k.2.2.2.flatMap j8)]]=some (.bool (AU k))):∀(r pre:List KepV) (fuel:Nat),(pre++r).length=n→E=(pre++r).flatMap bV→n≤100000→r.length<fuel→
  jw B LL C1 fuel f0 b0 e0 f1 b1 e1 f2 b2 e2 f3 b3 e3 f4 b4 e4 f5 n E (pre.length:Int)=some (.bool (r.all AU)):=by
 intro r
 induction r with
 |nil=>
  intro pre fuel hn he hB hf;cases fuel with
  |zero=>exact absurd hf (Nat.not_lt_zero _)
  |succ fuel=>
   subst hn;rw[pv,cz,br];rfl
 |cons x r ih=>
  intro pre fuel hn he hB hf;cases fuel with
  |zero=>exact absurd hf (Nat.not_lt_zero _)
  |succ fuel=>
   have ih:=ih (pre++[x]) fuel (by rw[cU];exact hn) (by rw[cU];exact he) hB (by simp at hf;omega);subst hn;rw[pv,cJ,bx,cF,bw,show∀{γ:Type} (c:D→Option γ),bu E (Int.toNat (pre.length:Int)*3+0) c=c (.str x.1) from fun c=>by rw[he];exact p0 c pre x r,bA,show∀{γ:Type} (c:D→Option γ),bu E (Int.toNat (pre.length:Int)*3+1) c=c (.slc x.2.1.1 x.2.1.2.length (x.2.1.2.flatMap bR)) from fun c=>by rw[he];exact p1 c pre x r,bI,show∀{γ:Type} (c:D→Option γ),bu E (Int.toNat (pre.length:Int)*3+2) c=c (.slc x.2.2.1 x.2.2.2.length (x.2.2.2.flatMap j8)) from fun c=>by rw[he];exact p2 c pre x r,bI,hF x,bq,bD,cq pre x r (by omega),ih,List.all_cons];cases AU x<;>rfl
theorem Ea{n:Nat}{M:Bool}{E:List D}(hE:jw B LL C1 LL f0 b0 e0 f1 b1 e1 f2 b2 e2 f3 b3 e3 f4 n E f5 b5 e5 0=some (.bool M)):∀(r pre:List ByteArray) (fuel:Nat),(pre++r).length=n→E=bz (pre++r)→n≤100000→r.length<fuel→
  lk B LL C1 fuel f0 b0 e0 f1 b1 e1 f2 b2 e2 f3 b3 e3 f4 n E f5 b5 e5 (pre.length:Int)=some (.bool ((r.all sm&&M))):=by
 intro r
 induction r with
 |nil=>
  intro pre fuel hn he hB hf;cases fuel with
  |zero=>exact absurd hf (Nat.not_lt_zero _)
  |succ fuel=>
   subst hn;rw[rN,cz,br,hE];rfl
 |cons x r ih=>
  intro pre fuel hn he hB hf;cases fuel with
  |zero=>exact absurd hf (Nat.not_lt_zero _)
  |succ fuel=>
   have ih:=ih (pre++[x]) fuel (by rw[cU];exact hn) (by rw[cU];exact he) hB (by simp at hf;omega);subst hn;rw[rN,cJ,bx,cF,bw,show∀{γ:Type} (c:D→Option γ),bu E (Int.toNat (pre.length:Int)*1) c=c (.str x) from fun c=>by rw[he];exact t0 c pre x r,bA,cq pre x r (by omega),ih,List.all_cons];unfold sm;cases decide ((x.size:Int)>60)<;>rfl
theorem Eb{n:Nat}{M:Bool}{E:List D}(hE:lk B LL C1 LL f0 b0 e0 f1 b1 e1 f2 b2 e2 f3 n E f4 b4 e4 f5 b5 e5 0=some (.bool M)):∀(r pre:List bU) (fuel:Nat),(pre++r).length=n→E=(pre++r).flatMap bH→n≤100000→r.length<fuel→
  ll B LL C1 fuel f0 b0 e0 f1 b1 e1 f2 b2 e2 f3 n E f4 b4 e4 f5 b5 e5 (pre.length:Int)=some (.bool ((r.all (fun x=>sm x.1&&(sm x.2.1&&sm x.2.2.2.2))&&M))):=by
 intro r
 induction r with
 |nil=>
  intro pre fuel hn he hB hf;cases fuel with
  |zero=>exact absurd hf (Nat.not_lt_zero _)
  |succ fuel=>
   subst hn;rw[rO,cz,br,hE];rfl
 |cons x r ih=>
  intro pre fuel hn he hB hf;cases fuel with
  |zero=>exact absurd hf (Nat.not_lt_zero _)
  |succ fuel=>
   have ih:=ih (pre++[x]) fuel (by rw[cU];exact hn) (by rw[cU];exact he) hB (by simp at hf;omega);subst hn;rw[rO,cJ,bx,cF,bw,show∀{γ:Type} (c:D→Option γ),bu E (Int.toNat (pre.length:Int)*5+0) c=c (.str x.1) from fun c=>by rw[he];exact k0 c pre x r,bA,show∀{γ:Type} (c:D→Option γ),bu E (Int.toNat (pre.length:Int)*5+1) c=c (.str x.2.1) from fun c=>by rw[he];exact k1 c pre x r,bA,show∀{γ:Type} (c:D→Option γ),bu E (Int.toNat (pre.length:Int)*5+3+1) c=c (.str x.2.2.2.2) from fun c=>by rw[he];exact k4 c pre x r,bA,cq pre x r (by omega),ih,List.all_cons];unfold sm;cases decide ((x.1.size:Int)>60)<;>cases decide ((x.2.1.size:Int)>60)<;>cases decide ((x.2.2.2.2.size:Int)>60)<;>rfl
theorem Ec{n:Nat}{M:Bool}{E:List D}(hE:ll B LL C1 LL f0 b0 e0 f1 n E f2 b2 e2 f3 b3 e3 f4 b4 e4 f5 b5 e5 0=some (.bool M)):∀(r pre:List cw) (fuel:Nat),(pre++r).length=n→E=(pre++r).flatMap bO→n≤100000→r.length<fuel→
  lm B LL C1 fuel f0 b0 e0 f1 n E f2 b2 e2 f3 b3 e3 f4 b4 e4 f5 b5 e5 (pre.length:Int)=some (.bool ((r.all (fun x=>sm x.1&&sm x.2.1)&&M))):=by
 intro r
 induction r with
 |nil=>
  intro pre fuel hn he hB hf;cases fuel with
  |zero=>exact absurd hf (Nat.not_lt_zero _)
  |succ fuel=>
   subst hn;rw[rP,cz,br,hE];rfl
 |cons x r ih=>
  intro pre fuel hn he hB hf;cases fuel with
  |zero=>exact absurd hf (Nat.not_lt_zero _)
  |succ fuel=>
   have ih:=ih (pre++[x]) fuel (by rw[cU];exact hn) (by rw[cU];exact he) hB (by simp at hf;omega);subst hn;rw[rP,cJ,bx,cF,bw,show∀{γ:Type} (c:D→Option γ),bu E (Int.toNat (pre.length:Int)*3+0) c=c (.str x.1) from fun c=>by rw[he];exact Ki c pre x r,bA,show∀{γ:Type} (c:D→Option γ),bu E (Int.toNat (pre.length:Int)*3+1) c=c (.str x.2.1) from fun c=>by rw[he];exact m1 c pre x r,bA,cq pre x r (by omega),ih,List.all_cons];unfold sm;cases decide ((x.1.size:Int)>60)<;>cases decide ((x.2.1.size:Int)>60)<;>rfl
theorem GQ{n:Nat}{M:Bool}{E:List D}(hE:lm B LL C1 LL f0 n E f1 b1 e1 f2 b2 e2 f3 b3 e3 f4 b4 e4 f5 b5 e5 0=some (.bool M)):∀(r pre:List ByteArray) (fuel:Nat),(pre++r).length=n→E=bz (pre++r)→n≤100000→r.length<fuel→
  vE B LL C1 fuel f0 n E f1 b1 e1 f2 b2 e2 f3 b3 e3 f4 b4 e4 f5 b5 e5 (pre.length:Int)=some (.bool ((r.all sm&&M))):=by
 intro r
 induction r with
 |nil=>
  intro pre fuel hn he hB hf;cases fuel with
  |zero=>exact absurd hf (Nat.not_lt_zero _)
  |succ fuel=>
   subst hn;rw[uc,cz,br,hE];rfl
 |cons x r ih=>
  intro pre fuel hn he hB hf;cases fuel with
  |zero=>exact absurd hf (Nat.not_lt_zero _)
  |succ fuel=>
   have ih:=ih (pre++[x]) fuel (by rw[cU];exact hn) (by rw[cU];exact he) hB (by simp at hf;omega);subst hn;rw[uc,cJ,bx,cF,bw,show∀{γ:Type} (c:D→Option γ),bu E (Int.toNat (pre.length:Int)*1) c=c (.str x) from fun c=>by rw[he];exact t0 c pre x r,bA,cq pre x r (by omega),ih,List.all_cons];unfold sm;cases decide ((x.size:Int)>60)<;>rfl
end
section
variable (u:UV)
def P5:Bool:=u.cl.all sm&&(u.me.all (fun x=>sm x.1&&sm x.2.1)&&(u.mr.all (fun x=>sm x.1&&(sm x.2.1&&sm x.2.2.2.2))&&(u.sg.all sm&&u.pa.all AU)))
def x9:Bool:=bC (!jA (u.cl.length:Int) 6 256) false (bC (!jA (u.me.length:Int) 6 200) false (bC (decide ((u.ho.length:Int)>39)) false (bC (!jA (u.mr.length:Int) 30 1000) false (bC (!jA (u.sg.length:Int) 8 200) false (bC (!jA (u.pa.length:Int) 4 256) false (P5 u))))))
theorem NS:ct 14 [dY u] (.bool (x9 u)):=by
 obtain⟨B,hB,hF⟩:=iz [fa75,fa76] ⟨un,B1,trivial⟩ (by kernel_rfl);have a:∀k n m:Int,B 75 [.int .i64 k,.int .i64 n,.int .i64 m]=some (.bool (jA k n m)):=fun k n m=>hF.1 (k,n,m);have b:∀k:KepV,B 76 [.agg [.str k.1,.slc k.2.1.1 k.2.1.2.length (k.2.1.2.flatMap bR),.slc k.2.2.1 k.2.2.2.length (k.2.2.2.flatMap j8)]]=some (.bool (AU k)):=hF.2.1;have h7:u.cl.length≤100000→u.me.length≤100000→u.mr.length≤100000→u.sg.length≤100000→u.pa.length≤100000→AI B LL C1 u.cf u.cl.length (bz u.cl) u.mf u.me.length (u.me.flatMap bO) u.hf u.ho.length (u.ho.flatMap bR) u.kf u.mr.length (u.mr.flatMap bH) u.sf u.sg.length (bz u.sg) u.pf u.pa.length (u.pa.flatMap bV)=some (.bool (P5 u)):=fun l0 l1 l3 l4 l5=>by
  have g5:jw B LL C1 LL u.cf u.cl.length (bz u.cl) u.mf u.me.length (u.me.flatMap bO) u.hf u.ho.length (u.ho.flatMap bR) u.kf u.mr.length (u.mr.flatMap bH) u.sf u.sg.length (bz u.sg) u.pf u.pa.length (u.pa.flatMap bV) 0=some (.bool (u.pa.all AU)):=B2 b u.pa [] LL rfl rfl l5 (by unfold LL;omega);have g4:lk B LL C1 LL u.cf u.cl.length (bz u.cl) u.mf u.me.length (u.me.flatMap bO) u.hf u.ho.length (u.ho.flatMap bR) u.kf u.mr.length (u.mr.flatMap bH) u.sf u.sg.length (bz u.sg) u.pf u.pa.length (u.pa.flatMap bV) 0=some (.bool (u.sg.all sm&&u.pa.all AU)):=Ea g5 u.sg [] LL rfl rfl l4 (by unfold LL;omega);have g3:ll B LL C1 LL u.cf u.cl.length (bz u.cl) u.mf u.me.length (u.me.flatMap bO) u.hf u.ho.length (u.ho.flatMap bR) u.kf u.mr.length (u.mr.flatMap bH) u.sf u.sg.length (bz u.sg) u.pf u.pa.length (u.pa.flatMap bV) 0=some (.bool (u.mr.all (fun x=>sm x.1&&(sm x.2.1&&sm x.2.2.2.2))&&(u.sg.all sm&&u.pa.all AU))):=Eb g4 u.mr [] LL rfl rfl l3 (by unfold LL;omega);have g1:lm B LL C1 LL u.cf u.cl.length (bz u.cl) u.mf u.me.length (u.me.flatMap bO) u.hf u.ho.length (u.ho.flatMap bR) u.kf u.mr.length (u.mr.flatMap bH) u.sf u.sg.length (bz u.sg) u.pf u.pa.length (u.pa.flatMap bV) 0=some (.bool (u.me.all (fun x=>sm x.1&&sm x.2.1)&&(u.mr.all (fun x=>sm x.1&&(sm x.2.1&&sm x.2.2.2.2))&&(u.sg.all sm&&u.pa.all AU)))):=Ec g3 u.me [] LL rfl rfl l1 (by unfold LL;omega);rw[DY (hC:=c1)];exact GQ g1 u.cl [] LL rfl rfl l0 (by unfold LL;omega)
 refine ed hB Tryz.func14 (ord:=O0) (N:=HL) (by kernel_rfl) ((Kf _ _ _ _ _ _ _ _ _ _ _ _ _ _ _ _ _ _ _ _ _).trans ?_);rw[a,bq,bD,a,bq,bD,a,bq,bD,a,bq,bD,a,bq,bD];unfold x9;cases h0:jA (u.cl.length:Int) 6 256 with
 |false=>rfl
 |true=>
  rw[Bool.not_true,br,br];cases h1:jA (u.me.length:Int) 6 200 with
  |false=>rfl
  |true=>
   rw[Bool.not_true,br,br];cases h2:decide ((u.ho.length:Int)>39) with
   |true=>rfl
   |false=>
    rw[br,br];cases h3:jA (u.mr.length:Int) 30 1000 with
    |false=>rfl
    |true=>
     rw[Bool.not_true,br,br];cases h4:jA (u.sg.length:Int) 8 200 with
     |false=>rfl
     |true=>
      rw[Bool.not_true,br,br];cases h5:jA (u.pa.length:Int) 4 256 with
      |false=>rfl
      |true=>
       rw[Bool.not_true,br,br];have q0:=fm (n:=6) (m:=256) h0 (by omega) (by omega);have q1:=fm (n:=6) (m:=200) h1 (by omega) (by omega);have q3:=fm (n:=30) (m:=1000) h3 (by omega) (by omega);have q4:=fm (n:=8) (m:=200) h4 (by omega) (by omega);have q5:=fm (n:=4) (m:=256) h5 (by omega) (by omega);exact h7 (by omega) (by omega) (by omega) (by omega) (by omega)
theorem gm{b r:Bool}(h:bC b false r=true):b=false∧r=true:=by
 cases b with
 |true=>cases h
 |false=>exact⟨rfl,h⟩
theorem oJ{b:Bool}(h:(!b)=false):b=true:=by cases b<;>first|rfl|cases h
theorem GR{c:CrdV}(h:GP c=true):c.Fit:=by
 unfold GP at h;obtain⟨h1,h⟩:=gm h;obtain⟨h2,_⟩:=gm h;simp at h1 h2;exact⟨by omega,by omega⟩
theorem GS{k:KepV}(h:AU k=true):k.Fit:=by
 unfold AU at h;obtain⟨h1,h⟩:=gm h;obtain⟨h2,h⟩:=gm h;obtain⟨h3,h⟩:=gm h;have:=fm (n:=5) (m:=200) (oJ h3) (by omega) (by omega);simp at h1;exact⟨by omega,by omega,fun c hc=>GR (zd5.1 h c hc)⟩
theorem Kt(h:x9 u=true):u.Fit'∧u.ho.length≤39:=by
 unfold x9 at h;obtain⟨h0,h⟩:=gm h;obtain⟨h1,h⟩:=gm h;obtain⟨h2,h⟩:=gm h;obtain⟨h3,h⟩:=gm h;obtain⟨h4,h⟩:=gm h;obtain⟨h5,h⟩:=gm h;have q0:=fm (n:=6) (m:=256) (oJ h0) (by omega) (by omega);have q1:=fm (n:=6) (m:=200) (oJ h1) (by omega) (by omega);have q3:=fm (n:=30) (m:=1000) (oJ h3) (by omega) (by omega);have q4:=fm (n:=8) (m:=200) (oJ h4) (by omega) (by omega);have q5:=fm (n:=4) (m:=256) (oJ h5) (by omega) (by omega);simp at h2;unfold P5 at h;simp only[zc2,zd5] at h;obtain⟨a,b,c,d,e⟩:=h;exact⟨⟨⟨by omega,by omega,by omega,by omega,by omega,by omega⟩,fun x hx=>by have:=AT (a x hx);omega,fun x hx=>by have:=AT (b x hx).1;omega,fun k hk=>GS (e k hk)⟩,by omega⟩
def e9:UV:={u with mf:=u.me.isEmpty,kf:=u.mr.isEmpty,pf:=u.pa.isEmpty}
end
section
variable {f0 f1 f2 f3 f4 f5:Bool}{b0 b1 b2 b3 b4 b5:Nat}{e0 e1 e2 e3 e4 e5:List D}{B:FuncId→List D→Option D}
theorem Ku{i n:Nat}(h:i<n)(hn:n*40≤cB):decide ((i+1)*40≤cB∧i+1≤9223372036854775807)=true:=by
 rw[show cB=140737488355328 from rfl] at hn ⊢;simp only[zc5];omega
theorem Ed{i n:Nat}(h:i<n)(hn:n*64≤cB):decide ((i+1)*64≤cB∧i+1≤9223372036854775807)=true:=by
 rw[show cB=140737488355328 from rfl] at hn ⊢;simp only[zc5];omega
theorem ls{n w:Nat}(hw:40≤w)(hn:n*w≤cB):n≤4000000000000:=by
 rw[show cB=140737488355328 from rfl] at hn;have:=Nat.mul_le_mul_left n hw;omega
theorem Ee{n:Nat}(me:List cw)(mr:List bU)(hn64:n*64≤cB):∀(r pre:List KepV) (fuel:Nat),(pre++r).length=n→r.length<fuel→
  c8 B LL C1 fuel f5 n ((pre++r).flatMap bV) f0 b0 e0 f2 b2 e2 f4 b4 e4 n (pre.length:Int) (e8 bO me) (e8 bH mr) (e8 bV pre)=some (.agg [.slc f0 b0 e0,eF bO me,.slc f2 b2 e2,eF bH mr,.slc f4 b4 e4,eF bV (pre++r)]):=by
 intro r
 induction r with
 |nil=>
  intro pre fuel hn hf;cases fuel with
  |zero=>exact absurd hf (Nat.not_lt_zero _)
  |succ fuel=>
   have he:decide ((pre.length:Int)<(n:Int))=false:=by rw[←hn];exact cz pre
   generalize List.flatMap bV (pre++[])=E;rw[zb4];cases me<;>cases mr<;>cases pre<;>simp only[e8]<;>
    first
    |(rw[lL,he,br];rfl)
    |(rw[lM,he,br];rfl)
    |(rw[lN,he,br];rfl)
    |(rw[lO,he,br];rfl)
    |(rw[lP,he,br];rfl)
    |(rw[lQ,he,br];rfl)
    |(rw[lR,he,br];rfl)
    |(rw[lS,he,br];rfl)
 |cons x r ih=>
  intro pre fuel hn hf;cases fuel with
  |zero=>exact absurd hf (Nat.not_lt_zero _)
  |succ fuel=>
   have ih:=ih (pre++[x]) fuel (by rw[cU];exact hn) (by simp at hf;omega);rw[cU,fT] at ih;have hl:=ls (by omega) hn64;have hlt:pre.length<n:=by rw[←hn];simp
   have h1:decide ((pre.length:Int)<(n:Int))=true:=by rw[←hn];exact cJ pre x r
   have h2:decide ((0:Int)≤(pre.length:Int)∧(pre.length:Int)<(n:Int))=true:=by rw[←hn];exact cF pre x r
   have h3:=cq pre x r (by rw[hn];omega);have q0:∀(c:D→Option D),bu ((pre++x::r).flatMap bV) (Int.toNat (pre.length:Int)*3+0) c=c (.str x.1):=fun c=>p0 c pre x r;have q1:∀(c:D→Option D),bu ((pre++x::r).flatMap bV) (Int.toNat (pre.length:Int)*3+1) c=_:=fun c=>p1 c pre x r;have q2:∀(c:D→Option D),bu ((pre++x::r).flatMap bV) (Int.toNat (pre.length:Int)*3+2) c=_:=fun c=>p2 c pre x r;have hrm:=Ed hlt hn64;rw[←ih];generalize List.flatMap bV (pre++x::r)=E at q0 q1 q2;generalize (((pre++[x]).length:Nat):Int)=j at h3;cases pre with
   |nil=>
    cases me<;>cases mr<;>simp only[e8]<;>
    first
    |(rw[lL,h1,bx,h2,bw,q0,bA,q1,bI,q2,bI,h3];rfl)
    |(rw[lN,h1,bx,h2,bw,q0,bA,q1,bI,q2,bI,h3];rfl)
    |(rw[lP,h1,bx,h2,bw,q0,bA,q1,bI,q2,bI,h3];rfl)
    |(rw[lR,h1,bx,h2,bw,q0,bA,q1,bI,q2,bI,h3];rfl)
   |cons o os=>
    rw[show(o::os).length=os.length+1 from rfl] at hrm;cases me<;>cases mr<;>simp only[e8]<;>
    first
    |(rw[lM,h1,bx,h2,bw,q0,bA,q1,bI,q2,bI,hrm,bw,h3];rfl)
    |(rw[lO,h1,bx,h2,bw,q0,bA,q1,bI,q2,bI,hrm,bw,h3];rfl)
    |(rw[lQ,h1,bx,h2,bw,q0,bA,q1,bI,q2,bI,hrm,bw,h3];rfl)
    |(rw[lS,h1,bx,h2,bw,q0,bA,q1,bI,q2,bI,hrm,bw,h3];rfl)
theorem Ef{n n5:Nat}(me:List cw)(pa:List KepV)(hn64:n*64≤cB)(hp64:n5*64≤cB)(hp:pa.length=n5):∀(r pre:List bU) (fuel:Nat),(pre++r).length=n→r.length<fuel→
  fj B LL C1 fuel f3 n ((pre++r).flatMap bH) f0 b0 e0 f1 b1 e1 f2 b2 e2 f4 b4 e4 f5 n5 (pa.flatMap bV) n (pre.length:Int) (e8 bO me) (e8 bH pre)=some (.agg [.slc f0 b0 e0,eF bO me,.slc f2 b2 e2,eF bH (pre++r),.slc f4 b4 e4,eF bV pa]):=by
 intro r
 induction r with
 |nil=>
  intro pre fuel hn hf;cases fuel with
  |zero=>exact absurd hf (Nat.not_lt_zero _)
  |succ fuel=>
   have he:decide ((pre.length:Int)<(n:Int))=false:=by rw[←hn];exact cz pre
   have hl:=ls (by omega) hp64;have g:c8 B LL C1 LL f5 n5 (pa.flatMap bV) f0 b0 e0 f2 b2 e2 f4 b4 e4 n5 0 (e8 bO me) (e8 bH pre) .nil=some (.agg [.slc f0 b0 e0,eF bO me,.slc f2 b2 e2,eF bH pre,.slc f4 b4 e4,eF bV pa]):=Ee me pre hp64 pa [] LL hp (by unfold LL;omega);generalize List.flatMap bH (pre++[])=E;rw[zb4,←g];cases me<;>cases pre<;>simp only[e8]<;>
    first
    |(rw[nx,he,br])
    |(rw[ny,he,br])
    |(rw[nz,he,br])
    |(rw[nB,he,br])
 |cons x r ih=>
  intro pre fuel hn hf;cases fuel with
  |zero=>exact absurd hf (Nat.not_lt_zero _)
  |succ fuel=>
   have ih:=ih (pre++[x]) fuel (by rw[cU];exact hn) (by simp at hf;omega);rw[cU,fT] at ih;have hl:=ls (by omega) hn64;have hlt:pre.length<n:=by rw[←hn];simp
   have h1:decide ((pre.length:Int)<(n:Int))=true:=by rw[←hn];exact cJ pre x r
   have h2:decide ((0:Int)≤(pre.length:Int)∧(pre.length:Int)<(n:Int))=true:=by rw[←hn];exact cF pre x r
   have h3:=cq pre x r (by rw[hn];omega);have q0:∀(c:D→Option D),bu ((pre++x::r).flatMap bH) (Int.toNat (pre.length:Int)*5+0) c=_:=fun c=>k0 c pre x r;have q1:∀(c:D→Option D),bu ((pre++x::r).flatMap bH) (Int.toNat (pre.length:Int)*5+1) c=_:=fun c=>k1 c pre x r;have q2:∀(c:D→Option D),bu ((pre++x::r).flatMap bH) (Int.toNat (pre.length:Int)*5+2) c=_:=fun c=>k2 c pre x r;have q3:∀(c:D→Option D),bu ((pre++x::r).flatMap bH) (Int.toNat (pre.length:Int)*5+3) c=_:=fun c=>k3 c pre x r;have q4:∀(c:D→Option D),bu ((pre++x::r).flatMap bH) (Int.toNat (pre.length:Int)*5+4) c=_:=fun c=>k4 c pre x r;have hrm:=Ed hlt hn64;rw[←ih];generalize List.flatMap bH (pre++x::r)=E at q0 q1 q2 q3 q4;generalize (((pre++[x]).length:Nat):Int)=j at h3;cases pre with
   |nil=>
    cases me<;>simp only[e8]<;>
    first
    |(rw[nx,h1,bx,h2,bw,q0,bA,q1,bA,q2,bv,q3,bv,q4,bA,h3];rfl)
    |(rw[nz,h1,bx,h2,bw,q0,bA,q1,bA,q2,bv,q3,bv,q4,bA,h3];rfl)
   |cons o os=>
    rw[show(o::os).length=os.length+1 from rfl] at hrm;cases me<;>simp only[e8]<;>
    first
    |(rw[ny,h1,bx,h2,bw,q0,bA,q1,bA,q2,bv,q3,bv,q4,bA,hrm,bw,h3];rfl)
    |(rw[nB,h1,bx,h2,bw,q0,bA,q1,bA,q2,bv,q3,bv,q4,bA,hrm,bw,h3];rfl)
theorem GT{n n3 n5:Nat}(mr:List bU)(pa:List KepV)(hn40:n*40≤cB)(hm64:n3*64≤cB)(hm:mr.length=n3)(hp64:n5*64≤cB)(hp:pa.length=n5):∀(r pre:List cw) (fuel:Nat),(pre++r).length=n→r.length<fuel→
  ms B LL C1 fuel f1 n ((pre++r).flatMap bO) f0 b0 e0 f2 b2 e2 f3 n3 (mr.flatMap bH) f4 b4 e4 f5 n5 (pa.flatMap bV) n (pre.length:Int) (e8 bO pre)=some (.agg [.slc f0 b0 e0,eF bO (pre++r),.slc f2 b2 e2,eF bH mr,.slc f4 b4 e4,eF bV pa]):=by
 intro r
 induction r with
 |nil=>
  intro pre fuel hn hf;cases fuel with
  |zero=>exact absurd hf (Nat.not_lt_zero _)
  |succ fuel=>
   have he:decide ((pre.length:Int)<(n:Int))=false:=by rw[←hn];exact cz pre
   have hl:=ls (by omega) hm64;have g:fj B LL C1 LL f3 n3 (mr.flatMap bH) f0 b0 e0 f1 n ((pre++[]).flatMap bO) f2 b2 e2 f4 b4 e4 f5 n5 (pa.flatMap bV) n3 0 (e8 bO pre) .nil=some (.agg [.slc f0 b0 e0,eF bO pre,.slc f2 b2 e2,eF bH mr,.slc f4 b4 e4,eF bV pa]):=Ef pre pa hm64 hp64 hp mr [] LL hm (by unfold LL;omega);generalize List.flatMap bO (pre++[])=E at g ⊢;rw[zb4,←g];cases pre<;>simp only[e8]<;>
    first
    |(rw[rL,he,br])
    |(rw[rM,he,br])
 |cons x r ih=>
  intro pre fuel hn hf;cases fuel with
  |zero=>exact absurd hf (Nat.not_lt_zero _)
  |succ fuel=>
   have ih:=ih (pre++[x]) fuel (by rw[cU];exact hn) (by simp at hf;omega);rw[cU,fT] at ih;have hl:=ls (by omega) hn40;have hlt:pre.length<n:=by rw[←hn];simp
   have h1:decide ((pre.length:Int)<(n:Int))=true:=by rw[←hn];exact cJ pre x r
   have h2:decide ((0:Int)≤(pre.length:Int)∧(pre.length:Int)<(n:Int))=true:=by rw[←hn];exact cF pre x r
   have h3:=cq pre x r (by rw[hn];omega);have q0:∀(c:D→Option D),bu ((pre++x::r).flatMap bO) (Int.toNat (pre.length:Int)*3+0) c=_:=fun c=>Ki c pre x r;have q1:∀(c:D→Option D),bu ((pre++x::r).flatMap bO) (Int.toNat (pre.length:Int)*3+1) c=_:=fun c=>m1 c pre x r;have q2:∀(c:D→Option D),bu ((pre++x::r).flatMap bO) (Int.toNat (pre.length:Int)*3+2) c=_:=fun c=>m2 c pre x r;have hrm:=Ku hlt hn40;rw[←ih];generalize List.flatMap bO (pre++x::r)=E at q0 q1 q2;generalize (((pre++[x]).length:Nat):Int)=j at h3;cases pre with
   |nil=>
    simp only[e8];rw[rL,h1,bx,h2,bw,q0,bA,q1,bA,q2,bv,h3];rfl
   |cons o os=>
    rw[show(o::os).length=os.length+1 from rfl] at hrm;simp only[e8];rw[rM,h1,bx,h2,bw,q0,bA,q1,bA,q2,bv,hrm,bw,h3];rfl
theorem NT(u:UV)(h1:u.me.length*40≤cB)(h3:u.mr.length*64≤cB)(h5:u.pa.length*64≤cB):ct 13 [dY u] (dY (e9 u)):=by
 refine ed cA Tryz.func13 (ord:=O0) (N:=MY) (by kernel_rfl) ((Ke _ _ _ _ _ _ _ _ _ _ _ _ _ _ _ _ _ _ _ _ _).trans ?_);have hl:=ls (by omega) h1;have g:ms (fun _ _=>none) LL C1 LL u.mf u.me.length (u.me.flatMap bO) u.cf u.cl.length (bz u.cl) u.hf u.ho.length (u.ho.flatMap bR) u.kf u.mr.length (u.mr.flatMap bH) u.sf u.sg.length (bz u.sg) u.pf u.pa.length (u.pa.flatMap bV) u.me.length 0 .nil=_:=GT u.mr u.pa h1 h3 rfl h5 rfl u.me [] LL rfl (by unfold LL;omega);refine g.trans ?_;rw[dM,dM,dM];rfl
end
end Go.Pd
end
