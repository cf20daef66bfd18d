import Derived.Test.YtjhoaknnmfifgaaGreatDoorUnH
import Derived.Test.YtjhoaknnmfifgaaGreatDoorUnG
section
namespace Go.Pd
open Go Go.Proofs Go.RowKit
def hP(l:List jL)(i:Nat):Int:=(l.getD i (0,0)).1
def hS(l:List jL)(i:Nat):Int:=(l.getD i (0,0)).2
theorem Ah(l:List jL):ko l.length (l.flatMap bL) (hP l) (hS l):=by
 intro i hi;obtain⟨pre,r,h,rfl⟩:=kp (zc8 hi);have e:l.getD pre.length (0,0)=l[pre.length]:=by rw[List.getD_eq_getElem?_getD,zc8 hi];rfl
 unfold hP hS;rw[e];generalize l[pre.length]=x at h;subst h;exact⟨mK x r bL 2 (fun _=>rfl) pre 0 (by omega),mK x r bL 2 (fun _=>rfl) pre 1 (by omega)⟩
def ur(l:List jL):Int:=dQ l.length (hP l) (hS l)
def lX:List ByteArray→List ByteArray→Int
 |_,[]=>0
 |pre,x::r=>bx (dI [bx (!cI x) 8 0,bx (dT pre x) 9 0] !=0) (dI [bx (!cI x) 8 0,bx (dT pre x) 9 0]) (lX (pre++[x]) r)
def yg(cl:List ByteArray)(pre:List c6)(x:c6):Int:=dI [bx (!cI x.1) 8 0,bx (dT (pre.map (·.1)) x.1) 9 0,bx (!dT cl x.2.1) 10 0,bx (na x.2.2 (-99) 99) 3 0]
def gT(cl:List ByteArray):List c6→List c6→Int
 |_,[]=>0
 |pre,x::r=>bx (yg cl pre x !=0) (yg cl pre x) (gT cl (pre++[x]) r)
def Ar(me:List c6)(s:ByteArray):Bool:=me.any fun m=>de m.1 s
def uo(me:List c6)(n:Nat)(x:ce):Bool:= !Ar me x.1||(!Ar me x.2.1||na x.2.2.1 1 (n:Int))
def As(pre:List ce)(x:ce):Bool:=pre.any (gR x.1 x.2.2.1 (de x.2.1 x.1))
def Au(me:List c6)(n:Nat)(pre:List ce)(x:ce):Int:=dI [bx (uo me n x) 10 0,dY x.2.2.2,bx (As pre x) 9 0]
def lY(me:List c6)(n:Nat):List ce→List ce→Int
 |_,[]=>0
 |pre,x::r=>bx (Au me n pre x !=0) (Au me n pre x) (lY me n (pre++[x]) r)
def IA(me:List c6)(n:Nat)(l:List ce)(pre:List ByteArray)(x:ByteArray):Int:=dI [bx (!Ar me x) 10 0,bx (dT pre x) 9 0,gS l n x]
def rG(me:List c6)(n:Nat)(l:List ce):List ByteArray→List ByteArray→Int
 |_,[]=>0
 |pre,x::r=>bx (IA me n l pre x !=0) (IA me n l pre x) (rG me n l (pre++[x]) r)
def C6(pre:List KepV)(k:KepV):Int:=dI [bx (!cI k.1) 8 0,bx (dT (pre.map (·.1)) k.1) 9 0,ur k.2.1.2,bx (decide ((k.2.2.2.length:Int)>200)) 5 0]
def zd(h:List jL)(c:CrdV):Int:=jy h.length (hP h) (hS h) c.1 c.2.2
def nb(h:List jL):List CrdV→Int
 |[]=>0
 |c::r=>bx (zd h c !=0) (zd h c) (nb h r)
def jO:List KepV→List KepV→Int
 |_,[]=>0
 |pre,k::r=>bx (C6 pre k !=0) (C6 pre k) (bx (nb k.2.1.2 k.2.2.2 !=0) (nb k.2.1.2 k.2.2.2) (jO (pre++[k]) r))
theorem kq(s:ByteArray)(l:List ByteArray):(cF (.str s) (bq l) 0=some none∧dT l s=false)∨∃j,cF (.str s) (bq l) 0=some (some j)∧j<l.length∧dT l s=true:=by
 have H:∀(l:List ByteArray) (i:Nat),(cF (.str s) (bq l) i=some none∧dT l s=false)∨∃j,cF (.str s) (bq l) i=some (some (i+j))∧j<l.length∧dT l s=true:=by
  intro l
  induction l with
  |nil=>exact fun i=> .inl ⟨rfl,rfl⟩
  |cons x l ih=>
   intro i;have hk:fp (.str s) (.str x)=some (de x s):=by
    show some (s==x)=_;rw[beq_toListBytes,m7];rfl
   have e:cF (.str s) (bq (x::l)) i=match some (de x s) with
    |some true=>some (some i)
    |some false=>cF (.str s) (bq l) (i+1)
    |none=>none:=by
    rw[←hk];rfl
   rw[e];have e2:dT (x::l) s=(de x s||dT l s):=rfl;rw[e2];cases hs:de x s with
   |true=>exact .inr ⟨0,rfl,by simp,rfl⟩
   |false=>
    rcases ih (i+1) with⟨h1,h2⟩|⟨j,h1,h2,h3⟩
    ·exact .inl ⟨h1,h2⟩
    ·exact .inr ⟨j+1,by rw[show i+(j+1)=i+1+j by omega];exact h1,by simp;exact h2,h3⟩
 rcases H l 0 with h|⟨j,h1,h2,h3⟩
 ·exact .inl h
 ·exact .inr ⟨j,by rw[Nat.zero_add] at h1;exact h1,h2,h3⟩
theorem pz{s:ByteArray}{l:List ByteArray}{n:Nat}(h:cF (.str s) (bq l) 0=some none):ji (.str s) (.bool true) (bq l) (eH n)=some (bq (l++[s]),eH (n+1)):=by
 unfold ji;rw[h];simp[bq,eH]
def gr(x:ce):D:= .agg [.str x.1,.int .i64 x.2.2.1,.bool (de x.2.1 x.1)]
theorem Cz(x:ce)(l:List ce):(cF (gr x) (l.map gr) 0=some none∧As l x=false)∨∃j,cF (gr x) (l.map gr) 0=some (some j)∧j<l.length∧As l x=true:=by
 have H:∀(l:List ce) (i:Nat),(cF (gr x) (l.map gr) i=some none∧As l x=false)∨∃j,cF (gr x) (l.map gr) i=some (some (i+j))∧j<l.length∧As l x=true:=by
  intro l
  induction l with
  |nil=>exact fun i=> .inl ⟨rfl,rfl⟩
  |cons y l ih=>
   intro i;have hk:fp (gr x) (gr y)=some (gR x.1 x.2.2.1 (de x.2.1 x.1) y):=by
    have e:fp (gr x) (gr y)=some ((x.1==y.1)&&((x.2.2.1==y.2.2.1)&&((de x.2.1 x.1==de y.2.1 y.1)&&true))):=rfl;rw[e,beq_toListBytes];show some (de x.1 y.1&&_)=_;rw[m7 x.1 y.1,Bool.and_true,show(x.2.2.1==y.2.2.1)=(y.2.2.1==x.2.2.1) from Bool.beq_comm ..,show(de x.2.1 x.1==de y.2.1 y.1)=(de y.2.1 y.1==de x.2.1 x.1) from Bool.beq_comm ..];rfl
   have e:cF (gr x) ((y::l).map gr) i=match some (gR x.1 x.2.2.1 (de x.2.1 x.1) y) with
    |some true=>some (some i)
    |some false=>cF (gr x) (l.map gr) (i+1)
    |none=>none:=by
    rw[←hk];rfl
   rw[e];have e2:As (y::l) x=(gR x.1 x.2.2.1 (de x.2.1 x.1) y||As l x):=rfl;rw[e2];cases hs:gR x.1 x.2.2.1 (de x.2.1 x.1) y with
   |true=>exact .inr ⟨0,rfl,by simp,rfl⟩
   |false=>
    rcases ih (i+1) with⟨h1,h2⟩|⟨j,h1,h2,h3⟩
    ·exact .inl ⟨h1,h2⟩
    ·exact .inr ⟨j+1,by rw[show i+(j+1)=i+1+j by omega];exact h1,by simp;exact h2,h3⟩
 rcases H l 0 with h|⟨j,h1,h2,h3⟩
 ·exact .inl h
 ·exact .inr ⟨j,by rw[Nat.zero_add] at h1;exact h1,h2,h3⟩
theorem EQ{x:ce}{l:List ce}{n:Nat}(h:cF (gr x) (l.map gr) 0=some none):ji (gr x) (.bool true) (l.map gr) (eH n)=some ((l++[x]).map gr,eH (n+1)):=by
 unfold ji;rw[h];simp[eH]
section
variable {γ:Type}
theorem kO{o:Option (Option Nat)}(h:o=some none)(a:Option γ)(c:Nat→Option γ):f9 o a c=a:=by rw[h];rfl
theorem iS{o:Option (Option Nat)}{j:Nat}(h:o=some (some j))(a:Option γ)(c:Nat→Option γ):f9 o a c=c j:=by rw[h];rfl
theorem nc{o:Option (List D×List D)}{a b:List D}(h:o=some (a,b))(c:List D→List D→Option γ):kQ o c=c a b:=by rw[h];rfl
end
theorem Ai(E M:Int):bx (E !=0) (some (D.int .i64 E)) (some (D.int .i64 M))=some (.int .i64 (bx (E !=0) E M)):=by cases E !=0<;>rfl
theorem nd(E M K:Int):bx (E !=0) (some (D.int .i64 E)) (some (D.int .i64 (bx (M !=0) M K)))=some (.int .i64 (bx (bx (E !=0) E M !=0) (bx (E !=0) E M) K)):=by
 cases h:E !=0 with
 |true=>rw[br,br,h,br]
 |false=>rfl
section
variable {f0 f1 f2 f3 f4 f5:Bool}{b0 b1 b2 b3 b4 b5:Nat}{e0 e1 e2 e3 e4 e5:List D}
theorem Lu{B:FuncId→List D→Option D}{n:Nat}{H:Int}(cl:List ByteArray)(a111:∀s:LY,B 111 [.str s.1]=some (.bool (cI s.1)))(a119:∀(b:Bool) (e:Int),B 119 [.bool b,.int .i64 e]=some (.int .i64 (bx b e 0)))
  (a118:∀h:Int,B 118 [.int .i64 h,.int .i64 (-99),.int .i64 99]=some (.bool (na h (-99) 99))) (a87:∀x y z w:Int,B 87 [.slc true 4 [.int .i64 x,.int .i64 y,.int .i64 z,.int .i64 w]]=some (.int .i64 (dI [x,y,z,w]))) (a109:B 109 [.slc f2 b2 e2]=some (.int .i64 H)):
  ∀(r pre:List c6) (fuel:Nat),(pre++r).length=n→n≤100000→r.length<fuel→(∀x∈r,x.1.size≤1000)→
  jx B LL C1 fuel f1 n ((pre++r).flatMap bH) f0 b0 e0 f2 b2 e2 f3 b3 e3 f4 b4 e4 f5 b5 e5 (bq cl) (eH cl.length) n (pre.length:Int) (bq (pre.map (·.1))) (eH pre.length)=some (.int .i64 (bx (gT cl pre r !=0) (gT cl pre r) (bx ((b2:Int)==0) 0 H))):=by
 intro r
 induction r with
 |nil=>
  intro pre fuel hn hB hf hs;cases fuel with
  |zero=>exact absurd hf (Nat.not_lt_zero _)
  |succ fuel=>
   subst hn;rw[qL,ct,bo,a109,bm,bp,show gT cl pre []=0 from rfl];cases (b2:Int)==0<;>rfl
 |cons x r ih=>
  intro pre fuel hn hB hf hs;cases fuel with
  |zero=>exact absurd hf (Nat.not_lt_zero _)
  |succ fuel=>
   have ih:=ih (pre++[x]) fuel (by rw[cR];exact hn) hB (by simp at hf;omega) (fun y hy=>hs y (za4 _ hy));rw[cR,List.map_append,show List.map (·.1) [x]=[x.1] from rfl,show(pre++[x]).length=pre.length+1 by simp] at ih;subst hn;have a:=a111 ⟨x.1,hs x (za3 ..)⟩;dsimp only at a;rw[qL,cJ,br,cE,bv,HY,bu,m1,bu,m2,bp,a,bm,bA,ch pre x r (by omega),show(pre++[x]).length=pre.length+1 by simp];simp only[a119,a118,a87,bm,bp,bA];rw[show gT cl pre (x::r)=bx (yg cl pre x !=0) (yg cl pre x) (gT cl (pre++[x]) r) from rfl];unfold yg;rcases kq x.1 (pre.map (·.1)) with⟨g1,g2⟩|⟨j,g1,g2,g3⟩
   ·rw[kO g1,g2];rcases kq x.2.1 cl with⟨k1,k2⟩|⟨k,k1,k2,k3⟩
    ·rw[kO k1,k2];rw[nc (pz g1),ih];exact nd _ _ _
    ·rw[iS k1,k3,cU (fj _ _ k2),bA];rw[nc (pz g1),ih];exact nd _ _ _
   ·rw[iS g1,g3,cU (fj _ _ (by rw[zb8] at g2;exact g2)),bA];rcases kq x.2.1 cl with⟨k1,k2⟩|⟨k,k1,k2,k3⟩
    ·rw[kO k1,k2];cases cI x.1<;>rfl
    ·rw[iS k1,k3,cU (fj _ _ k2),bA];cases cI x.1<;>rfl
theorem Lv{B:FuncId→List D→Option D}{n:Nat}{H:Int}(me:List c6)(hm:me.length≤100000)(hms:∀x∈me,x.1.size≤1000)(a111:∀s:LY,B 111 [.str s.1]=some (.bool (cI s.1)))(a119:∀(b:Bool) (e:Int),B 119 [.bool b,.int .i64 e]=some (.int .i64 (bx b e 0)))
  (a118:∀h:Int,B 118 [.int .i64 h,.int .i64 (-99),.int .i64 99]=some (.bool (na h (-99) 99))) (a87:∀x y z w:Int,B 87 [.slc true 4 [.int .i64 x,.int .i64 y,.int .i64 z,.int .i64 w]]=some (.int .i64 (dI [x,y,z,w])))
  (a87t:∀x y:Int,B 87 [.slc true 2 [.int .i64 x,.int .i64 y]]=some (.int .i64 (dI [x,y]))) (a109:B 109 [.slc f2 b2 e2]=some (.int .i64 H)):
  ∀(r pre:List ByteArray) (fuel:Nat),(pre++r).length=n→n≤100000→r.length<fuel→(∀x∈r,x.size≤1000)→
  qK B LL C1 fuel f0 n (bq (pre++r)) f1 me.length (me.flatMap bH) f2 b2 e2 f3 b3 e3 f4 b4 e4 f5 b5 e5 n (pre.length:Int) (bq pre) (eH pre.length)=some (.int .i64 (bx (lX pre r !=0) (lX pre r) (bx (gT (pre++r) [] me !=0) (gT (pre++r) [] me) (bx ((b2:Int)==0) 0 H)))):=by
 intro r
 induction r with
 |nil=>
  intro pre fuel hn hB hf hs;cases fuel with
  |zero=>exact absurd hf (Nat.not_lt_zero _)
  |succ fuel=>
   subst hn;have:=Lu (f0:=f0) (f1:=f1) (f2:=f2) (f3:=f3) (f4:=f4) (f5:=f5) (b0:=(pre++[]).length) (b2:=b2) (b3:=b3) (b4:=b4) (b5:=b5) (e0:=bq (pre++[])) (e2:=e2) (e3:=e3) (e4:=e4) (e5:=e5) (n:=me.length) pre a111 a119 a118 a87 a109 me [] LL rfl hm (by unfold LL;omega) hms;rw[sV,ct,bo];refine this.trans ?_;rw[zb2];rfl
 |cons x r ih=>
  intro pre fuel hn hB hf hs;cases fuel with
  |zero=>exact absurd hf (Nat.not_lt_zero _)
  |succ fuel=>
   have ih:=ih (pre++[x]) fuel (by rw[cR];exact hn) hB (by simp at hf;omega) (fun y hy=>hs y (za4 _ hy));rw[cR] at ih;subst hn;have a:=a111 ⟨x,hs x (za3 ..)⟩;dsimp only at a;rw[sV,cJ,br,cE,bv,t0,bu,a,bm,bA,ch pre x r (by omega)];simp only[a119,a87t,bm,bp];rw[show lX pre (x::r)=bx (dI [bx (!cI x) 8 0,bx (dT pre x) 9 0] !=0) (dI [bx (!cI x) 8 0,bx (dT pre x) 9 0]) (lX (pre++[x]) r) from rfl];rcases kq x pre with⟨g1,g2⟩|⟨j,g1,g2,g3⟩
   ·rw[kO g1,g2,nc (pz g1),show eH (pre.length+1)=eH (pre++[x]).length by rw[za5];rfl,ih];exact nd _ _ _
   ·rw[iS g1,g3,cU (fj _ _ g2),bA];cases cI x<;>rfl
def ER(cl:List ByteArray)(me:List c6)(ho:List jL):Int:=bx (lX [] cl !=0) (lX [] cl) (bx (gT cl [] me !=0) (gT cl [] me) (bx ((ho.length:Int)==0) 0 (ur ho)))
theorem M2(cl:List ByteArray)(me:List c6)(ho:List jL)(hc:cl.length≤100000)(hm:me.length≤100000)(hcs:∀x∈cl,x.size≤1000)(hms:∀x∈me,x.1.size≤1000):
  co 86 [.agg [.slc f0 cl.length (bq cl),.slc f1 me.length (me.flatMap bH),.slc f2 ho.length (ho.flatMap bL),.slc f3 b3 e3,.slc f4 b4 e4,.slc f5 b5 e5]] (.int .i64 (ER cl me ho)):=by
 obtain⟨B,hB,hF⟩:=jK [fa111,fa119,fa118,fa87,one 109 [.slc f2 ho.length (ho.flatMap bL)] (.int .i64 (ur ho))] ⟨ra,fV,lW,iR,bO (Cw (Ah ho)),trivial⟩ rfl;refine eM hB Tryz.func86 (ord:=O0) (N:=LU) (by kernel_rfl) ((HM _ _ _ _ _ _ _ _ _ _ _ _ _ _ _ _ _ _ _ _ _).trans ?_);exact Lv (H:=ur ho) me hm hms hF.1 (fun b e=>hF.2.1 (b,e)) (fun h=>hF.2.2.1 (h,-99,99)) (fun x y z w=>hF.2.2.2.1 ⟨[x,y,z,w],by simp⟩) (fun x y=>hF.2.2.2.1 ⟨[x,y],by simp⟩) (hF.2.2.2.2.1 ()) cl [] LL rfl hc (by unfold LL;omega) hcs
end
end Go.Pd
end
section
namespace Go.Pd
open Go Go.Proofs Go.RowKit
set_option maxRecDepth 100000
def FF(k:FuncId)(u:D)(g:ByteArray→D):Fam:=⟨k,ByteArray,fun s=>[u,.str s],g⟩
theorem gU{k:FuncId}{u:D}{g:ByteArray→D}(h:∀s,co k [u,.str s] (g s)):(FF k u g).Good:=⟨h,fun i j e=>by
 have e:[u,D.str i]=[u,D.str j]:=e;simp only[zc1,and_true,true_and] at e;rw[show i=j from D.str.inj e]⟩
theorem lZ(me:List c6)(s:ByteArray):decide (ix (fun m=>de m.1 s) me<0)= !Ar me s:=HX _ _
section
variable {f0 f1 f2 f3 f4 f5:Bool}{b0 b1 b2 b3 b4 b5:Nat}{e0 e1 e2 e3 e4 e5:List D}
theorem Lw{B:FuncId→List D→Option D}{n N:Nat}(me:List c6)(l:List ce)
  (a154:∀s,B 154 [.agg [.slc f0 b0 e0,.slc f1 b1 e1,.slc f2 b2 e2,.slc f3 b3 e3,.slc f4 n e4,.slc f5 b5 e5],.str s]=some (.int .i64 (ix (fun m=>de m.1 s) me)))
  (a94:∀s,B 94 [.agg [.slc f0 b0 e0,.slc f1 b1 e1,.slc f2 b2 e2,.slc f3 b3 e3,.slc f4 n e4,.slc f5 b5 e5],.str s]=some (.int .i64 (gS l N s)))
  (a119:∀(b:Bool) (e:Int),B 119 [.bool b,.int .i64 e]=some (.int .i64 (bx b e 0))) (a87:∀x y z:Int,B 87 [.slc true 3 [.int .i64 x,.int .i64 y,.int .i64 z]]=some (.int .i64 (dI [x,y,z])))
  (a155:∀(f:Bool) (l:List ByteArray) (s:ByteArray),l.length≤100000→B 155 [.slc f l.length (bq l),.str s]=some (.bool (dT l s))):
  ∀(r pre:List ByteArray) (fuel:Nat),(pre++r).length=n→e4=bq (pre++r)→n≤100000→r.length<fuel→
  mS B LL C1 fuel f4 n (bq (pre++r)) f0 b0 e0 f1 b1 e1 f2 b2 e2 f3 b3 e3 f5 b5 e5 n (pre.length:Int)=some (.int .i64 (rG me N l pre r)):=by
 intro r
 induction r with
 |nil=>
  intro pre fuel hn he hB hf;cases fuel with
  |zero=>exact absurd hf (Nat.not_lt_zero _)
  |succ fuel=>
   subst hn;rw[qN,ct,bo];rfl
 |cons x r ih=>
  intro pre fuel hn he hB hf;cases fuel with
  |zero=>exact absurd hf (Nat.not_lt_zero _)
  |succ fuel=>
   have ih:=ih (pre++[x]) fuel (by rw[cR];exact hn) (by rw[cR];exact he) hB (by simp at hf;omega);rw[cR] at ih;subst hn;rw[←he] at ih;rw[qN,cJ,br,cE,bv,t0,bu,←he,a154,bm,bp,lZ,a119,bm,bp,un,bv,he,nS,a155 _ _ _ (by simp at hB;omega),bm,bA,a119,bm,bp,←he,a94,bm,bp,a87,bm,bp,ch pre x r (by omega),ih];exact Ai (IA me N l pre x) (rG me N l (pre++[x]) r)
theorem Lx{B:FuncId→List D→Option D}{n:Nat}{S:Int}(me:List c6)
  (a153:∀m:ce,B 153 [.agg [.str m.1,.str m.2.1,.int .i64 m.2.2.1,.int .i64 m.2.2.2.1,.str m.2.2.2.2]]=some (.bool (de m.2.1 m.1)))
  (a154:∀s,B 154 [.agg [.slc f0 b0 e0,.slc f1 b1 e1,.slc f2 b2 e2,.slc f3 n e3,.slc f4 b4 e4,.slc f5 b5 e5],.str s]=some (.int .i64 (ix (fun m=>de m.1 s) me)))
  (a118:∀h:Int,B 118 [.int .i64 h,.int .i64 1,.int .i64 (b2:Int)]=some (.bool (na h 1 (b2:Int))))
  (a147:∀x:cv,B 147 [.agg [.int .i64 x.1,.str x.2]]=some (.int .i64 (dY x)))
  (a119:∀(b:Bool) (e:Int),B 119 [.bool b,.int .i64 e]=some (.int .i64 (bx b e 0))) (a87:∀x y z:Int,B 87 [.slc true 3 [.int .i64 x,.int .i64 y,.int .i64 z]]=some (.int .i64 (dI [x,y,z])))
  (hS:mS B LL C1 LL f4 b4 e4 f0 b0 e0 f1 b1 e1 f2 b2 e2 f3 n e3 f5 b5 e5 b4 0=some (.int .i64 S)):
  ∀(r pre:List ce) (fuel:Nat),(pre++r).length=n→e3=(pre++r).flatMap bB→n≤100000→r.length<fuel→
  qM B LL C1 fuel f3 n ((pre++r).flatMap bB) f0 b0 e0 f1 b1 e1 f2 b2 e2 f4 b4 e4 f5 b5 e5 n (pre.length:Int) (pre.map gr) (eH pre.length)=some (.int .i64 (bx (lY me b2 pre r !=0) (lY me b2 pre r) S)):=by
 intro r
 induction r with
 |nil=>
  intro pre fuel hn he hB hf;cases fuel with
  |zero=>exact absurd hf (Nat.not_lt_zero _)
  |succ fuel=>
   subst hn;rw[sW,ct,bo,←he];exact hS
 |cons x r ih=>
  intro pre fuel hn he hB hf;cases fuel with
  |zero=>exact absurd hf (Nat.not_lt_zero _)
  |succ fuel=>
   have ih:=ih (pre++[x]) fuel (by rw[cR];exact hn) (by rw[cR];exact he) hB (by simp at hf;omega);rw[cR,show(pre++[x]).length=pre.length+1 by simp] at ih;subst hn;have h14:∀st:Bool,gH B LL C1 fuel f3 (pre++x::r).length ((pre++x::r).flatMap bB) ((pre++x::r).length:Int) (pre.length:Int) f0 b0 e0 f1 b1 e1 f2 b2 e2 f4 b4 e4 f5 b5 e5 (pre.map gr) (eH pre.length) st x.1 x.2.1 x.2.2.1 x.2.2.2.1 x.2.2.2.2 x.1 x.2.2.1 (de x.2.1 x.1)=
     some (.int .i64 (bx (bx (dI [bx st 10 0,dY x.2.2.2,bx (As pre x) 9 0] !=0) (dI [bx st 10 0,dY x.2.2.2,bx (As pre x) 9 0]) (lY me b2 (pre++[x]) r) !=0) (bx (dI [bx st 10 0,dY x.2.2.2,bx (As pre x) 9 0] !=0) (dI [bx st 10 0,dY x.2.2.2,bx (As pre x) 9 0]) (lY me b2 (pre++[x]) r)) S)):=fun st=>by
    rw[ug (hC:=c1),a119,bm,bp,a147 x.2.2.2,bm,bp,ch pre x r (by omega),show(pre++[x]).length=pre.length+1 by simp];simp only[a119,a87,bm,bp];rcases Cz x pre with⟨g1,g2⟩|⟨j,g1,g2,g3⟩
    ·rw[show D.agg [D.str x.1,D.int IntKind.i64 x.2.2.1,D.bool (de x.2.1 x.1)]=gr x from rfl,kO g1,g2,nc (EQ g1),ih];exact nd _ _ _
    ·rw[show D.agg [D.str x.1,D.int IntKind.i64 x.2.2.1,D.bool (de x.2.1 x.1)]=gr x from rfl,iS g1,g3,cU (fj _ _ g2),bA];have hne:(dI [bx st 10 0,dY x.2.2.2,bx true 9 0] !=0)=true:=by
      unfold dI;cases st with
      |true=>rfl
      |false=>
       show(dI [dY x.2.2.2,bx true 9 0] !=0)=true;unfold dI;cases h:dY x.2.2.2 !=0 with
       |true=>rw[br,h]
       |false=>rfl
     rw[hne];show some (D.int .i64 (dI [bx st 10 0,dY x.2.2.2,bx true 9 0]))=some (D.int .i64 (bx (dI [bx st 10 0,dY x.2.2.2,bx true 9 0] !=0) (dI [bx st 10 0,dY x.2.2.2,bx true 9 0]) S));rw[hne];rfl
   have e153:=a153 x;rw[sW,cJ,br,cE,bv,k0,bu,k1,bu,k2,bp,k3,bp,k4,bu,e153,bm,bA,←he,a154,bm,bp,lZ,a154,bm,bp,lZ,a118,bm,bA,he,h14,h14];rw[show lY me b2 pre (x::r)=bx (Au me b2 pre x !=0) (Au me b2 pre x) (lY me b2 (pre++[x]) r) from rfl];unfold Au uo;cases Ar me x.1<;>cases Ar me x.2.1<;>rfl
def FH(me:List c6)(n:Nat)(l:List ce)(sg:List ByteArray):Int:=bx (lY me n [] l !=0) (lY me n [] l) (rG me n l [] sg)
theorem M3(me:List c6)(n:Nat)(l:List ce)(sg:List ByteArray)(hm:me.length≤100000)(hn:n≤100000)(hl:l.length≤100000)(hs:sg.length≤100000):
  co 88 [.agg [.slc f0 b0 e0,.slc f1 me.length (me.flatMap bH),.slc f2 n e2,.slc f3 l.length (l.flatMap bB),.slc f4 sg.length (bq sg),.slc f5 b5 e5]] (.int .i64 (FH me n l sg)):=by
 obtain⟨B,hB,hF⟩:=jK [fa153,FF 154 (.agg [.slc f0 b0 e0,.slc f1 me.length (me.flatMap bH),.slc f2 n e2,.slc f3 l.length (l.flatMap bB),.slc f4 sg.length (bq sg),.slc f5 b5 e5]) (fun s=> .int .i64 (ix (fun m=>de m.1 s) me)),fa118,fa147,fa119,fa87,FF 94 (.agg [.slc f0 b0 e0,.slc f1 me.length (me.flatMap bH),.slc f2 n e2,.slc f3 l.length (l.flatMap bB),.slc f4 sg.length (bq sg),.slc f5 b5 e5]) (fun s=> .int .i64 (gS l n s)),fa155]
  ⟨qZ,gU fun s=>FE me s hm,lW,yd,fV,iR,gU fun s=>Lt l s hn hl,yf,trivial⟩ (by kernel_rfl)
 obtain⟨h1,h2,h3,h4,h5,h6,h7,h8,_⟩:=hF;refine eM hB Tryz.func88 (ord:=KG) (N:=KF) (by kernel_rfl) ((HN _ _ _ _ _ _ _ _ _ _ _ _ _ _ _ _ _ _ _ _ _).trans ?_);have a87:∀x y z:Int,B 87 [.slc true 3 [.int .i64 x,.int .i64 y,.int .i64 z]]=some (.int .i64 (dI [x,y,z])):=fun x y z=>h6 ⟨[x,y,z],by simp⟩;have hS:=Lw (f0:=f0) (f1:=f1) (f2:=f2) (f3:=f3) (f4:=f4) (f5:=f5) (b0:=b0) (b1:=me.length) (b2:=n) (b3:=l.length) (b5:=b5) (e0:=e0) (e1:=me.flatMap bH) (e2:=e2) (e3:=l.flatMap bB) (e4:=bq sg) (e5:=e5) (n:=sg.length) (N:=n) me l h2 h7 (fun b e=>h5 (b,e)) a87 (fun f l s hl=>h8 (f,⟨l,hl⟩,s)) sg [] LL rfl rfl hs (by unfold LL;omega);exact Lx (e3:=l.flatMap bB) me h1 h2 (fun h=>h3 (h,1,(n:Int))) h4 (fun b e=>h5 (b,e)) a87 hS l [] LL rfl rfl hl (by unfold LL;omega)
end
theorem nf{α:Type}{g:α→List D}{w:Nat}(h0:0<w)(hw:∀x,(g x).length=w)(hg:∀x y,g x=g y→x=y):∀{l m:List α},l.flatMap g=m.flatMap g→l=m
 |[],[],_=>rfl
 |[],y::m,h=>by
  have:=congrArg List.length h;simp[hw] at this;omega
 |x::l,[],h=>by
  have:=congrArg List.length h;simp[hw] at this;omega
 |x::l,y::m,h=>by
  rw[List.flatMap_cons,List.flatMap_cons] at h;obtain⟨h1,h2⟩:=List.append_inj h (by rw[hw,hw]);rw[hg x y h1,nf h0 hw hg (l:=l) (m:=m) h2]
theorem CA{x y:cv}(h:ci x=ci y):x=y:=by
 obtain⟨a,b⟩:=x;obtain⟨a',b'⟩:=y;simp[ci] at h;simp[h]
theorem CB{x y:jL}(h:bL x=bL y):x=y:=by
 obtain⟨a,b⟩:=x;obtain⟨a',b'⟩:=y;simp[bL] at h;simp[h]
theorem wy{l m:List cv}(h:l.flatMap ci=m.flatMap ci):l=m:=nf (w:=2) (by omega) (fun _=>rfl) (fun _ _=>CA) h
theorem rb{l m:List jL}(h:l.flatMap bL=m.flatMap bL):l=m:=nf (w:=2) (by omega) (fun _=>rfl) (fun _ _=>CB) h
abbrev CD:=Bool×List jL
theorem wz{x y:CD}(h:[D.slc x.1 x.2.length (x.2.flatMap bL)]=[D.slc y.1 y.2.length (y.2.flatMap bL)]):x=y:=by
 obtain⟨a,b⟩:=x;obtain⟨a',b'⟩:=y;simp only[zc1,and_true,D.slc.injEq] at h;obtain⟨h1,_,h2⟩:=h;rw[h1,rb h2]
def fa109:Fam:=⟨109,CD,fun x=>[.slc x.1 x.2.length (x.2.flatMap bL)],fun x=> .int .i64 (ur x.2)⟩
theorem yi:fa109.Good:=⟨fun x=>Cw (Ah x.2),fun i j h=>by rw[wz h]⟩
def fa83:Fam:=⟨83,CD,fun x=>[.slc x.1 x.2.length (x.2.flatMap bL)],fun x=> .int .i64 (ur x.2)⟩
theorem ta:fa83.Good:=⟨fun x=>K2 (Ah x.2),fun i j h=>by rw[wz h]⟩
def CrdV.Fit(c:CrdV):Prop:=c.1.size≤1000∧c.2.2.length≤1000
abbrev ES:={x:CD×CrdV//x.2.Fit}
theorem wA{x y:ES}(h:[D.slc x.1.1.1 x.1.1.2.length (x.1.1.2.flatMap bL),D.agg [D.str x.1.2.1,D.slc x.1.2.2.1 x.1.2.2.2.length (x.1.2.2.2.flatMap ci)]]=[D.slc y.1.1.1 y.1.1.2.length (y.1.1.2.flatMap bL),D.agg [D.str y.1.2.1,D.slc y.1.2.2.1 y.1.2.2.2.length (y.1.2.2.2.flatMap ci)]]):x=y:=by
 obtain⟨⟨⟨a,b⟩,c,d,e⟩,hx⟩:=x;obtain⟨⟨⟨a',b'⟩,c',d',e'⟩,hy⟩:=y;simp only[zc1,and_true,D.slc.injEq,D.agg.injEq,D.str.injEq] at h;obtain⟨⟨h1,_,h2⟩,h3,h4,_,h5⟩:=h;obtain rfl:=rb h2;obtain rfl:=wy h5;subst h1 h3 h4;rfl
def fa41:Fam:=⟨41,ES,fun x=>[.slc x.1.1.1 x.1.1.2.length (x.1.1.2.flatMap bL),.agg [.str x.1.2.1,.slc x.1.2.2.1 x.1.2.2.2.length (x.1.2.2.2.flatMap ci)]],fun x=> .int .i64 (zd x.1.1.2 x.1.2)⟩
theorem Aj:fa41.Good:=⟨fun x=>K3 (Ah x.1.1.2) x.1.2.1 x.1.2.2.2 (by have:=x.2.1;omega) x.2.2,fun i j h=>by rw[wA h]⟩
def fa152:Fam:=⟨152,ES,fun x=>[.slc x.1.1.1 x.1.1.2.length (x.1.1.2.flatMap bL),.agg [.str x.1.2.1,.slc x.1.2.2.1 x.1.2.2.2.length (x.1.2.2.2.flatMap ci)]],fun x=> .int .i64 (zd x.1.1.2 x.1.2)⟩
theorem yj:fa152.Good:=⟨fun x=>K4 (Ah x.1.1.2) x.1.2.1 x.1.2.2.2 x.2.2,fun i j h=>by rw[wA h]⟩
section
variable {γ:Type}(c:D→Option γ)
theorem c0(pre:List CrdV)(x:CrdV)(r:List CrdV):bn ((pre++x::r).flatMap jz) (Int.toNat (pre.length:Int)*2+0) c=c (.str x.1):=dE pre x r jz 2 (fun _=>rfl) 0 (by omega) c
theorem M4(pre:List CrdV)(x:CrdV)(r:List CrdV):bn ((pre++x::r).flatMap jz) (Int.toNat (pre.length:Int)*2+1) c=c (.slc x.2.1 x.2.2.length (x.2.2.flatMap ci)):=dE pre x r jz 2 (fun _=>rfl) 1 (by omega) c
theorem p1(pre:List KepV)(x:KepV)(r:List KepV):bn ((pre++x::r).flatMap bK) (Int.toNat (pre.length:Int)*3+1) c=c (.slc x.2.1.1 x.2.1.2.length (x.2.1.2.flatMap bL)):=dE pre x r bK 3 (fun _=>rfl) 1 (by omega) c
theorem p2(pre:List KepV)(x:KepV)(r:List KepV):bn ((pre++x::r).flatMap bK) (Int.toNat (pre.length:Int)*3+2) c=c (.slc x.2.2.1 x.2.2.2.length (x.2.2.2.flatMap jz)):=dE pre x r bK 3 (fun _=>rfl) 2 (by omega) c
end
def KepV.Fit(k:KepV):Prop:=k.1.size≤1000∧k.2.2.2.length≤100000∧∀c∈k.2.2.2,c.Fit
section
variable {f0 f1 f2 f3 f4 f5:Bool}{b0 b1 b2 b3 b4 b5:Nat}{e0 e1 e2 e3 e4 e5:List D}
theorem Ly{B:FuncId→List D→Option D}{n:Nat}{g h0:Bool}{t13 t14:Int}{ks vs:List D}(s:ByteArray)(h:List jL)(fu:Nat)
  (a41:∀c:CrdV,c.Fit→B 41 [.slc h0 h.length (h.flatMap bL),.agg [.str c.1,.slc c.2.1 c.2.2.length (c.2.2.flatMap ci)]]=some (.int .i64 (zd h c))):
  ∀(r pre:List CrdV) (fuel:Nat),(pre++r).length=n→n≤100000→r.length<fuel→(∀c∈r,c.Fit)→
  kF B LL C1 fu fuel f5 b5 e5 t13 t14 g n ((pre++r).flatMap jz) s h0 h.length (h.flatMap bL) n (pre.length:Int) ks vs=bx (nb h r !=0) (some (.int .i64 (nb h r))) (qO B LL C1 fu f5 b5 e5 t13 (IntKind.wrap .i64 (t14+1)) ks vs):=by
 intro r
 induction r with
 |nil=>
  intro pre fuel hn hB hf hs;cases fuel with
  |zero=>exact absurd hf (Nat.not_lt_zero _)
  |succ fuel=>
   subst hn;rw[mU,ct,bo];rfl
 |cons x r ih=>
  intro pre fuel hn hB hf hs;cases fuel with
  |zero=>exact absurd hf (Nat.not_lt_zero _)
  |succ fuel=>
   have ih:=ih (pre++[x]) fuel (by rw[cR];exact hn) hB (by simp at hf;omega) (fun c hc=>hs c (za4 _ hc));rw[cR] at ih;subst hn;rw[mU,cJ,br,cE,bv,c0,bu,M4,bG,a41 x (hs x (za3 ..)),bm,bp,ch pre x r (by omega),ih];show bx (zd h x !=0) _ _=bx (bx (zd h x !=0) (zd h x) (nb h r) !=0) (some (D.int .i64 (bx (zd h x !=0) (zd h x) (nb h r)))) _;cases hE:zd h x !=0 with
   |true=>rw[br,br,hE,br]
   |false=>rfl
theorem M5{B:FuncId→List D→Option D}{n:Nat}(a111:∀s:LY,B 111 [.str s.1]=some (.bool (cI s.1)))(a119:∀(b:Bool) (e:Int),B 119 [.bool b,.int .i64 e]=some (.int .i64 (bx b e 0)))
  (a87:∀x y z w:Int,B 87 [.slc true 4 [.int .i64 x,.int .i64 y,.int .i64 z,.int .i64 w]]=some (.int .i64 (dI [x,y,z,w])))
  (a109:∀x:CD,B 109 [.slc x.1 x.2.length (x.2.flatMap bL)]=some (.int .i64 (ur x.2)))
  (a41:∀x:ES,B 41 [.slc x.1.1.1 x.1.1.2.length (x.1.1.2.flatMap bL),.agg [.str x.1.2.1,.slc x.1.2.2.1 x.1.2.2.2.length (x.1.2.2.2.flatMap ci)]]=some (.int .i64 (zd x.1.1.2 x.1.2))):
  ∀(r pre:List KepV) (fuel:Nat),(pre++r).length=n→n≤100000→r.length<fuel→(∀k∈r,k.Fit)→
  qO B LL C1 fuel f5 n ((pre++r).flatMap bK) n (pre.length:Int) (bq (pre.map (·.1))) (eH pre.length)=some (.int .i64 (jO pre r)):=by
 intro r
 induction r with
 |nil=>
  intro pre fuel hn hB hf hs;cases fuel with
  |zero=>exact absurd hf (Nat.not_lt_zero _)
  |succ fuel=>
   subst hn;rw[sX,ct,bo];rfl
 |cons k r ih=>
  intro pre fuel hn hB hf hs;cases fuel with
  |zero=>exact absurd hf (Nat.not_lt_zero _)
  |succ fuel=>
   have ih:=ih (pre++[k]) fuel (by rw[cR];exact hn) hB (by simp at hf;omega) (fun c hc=>hs c (za4 _ hc));rw[cR,List.map_append,show List.map (·.1) [k]=[k.1] from rfl,show(pre++[k]).length=pre.length+1 by simp] at ih;subst hn;obtain⟨hk1,hk2,hk3⟩:=hs k (za3 ..);have a:=a111 ⟨k.1,hk1⟩;dsimp only at a;have e109:=a109 (k.2.1.1,k.2.1.2);dsimp only at e109;have hca:=Ly (B:=B) (n:=k.2.2.2.length) (g:=k.2.2.1) (h0:=k.2.1.1) (f5:=f5) (b5:=(pre++k::r).length) (e5:=(pre++k::r).flatMap bK) (t13:=((pre++k::r).length:Int)) (t14:=(pre.length:Int)) (ks:=bq (pre.map (·.1)++[k.1])) (vs:=eH (pre.length+1)) k.1 k.2.1.2 fuel
    (fun c hc=>a41 ⟨((k.2.1.1,k.2.1.2),c),hc⟩) k.2.2.2 [] LL rfl hk2 (by unfold LL;omega) hk3
   rw[ch pre k r (by omega),show(pre++[k]).length=pre.length+1 by simp,ih] at hca;rw[sX,cJ,br,cE,bv,p0,bu,p1,bG,p2,bG,a,bm,bA];simp only[a119,a87,e109,bm,bp];rw[show jO pre (k::r)=bx (C6 pre k !=0) (C6 pre k) (bx (nb k.2.1.2 k.2.2.2 !=0) (nb k.2.1.2 k.2.2.2) (jO (pre++[k]) r)) from rfl];unfold C6;rcases kq k.1 (pre.map (·.1)) with⟨g1,g2⟩|⟨j,g1,g2,g3⟩
   ·rw[kO g1,g2,wl (hC:=c1),nc (pz g1)];refine(congrArg (fun z=>bx (dI [bx (!cI k.1) 8 0,bx false 9 0,ur k.2.1.2,bx (decide ((k.2.2.2.length:Int)>200)) 5 0] !=0) _ z) hca).trans ?_;rw[Ai];exact Ai _ _
   ·rw[iS g1,g3,cU (fj _ _ (by rw[zb8] at g2;exact g2)),bA];cases cI k.1<;>rfl
theorem M6(l:List KepV)(hl:l.length≤100000)(hs:∀k∈l,k.Fit):co 89 [.agg [.slc f0 b0 e0,.slc f1 b1 e1,.slc f2 b2 e2,.slc f3 b3 e3,.slc f4 b4 e4,.slc f5 l.length (l.flatMap bK)]] (.int .i64 (jO [] l)):=by
 obtain⟨B,hB,hF⟩:=jK [fa111,fa119,fa87,fa109,fa41] ⟨ra,fV,iR,yi,Aj,trivial⟩ (by kernel_rfl);obtain⟨h1,h2,h3,h4,h5,_⟩:=hF;refine eM hB Tryz.func89 (ord:=O0) (N:=KH) (by kernel_rfl) ((HO _ _ _ _ _ _ _ _ _ _ _ _ _ _ _ _ _ _ _ _ _).trans ?_);exact M5 h1 (fun b e=>h2 (b,e)) (fun x y z w=>h3 ⟨[x,y,z,w],by simp⟩) h4 h5 l [] LL rfl hl (by unfold LL;omega) hs
end
def UV.Fit'(u:UV):Prop:=u.Fit∧(∀x∈u.cl,x.size≤1000)∧(∀x∈u.me,x.1.size≤1000)∧∀k∈u.pa,k.Fit
def wB(u:UV):Bool:=decide ((u.cl.length:Int)>256)||(decide ((u.me.length:Int)>200)||(decide ((u.mr.length:Int)>1000)||(decide ((u.sg.length:Int)>200)||decide ((u.pa.length:Int)>256))))
def uE(u:UV):Int:=bx (wB u) 5 (bx (ER u.cl u.me u.ho !=0) (ER u.cl u.me u.ho) (dI [FH u.me u.ho.length u.mr u.sg,jO [] u.pa]))
theorem M7(u:UV)(hu:u.Fit'):co 17 [jM u] (.int .i64 (uE u)):=by
 obtain⟨⟨l0,l1,l2,l3,l4,l5⟩,h6,h7,h8⟩:=hu;obtain⟨B,hB,hF⟩:=jK [one 86 [jM u] (.int .i64 (ER u.cl u.me u.ho)),one 88 [jM u] (.int .i64 (FH u.me u.ho.length u.mr u.sg)),one 89 [jM u] (.int .i64 (jO [] u.pa)),fa87]
  ⟨bO (M2 u.cl u.me u.ho l0 l1 h6 h7),bO (M3 u.me u.ho.length u.mr u.sg l1 l2 l3 l4),bO (M6 u.pa l5 h8),iR,trivial⟩ (by kernel_rfl)
 obtain⟨a,b,c,d,_⟩:=hF;have a:B 86 [jM u]=some (.int .i64 (ER u.cl u.me u.ho)):=a ();have b:B 88 [jM u]=some (.int .i64 (FH u.me u.ho.length u.mr u.sg)):=b ();have c:B 89 [jM u]=some (.int .i64 (jO [] u.pa)):=c ();have a87:∀x y:Int,B 87 [.slc true 2 [.int .i64 x,.int .i64 y]]=some (.int .i64 (dI [x,y])):=fun x y=>d ⟨[x,y],by simp⟩;have h7':∀g:Bool,oz B LL C1 u.cf u.cl.length (bq u.cl) u.mf u.me.length (u.me.flatMap bH) u.hf u.ho.length (u.ho.flatMap bL) u.kf u.mr.length (u.mr.flatMap bB) u.sf u.sg.length (bq u.sg) u.pf u.pa.length (u.pa.flatMap bK) g=some (.int .i64 (bx g 5 (bx (ER u.cl u.me u.ho !=0) (ER u.cl u.me u.ho) (dI [FH u.me u.ho.length u.mr u.sg,jO [] u.pa])))):=fun g=>by
  rw[Cq (hC:=c1)];unfold jM at a b c;rw[a,bm,bp,b,bm,bp,c,bm,bp,a87,bm,bp,Ai];cases g<;>rfl
 refine eM hB Tryz.func17 (ord:=O0) (N:=MO) (by kernel_rfl) ((HL _ _ _ _ _ _ _ _ _ _ _ _ _ _ _ _ _ _ _ _ _).trans ?_);rw[h7',h7'];unfold uE wB;cases decide ((u.cl.length:Int)>256)<;>cases decide ((u.me.length:Int)>200)<;>cases decide ((u.mr.length:Int)>1000)<;>cases decide ((u.sg.length:Int)>200)<;>rfl
theorem wC{α:Type}(p:α→Bool)(x:α)(hx:p x=true)(r:List α):∀(pre:List α) (i:Nat),decide (jN p (pre++x::r) i<((i+pre.length:Nat):Int))=pre.any p
 |[],i=>by
  rw[zb3,show jN p (x::r) i=bx (p x) (i:Int) (jN p r (i+1)) from rfl,hx,br];simp
 |y::pre,i=>by
  rw[List.cons_append,show jN p (y::(pre++x::r)) i=bx (p y) (i:Int) (jN p (pre++x::r) (i+1)) from rfl];have ih:=wC p x hx r pre (i+1);rw[show i+1+pre.length=i+(y::pre).length by simp;omega] at ih;cases hy:p y with
  |true=>
   rw[br];simp[hy];omega
  |false=>
   rw[bo,ih];simp[hy]
theorem CE{α:Type}(p:α→Bool)(pre:List α)(x:α)(r:List α)(hx:p x=true):decide (ix p (pre++x::r)<(pre.length:Int))=pre.any p:=by
 have:=wC p x hx r pre 0;rw[Nat.zero_add] at this;exact this
theorem ng(s:ByteArray):de s s=true:=sEq_iff.2 rfl
theorem wD(l:List c6)(s:ByteArray):(l.any fun m=>de m.1 s)=dT (l.map (·.1)) s:=by
 unfold dT;rw[List.any_map];rfl
theorem up(l:List KepV)(s:ByteArray):(l.any fun m=>de m.1 s)=dT (l.map (·.1)) s:=by
 unfold dT;rw[List.any_map];rfl
theorem ET{α:Type}{a a':List α}{x x':α}{r r':List α}(h:a++x::r=a'++x'::r')(hl:a.length=a'.length):a=a'∧x=x'∧r=r':=by
 obtain⟨h1,h2⟩:=List.append_inj h hl;simp at h2;exact⟨h1,h2.1,h2.2⟩
abbrev At(α:Type)(l:List α):={y:List α×α×List α//l=y.1++y.2.1::y.2.2}
def EU{α:Type}(k:FuncId)(u:D)(l:List α)(g:List α→α→Int):Fam:=⟨k,At α l,fun y=>[u,.int .i64 (y.1.1.length:Int)],fun y=> .int .i64 (g y.1.1 y.1.2.1)⟩
theorem nT{α:Type}{k:FuncId}{u:D}{l:List α}{g:List α→α→Int}(h:∀pre x r,l=pre++x::r→co k [u,.int .i64 (pre.length:Int)] (.int .i64 (g pre x))):(EU k u l g).Good:=by
 refine⟨fun y=>h _ _ _ y.2,fun i j e=> ?_⟩;have e:[u,D.int .i64 (i.1.1.length:Int)]=[u,D.int .i64 (j.1.1.length:Int)]:=e;simp only[zc1,and_true,true_and,D.int.injEq] at e;obtain⟨h1,h2,h3⟩:=ET (i.2.symm.trans j.2) (by omega);show D.int .i64 (g i.1.1 i.1.2.1)=D.int .i64 (g j.1.1 j.1.2.1);rw[h1,h2]
section
variable {f0 f1 f2 f3 f4 f5:Bool}{b0 b1 b2 b3 b4 b5:Nat}{e0 e1 e2 e3 e4 e5:List D}
theorem M8(cl:List ByteArray)(pre:List c6)(x:c6)(r:List c6)(hc:cl.length≤100000)(hm:(pre++x::r).length≤100000):
  co 82 [.agg [.slc f0 cl.length (bq cl),.slc f1 (pre++x::r).length ((pre++x::r).flatMap bH),.slc f2 b2 e2,.slc f3 b3 e3,.slc f4 b4 e4,.slc f5 b5 e5],.int .i64 (pre.length:Int)] (.int .i64 (yg cl pre x)):=by
 obtain⟨B,hB,hF⟩:=jK [fa80,FF 23 (.agg [.slc f0 cl.length (bq cl),.slc f1 (pre++x::r).length ((pre++x::r).flatMap bH),.slc f2 b2 e2,.slc f3 b3 e3,.slc f4 b4 e4,.slc f5 b5 e5]) (fun s=> .int .i64 (ix (fun m=>de m.1 s) (pre++x::r))),fa81] ⟨nR,gU fun s=>HZ _ s hm,s9,trivial⟩ (by kernel_rfl);obtain⟨h1,h2,h3,_⟩:=hF;have a80:∀s,B 80 [.str s]=some (.bool (cI s)):=h1;have a23:∀s,B 23 [.agg [.slc f0 cl.length (bq cl),.slc f1 (pre++x::r).length ((pre++x::r).flatMap bH),.slc f2 b2 e2,.slc f3 b3 e3,.slc f4 b4 e4,.slc f5 b5 e5],.str s]=some (.int .i64 (ix (fun m=>de m.1 s) (pre++x::r))):=h2;have a81:B 81 [.slc f0 cl.length (bq cl),.str x.2.1]=some (.bool (dT cl x.2.1)):=h3 (f0,⟨cl,hc⟩,x.2.1);refine eM hB Tryz.func82 (ord:=O0) (N:=N0) (by kernel_rfl) ((HQ _ _ _ _ _ _ _ _ _ _ _ _ _ _ _ _ _ _ _ _ _ _).trans ?_);rw[cE,bv,HY,bu,m1,bu,m2,bp,a80,bm,bA,a23,bm,bp,CE _ pre x r (ng x.1),wD,a81,bm,bA];unfold yg na;cases cI x.1 with
 |false=>rfl
 |true=>
  cases dT (pre.map (·.1)) x.1 with
  |true=>rfl
  |false=>
   cases dT cl x.2.1 with
   |false=>rfl
   |true=>cases decide (x.2.2< -99)<;>cases decide (x.2.2>99)<;>rfl
theorem M9(me:List c6)(n:Nat)(pre:List ce)(x:ce)(r:List ce)(hm:me.length≤100000)(hl:(pre++x::r).length≤100000):
  co 84 [.agg [.slc f0 b0 e0,.slc f1 me.length (me.flatMap bH),.slc f2 n e2,.slc f3 (pre++x::r).length ((pre++x::r).flatMap bB),.slc f4 b4 e4,.slc f5 b5 e5],.int .i64 (pre.length:Int)] (.int .i64 (Au me n pre x)):=by
 obtain⟨B,hB,hF⟩:=jK [FF 23 (.agg [.slc f0 b0 e0,.slc f1 me.length (me.flatMap bH),.slc f2 n e2,.slc f3 (pre++x::r).length ((pre++x::r).flatMap bB),.slc f4 b4 e4,.slc f5 b5 e5]) (fun s=> .int .i64 (ix (fun m=>de m.1 s) me)),fa145,
   one 95 [.agg [.slc f0 b0 e0,.slc f1 me.length (me.flatMap bH),.slc f2 n e2,.slc f3 (pre++x::r).length ((pre++x::r).flatMap bB),.slc f4 b4 e4,.slc f5 b5 e5],.str x.1,.int .i64 x.2.2.1,.bool (de x.2.1 x.1)] (.int .i64 (ix (gR x.1 x.2.2.1 (de x.2.1 x.1)) (pre++x::r)))]
  ⟨gU fun s=>HZ _ s hm,ye,bO (K7 _ x.1 x.2.2.1 (de x.2.1 x.1) hl),trivial⟩ (by kernel_rfl)
 obtain⟨h1,h2,h3,_⟩:=hF;have a23:∀s,B 23 [.agg [.slc f0 b0 e0,.slc f1 me.length (me.flatMap bH),.slc f2 n e2,.slc f3 (pre++x::r).length ((pre++x::r).flatMap bB),.slc f4 b4 e4,.slc f5 b5 e5],.str s]=some (.int .i64 (ix (fun m=>de m.1 s) me)):=h1;have a145:B 145 [.agg [.int .i64 x.2.2.2.1,.str x.2.2.2.2]]=some (.int .i64 (dY x.2.2.2)):=h2 x.2.2.2;have a95:B 95 [.agg [.slc f0 b0 e0,.slc f1 me.length (me.flatMap bH),.slc f2 n e2,.slc f3 (pre++x::r).length ((pre++x::r).flatMap bB),.slc f4 b4 e4,.slc f5 b5 e5],.str x.1,.int .i64 x.2.2.1,.bool (ByteArray.toList x.2.1==ByteArray.toList x.1)]=some (.int .i64 (ix (gR x.1 x.2.2.1 (de x.2.1 x.1)) (pre++x::r))):=h3 ();refine eM hB Tryz.func84 (ord:=O0) (N:=MP) (by kernel_rfl) ((HR _ _ _ _ _ _ _ _ _ _ _ _ _ _ _ _ _ _ _ _ _ _).trans ?_);have hx:gR x.1 x.2.2.1 (de x.2.1 x.1) x=true:=by
  unfold gR;rw[ng,show(x.2.2.1==x.2.2.1)=true by simp,show(de x.2.1 x.1==de x.2.1 x.1)=true by simp];rfl
 rw[cE,bv,k0,bu,k1,bu,k2,bp,k3,bp,k4,bu,a23,bm,bp,lZ,a23,bm,bp,lZ,Ac (hC:=c1),a145,bm,bp,a95,bm,bp,CE _ pre x r hx];show bx (!Ar me x.1) _ _=_;unfold Au uo na;have ht:As pre x=pre.any (gR x.1 x.2.2.1 (de x.2.1 x.1)):=rfl;rw[ht];cases Ar me x.1 with
 |false=>rfl
 |true=>
  cases Ar me x.2.1 with
  |false=>rfl
  |true=>
   cases decide (x.2.2.1<1) with
   |true=>rfl
   |false=>
    cases decide (x.2.2.1>(n:Int)) with
    |true=>rfl
    |false=>
     show bx (dY x.2.2.2==0) _ _=some (D.int .i64 (dI [dY x.2.2.2,_]));unfold dI;cases h:dY x.2.2.2==0 with
     |false=>
      have:(dY x.2.2.2 !=0)=true:=by unfold bne;rw[h];rfl
      rw[this];rfl
     |true=>
      have h0:dY x.2.2.2=0:=by simpa using h
      rw[h0];cases pre.any (gR x.1 x.2.2.1 (de x.2.1 x.1))<;>rfl
def FI(pre:List KepV)(k:KepV):Int:=bx (C6 pre k !=0) (C6 pre k) (nb k.2.1.2 k.2.2.2)
theorem Na{B:FuncId→List D→Option D}{n:Nat}{g h0:Bool}(s:ByteArray)(h:List jL)
  (a152:∀c:CrdV,c.Fit→B 152 [.slc h0 h.length (h.flatMap bL),.agg [.str c.1,.slc c.2.1 c.2.2.length (c.2.2.flatMap ci)]]=some (.int .i64 (zd h c))):
  ∀(r pre:List CrdV) (fuel:Nat) (e:Int),(pre++r).length=n→n≤100000→r.length<fuel→(∀c∈r,c.Fit)→
  mW B LL C1 fuel s h0 h.length (h.flatMap bL) g n ((pre++r).flatMap jz) e (pre.length:Int)=some (.int .i64 (bx (e !=0) e (nb h r))):=by
 intro r
 induction r with
 |nil=>
  intro pre fuel e hn hB hf hs;cases fuel with
  |zero=>exact absurd hf (Nat.not_lt_zero _)
  |succ fuel=>
   subst hn;rw[oD,ct,bo];cases h:e !=0 with
   |true=>rfl
   |false=>
    have:e=0:=by simpa using h
    rw[this];rfl
 |cons x r ih=>
  intro pre fuel e hn hB hf hs;cases fuel with
  |zero=>exact absurd hf (Nat.not_lt_zero _)
  |succ fuel=>
   have ih:=ih (pre++[x]) fuel (zd h x) (by rw[cR];exact hn) hB (by simp at hf;omega) (fun c hc=>hs c (za4 _ hc));rw[cR] at ih;subst hn;rw[oD,cJ,br,cE,bv,c0,bu,M4,bG,a152 x (hs x (za3 ..)),bm,bp,ch pre x r (by omega),ih];cases h:e==0 with
   |true=>
    have:e=0:=by simpa using h
    rw[this];rfl
   |false=>
    have:(e !=0)=true:=by unfold bne;rw[h];rfl
    rw[this];rfl
theorem Nb(pre:List KepV)(k:KepV)(r:List KepV)(hl:(pre++k::r).length≤100000)(hk:k.Fit):
  co 85 [.agg [.slc f0 b0 e0,.slc f1 b1 e1,.slc f2 b2 e2,.slc f3 b3 e3,.slc f4 b4 e4,.slc f5 (pre++k::r).length ((pre++k::r).flatMap bK)],.int .i64 (pre.length:Int)] (.int .i64 (FI pre k)):=by
 obtain⟨B,hB,hF⟩:=jK [fa80,FF 151 (.agg [.slc f0 b0 e0,.slc f1 b1 e1,.slc f2 b2 e2,.slc f3 b3 e3,.slc f4 b4 e4,.slc f5 (pre++k::r).length ((pre++k::r).flatMap bK)]) (fun s=> .int .i64 (ix (fun m=>de m.1 s) (pre++k::r))),fa83,fa152] ⟨nR,gU fun s=>K6 _ s hl,ta,yj,trivial⟩ (by kernel_rfl);obtain⟨h1,h2,h3,h4,_⟩:=hF;have a80:∀s,B 80 [.str s]=some (.bool (cI s)):=h1;have a151:∀s,B 151 [.agg [.slc f0 b0 e0,.slc f1 b1 e1,.slc f2 b2 e2,.slc f3 b3 e3,.slc f4 b4 e4,.slc f5 (pre++k::r).length ((pre++k::r).flatMap bK)],.str s]=some (.int .i64 (ix (fun m=>de m.1 s) (pre++k::r))):=h2;have a83:B 83 [.slc k.2.1.1 k.2.1.2.length (k.2.1.2.flatMap bL)]=some (.int .i64 (ur k.2.1.2)):=h3 k.2.1;have h127:∀e:Int,kH B LL C1 e k.1 k.2.1.1 k.2.1.2.length (k.2.1.2.flatMap bL) k.2.2.1 k.2.2.2.length (k.2.2.2.flatMap jz)=some (.int .i64 (bx (e !=0) e (nb k.2.1.2 k.2.2.2))):=fun e=>by
  rw[x4 (hC:=c1)];exact Na k.1 k.2.1.2 (fun c hc=>h4 ⟨(k.2.1,c),hc⟩) k.2.2.2 [] LL e rfl hk.2.1 (by have:=hk.2.1;unfold LL;omega) hk.2.2
 refine eM hB Tryz.func85 (ord:=O0) (N:=LV) (by kernel_rfl) ((HS _ _ _ _ _ _ _ _ _ _ _ _ _ _ _ _ _ _ _ _ _ _).trans ?_);rw[cE,bv,p0,bu,p1,bG,p2,bG,a80,bm,bA,a151,bm,bp,CE _ pre k r (ng k.1),up,a83,bm,bp,h127,h127];unfold FI C6;cases cI k.1 with
 |false=>rfl
 |true=>
  cases dT (pre.map (·.1)) k.1 with
  |true=>rfl
  |false=>
   show bx (ur k.2.1.2==0) _ _=some (D.int .i64 (bx (dI [ur k.2.1.2,_] !=0) (dI [ur k.2.1.2,_]) _));unfold dI;cases h:ur k.2.1.2==0 with
   |false=>
    have:(ur k.2.1.2 !=0)=true:=by unfold bne;rw[h];rfl
    simp only[this,br,bo]
   |true=>
    have h0:ur k.2.1.2=0:=by simpa using h
    rw[h0];cases decide ((k.2.2.2.length:Int)>200)<;>rfl
end
theorem gk(a b c:Int):bx (bx (a !=0) a b !=0) (bx (a !=0) a b) c=bx (a !=0) a (bx (b !=0) b c):=by
 cases h:a !=0 with
 |true=>rw[br,h,br,br]
 |false=>rfl
theorem rc(a:Int):bx (a !=0) a 0=a:=by
 cases h:a !=0 with
 |true=>rfl
 |false=>
  have:a=0:=by simpa using h
  rw[this];rfl
theorem rf(a:Int):(a==0)= !(a !=0):=by cases h:a==0<;>simp[bne,h]
section
variable (u:UV){B:FuncId→List D→Option D}
theorem H8(hl:u.pa.length≤100000)(a85:∀pre k r,u.pa=pre++k::r→B 85 [.agg [.slc u.cf u.cl.length (bq u.cl),.slc u.mf u.me.length (u.me.flatMap bH),.slc u.hf u.ho.length (u.ho.flatMap bL),.slc u.kf u.mr.length (u.mr.flatMap bB),.slc u.sf u.sg.length (bq u.sg),.slc u.pf u.pa.length (u.pa.flatMap bK)],.int .i64 (pre.length:Int)]=some (.int .i64 (FI pre k))):
  ∀(r pre:List KepV) (fuel:Nat) (e:Int),u.pa=pre++r→r.length<fuel→iO B LL C1 fuel u.cf u.cl.length (bq u.cl) u.mf u.me.length (u.me.flatMap bH) u.hf u.ho.length (u.ho.flatMap bL) u.kf u.mr.length (u.mr.flatMap bB) u.sf u.sg.length (bq u.sg) u.pf u.pa.length (u.pa.flatMap bK) e (pre.length:Int)=some (.int .i64 (bx (e !=0) e (jO pre r))):=by
 intro r
 induction r with
 |nil=>
  intro pre fuel e hn hf;cases fuel with
  |zero=>exact absurd hf (Nat.not_lt_zero _)
  |succ fuel=>
   rw[oA,show decide ((pre.length:Int)<(u.pa.length:Int))=false by rw[hn];exact ct pre,bo,show jO pre []=0 from rfl,rc]
 |cons k r ih=>
  intro pre fuel e hn hf;cases fuel with
  |zero=>exact absurd hf (Nat.not_lt_zero _)
  |succ fuel=>
   have ih:=ih (pre++[k]) fuel (FI pre k) (by rw[cR];exact hn) (by simp at hf;omega);rw[oA,show decide ((pre.length:Int)<(u.pa.length:Int))=true by rw[hn];exact cJ pre k r,br,a85 pre k r hn,bm,bp,ch pre k r (by rw[←hn];omega),ih,rf];rw[show jO pre (k::r)=bx (C6 pre k !=0) (C6 pre k) (bx (nb k.2.1.2 k.2.2.2 !=0) (nb k.2.1.2 k.2.2.2) (jO (pre++[k]) r)) from rfl];unfold FI;rw[gk];cases e !=0<;>rfl
theorem H9(hl:u.sg.length≤100000)(hp:u.pa.length≤100000)(a85:∀pre k r,u.pa=pre++k::r→B 85 [.agg [.slc u.cf u.cl.length (bq u.cl),.slc u.mf u.me.length (u.me.flatMap bH),.slc u.hf u.ho.length (u.ho.flatMap bL),.slc u.kf u.mr.length (u.mr.flatMap bB),.slc u.sf u.sg.length (bq u.sg),.slc u.pf u.pa.length (u.pa.flatMap bK)],.int .i64 (pre.length:Int)]=some (.int .i64 (FI pre k)))
  (a23:∀s,B 23 [.agg [.slc u.cf u.cl.length (bq u.cl),.slc u.mf u.me.length (u.me.flatMap bH),.slc u.hf u.ho.length (u.ho.flatMap bL),.slc u.kf u.mr.length (u.mr.flatMap bB),.slc u.sf u.sg.length (bq u.sg),.slc u.pf u.pa.length (u.pa.flatMap bK)],.str s]=some (.int .i64 (ix (fun m:c6=>de m.1 s) u.me))) (a29:∀s,B 29 [.agg [.slc u.cf u.cl.length (bq u.cl),.slc u.mf u.me.length (u.me.flatMap bH),.slc u.hf u.ho.length (u.ho.flatMap bL),.slc u.kf u.mr.length (u.mr.flatMap bB),.slc u.sf u.sg.length (bq u.sg),.slc u.pf u.pa.length (u.pa.flatMap bK)],.str s]=some (.int .i64 (gS u.mr u.ho.length s))) (a81:∀x:Ag,B 81 [.slc x.1 x.2.1.1.length (bq x.2.1.1),.str x.2.2]=some (.bool (dT x.2.1.1 x.2.2))):
  ∀(r pre:List ByteArray) (fuel:Nat) (e:Int),u.sg=pre++r→r.length<fuel→fF B LL C1 fuel u.cf u.cl.length (bq u.cl) u.mf u.me.length (u.me.flatMap bH) u.hf u.ho.length (u.ho.flatMap bL) u.kf u.mr.length (u.mr.flatMap bB) u.sf u.sg.length (bq u.sg) u.pf u.pa.length (u.pa.flatMap bK) e (pre.length:Int)=some (.int .i64 (bx (e !=0) e (bx (rG u.me u.ho.length u.mr pre r !=0) (rG u.me u.ho.length u.mr pre r) (jO [] u.pa)))):=by
 have hE:∀e,iO B LL C1 LL u.cf u.cl.length (bq u.cl) u.mf u.me.length (u.me.flatMap bH) u.hf u.ho.length (u.ho.flatMap bL) u.kf u.mr.length (u.mr.flatMap bB) u.sf u.sg.length (bq u.sg) u.pf u.pa.length (u.pa.flatMap bK) e 0=some (.int .i64 (bx (e !=0) e (jO [] u.pa))):=fun e=>H8 u hp a85 u.pa [] LL e rfl (by unfold LL;omega);intro r
 induction r with
 |nil=>
  intro pre fuel e hn hf;cases fuel with
  |zero=>exact absurd hf (Nat.not_lt_zero _)
  |succ fuel=>
   rw[oB,show decide ((pre.length:Int)<(u.sg.length:Int))=false by rw[hn];exact ct pre,bo,hE];rfl
 |cons x r ih=>
  intro pre fuel e hn hf;cases fuel with
  |zero=>exact absurd hf (Nat.not_lt_zero _)
  |succ fuel=>
   have ih:=fun e=>ih (pre++[x]) fuel e (by rw[cR];exact hn) (by simp at hf;omega);have cel:∀{γ:Type} (c:D→Option γ),bn (bq u.sg) (Int.toNat (pre.length:Int)*1) c=c (.str x):=fun c=>by rw[hn];exact t0 c pre x r
   have htk:D.slc (u.sf&&decide ((pre.length:Int)=(u.sg.length:Int))) (Int.toNat ((pre.length:Int)-(0:Int))) (List.take (Int.toNat ((pre.length:Int)-(0:Int))*1) (bq u.sg))= .slc false pre.length (bq pre):=by rw[hn];exact nS pre x r u.sf
   have h81:B 81 [.slc false pre.length (bq pre),.str x]=some (.bool (dT pre x)):=a81 (false,⟨pre,by rw[hn] at hl;simp at hl;omega⟩,x);have hi:decide ((0:Int)≤(pre.length:Int)∧(pre.length:Int)<(u.sg.length:Int))=true:=by rw[hn];exact cE pre x r
   rw[oB,show decide ((pre.length:Int)<(u.sg.length:Int))=true by rw[hn];exact cJ pre x r,br,hE,wm (hC:=c1),hi,bv,cel,bu,a23,bm,bp,lZ,show decide ((0:Int)≤(0:Int)∧(0:Int)≤(pre.length:Int)∧(pre.length:Int)≤(u.sg.length:Int))=true by rw[hn];exact un pre x r,bv,bv,cel,bu,htk,h81,bm,bA,bv,cel,bu,a29,bm,bp,ch pre x r (by rw[←hn];omega),ih,ih,ih,rf];rw[show rG u.me u.ho.length u.mr pre (x::r)=bx (IA u.me u.ho.length u.mr pre x !=0) (IA u.me u.ho.length u.mr pre x) (rG u.me u.ho.length u.mr (pre++[x]) r) from rfl,gk];unfold IA;cases h:e !=0 with
   |true=>rfl
   |false=>
    cases Ar u.me x with
    |false=>rfl
    |true=>
     cases dT pre x with
     |true=>rfl
     |false=>
      show some (D.int .i64 (bx (gS u.mr u.ho.length x !=0) _ _))=some (D.int .i64 (bx (bx (gS u.mr u.ho.length x !=0) (gS u.mr u.ho.length x) 0 !=0) (bx (gS u.mr u.ho.length x !=0) (gS u.mr u.ho.length x) 0) _));rw[rc]
def sE:Int:=bx (rG u.me u.ho.length u.mr [] u.sg !=0) (rG u.me u.ho.length u.mr [] u.sg) (jO [] u.pa)
def mE:Int:=bx (lY u.me u.ho.length [] u.mr !=0) (lY u.me u.ho.length [] u.mr) (sE u)
theorem Ia(hl:u.mr.length≤100000)(a84:∀pre x r,u.mr=pre++x::r→B 84 [.agg [.slc u.cf u.cl.length (bq u.cl),.slc u.mf u.me.length (u.me.flatMap bH),.slc u.hf u.ho.length (u.ho.flatMap bL),.slc u.kf u.mr.length (u.mr.flatMap bB),.slc u.sf u.sg.length (bq u.sg),.slc u.pf u.pa.length (u.pa.flatMap bK)],.int .i64 (pre.length:Int)]=some (.int .i64 (Au u.me u.ho.length pre x)))
  (hE:∀e,fF B LL C1 LL u.cf u.cl.length (bq u.cl) u.mf u.me.length (u.me.flatMap bH) u.hf u.ho.length (u.ho.flatMap bL) u.kf u.mr.length (u.mr.flatMap bB) u.sf u.sg.length (bq u.sg) u.pf u.pa.length (u.pa.flatMap bK) e 0=some (.int .i64 (bx (e !=0) e (sE u)))):
  ∀(r pre:List ce) (fuel:Nat) (e:Int),u.mr=pre++r→r.length<fuel→mV B LL C1 fuel u.cf u.cl.length (bq u.cl) u.mf u.me.length (u.me.flatMap bH) u.hf u.ho.length (u.ho.flatMap bL) u.kf u.mr.length (u.mr.flatMap bB) u.sf u.sg.length (bq u.sg) u.pf u.pa.length (u.pa.flatMap bK) e (pre.length:Int)=some (.int .i64 (bx (e !=0) e (bx (lY u.me u.ho.length pre r !=0) (lY u.me u.ho.length pre r) (sE u)))):=by
 intro r
 induction r with
 |nil=>
  intro pre fuel e hn hf;cases fuel with
  |zero=>exact absurd hf (Nat.not_lt_zero _)
  |succ fuel=>
   rw[oC,show decide ((pre.length:Int)<(u.mr.length:Int))=false by rw[hn];exact ct pre,bo,hE];rfl
 |cons x r ih=>
  intro pre fuel e hn hf;cases fuel with
  |zero=>exact absurd hf (Nat.not_lt_zero _)
  |succ fuel=>
   have ih:=fun e=>ih (pre++[x]) fuel e (by rw[cR];exact hn) (by simp at hf;omega);rw[oC,show decide ((pre.length:Int)<(u.mr.length:Int))=true by rw[hn];exact cJ pre x r,br,a84 pre x r hn,bm,bp,ch pre x r (by rw[←hn];omega),ih,hE,rf];rw[show lY u.me u.ho.length pre (x::r)=bx (Au u.me u.ho.length pre x !=0) (Au u.me u.ho.length pre x) (lY u.me u.ho.length (pre++[x]) r) from rfl,gk];cases h:e !=0 with
   |true=>rfl
   |false=>rfl
def CF:Int:=bx ((u.ho.length:Int)==0) 0 (ur u.ho)
theorem Lz(hl:u.me.length≤100000)(a82:∀pre x r,u.me=pre++x::r→B 82 [.agg [.slc u.cf u.cl.length (bq u.cl),.slc u.mf u.me.length (u.me.flatMap bH),.slc u.hf u.ho.length (u.ho.flatMap bL),.slc u.kf u.mr.length (u.mr.flatMap bB),.slc u.sf u.sg.length (bq u.sg),.slc u.pf u.pa.length (u.pa.flatMap bK)],.int .i64 (pre.length:Int)]=some (.int .i64 (yg u.cl pre x)))(a83:B 83 [.slc u.hf u.ho.length (u.ho.flatMap bL)]=some (.int .i64 (ur u.ho)))
  (hE:∀e,fY B LL C1 u.cf u.cl.length (bq u.cl) u.mf u.me.length (u.me.flatMap bH) u.hf u.ho.length (u.ho.flatMap bL) u.kf u.mr.length (u.mr.flatMap bB) u.sf u.sg.length (bq u.sg) u.pf u.pa.length (u.pa.flatMap bK) e=some (.int .i64 (bx (e !=0) e (mE u)))):
  ∀(r pre:List c6) (fuel:Nat) (e:Int),u.me=pre++r→r.length<fuel→kG B LL C1 fuel u.cf u.cl.length (bq u.cl) u.mf u.me.length (u.me.flatMap bH) u.hf u.ho.length (u.ho.flatMap bL) u.kf u.mr.length (u.mr.flatMap bB) u.sf u.sg.length (bq u.sg) u.pf u.pa.length (u.pa.flatMap bK) e (pre.length:Int)=some (.int .i64 (bx (e !=0) e (bx (gT u.cl pre r !=0) (gT u.cl pre r) (bx (CF u !=0) (CF u) (mE u))))):=by
 have h0:decide ((u.ho.length:Int)>0)= !((u.ho.length:Int)==0):=by
  by_cases h:u.ho.length=0
  ·rw[h];rfl
  ·have h1:decide ((u.ho.length:Int)>0)=true:=by simp;omega
   have h2:((u.ho.length:Int)==0)=false:=beq_eq_false_iff_ne.2 (by omega);rw[h1,h2];rfl
 intro r
 induction r with
 |nil=>
  intro pre fuel e hn hf;cases fuel with
  |zero=>exact absurd hf (Nat.not_lt_zero _)
  |succ fuel=>
   rw[qQ,show decide ((pre.length:Int)<(u.me.length:Int))=false by rw[hn];exact ct pre,bo,a83,bm,bp,hE,hE,rf,h0];unfold CF;cases h:e !=0 with
   |true=>rfl
   |false=>
    have he:e=0:=by simpa using h
    subst he;cases (u.ho.length:Int)==0<;>rfl
 |cons x r ih=>
  intro pre fuel e hn hf;cases fuel with
  |zero=>exact absurd hf (Nat.not_lt_zero _)
  |succ fuel=>
   have ih:=fun e=>ih (pre++[x]) fuel e (by rw[cR];exact hn) (by simp at hf;omega);rw[qQ,show decide ((pre.length:Int)<(u.me.length:Int))=true by rw[hn];exact cJ pre x r,br,a82 pre x r hn,bm,bp,ch pre x r (by rw[←hn];omega),ih,hE,a83,bm,bp,hE,rf];rw[show gT u.cl pre (x::r)=bx (yg u.cl pre x !=0) (yg u.cl pre x) (gT u.cl (pre++[x]) r) from rfl,gk];cases h:e !=0 with
   |true=>rfl
   |false=>rfl
theorem LA(hl:u.cl.length≤100000)(a80:∀s,B 80 [.str s]=some (.bool (cI s)))(a81:∀x:Ag,B 81 [.slc x.1 x.2.1.1.length (bq x.2.1.1),.str x.2.2]=some (.bool (dT x.2.1.1 x.2.2))){M:Int}
  (hE:kG B LL C1 LL u.cf u.cl.length (bq u.cl) u.mf u.me.length (u.me.flatMap bH) u.hf u.ho.length (u.ho.flatMap bL) u.kf u.mr.length (u.mr.flatMap bB) u.sf u.sg.length (bq u.sg) u.pf u.pa.length (u.pa.flatMap bK) 0 0=some (.int .i64 M)):
  ∀(r pre:List ByteArray) (fuel:Nat),u.cl=pre++r→r.length<fuel→uh B LL C1 fuel u.cf u.cl.length (bq u.cl) u.mf u.me.length (u.me.flatMap bH) u.hf u.ho.length (u.ho.flatMap bL) u.kf u.mr.length (u.mr.flatMap bB) u.sf u.sg.length (bq u.sg) u.pf u.pa.length (u.pa.flatMap bK) (pre.length:Int)=some (.int .i64 (bx (lX pre r !=0) (lX pre r) M)):=by
 intro r
 induction r with
 |nil=>
  intro pre fuel hn hf;cases fuel with
  |zero=>exact absurd hf (Nat.not_lt_zero _)
  |succ fuel=>
   rw[sY,show decide ((pre.length:Int)<(u.cl.length:Int))=false by rw[hn];exact ct pre,bo,hE];rfl
 |cons x r ih=>
  intro pre fuel hn hf;cases fuel with
  |zero=>exact absurd hf (Nat.not_lt_zero _)
  |succ fuel=>
   have ih:=ih (pre++[x]) fuel (by rw[cR];exact hn) (by simp at hf;omega);have cel:∀{γ:Type} (c:D→Option γ),bn (bq u.cl) (Int.toNat (pre.length:Int)*1) c=c (.str x):=fun c=>by rw[hn];exact t0 c pre x r
   have htk:D.slc (u.cf&&decide ((pre.length:Int)=(u.cl.length:Int))) (Int.toNat ((pre.length:Int)-(0:Int))) (List.take (Int.toNat ((pre.length:Int)-(0:Int))*1) (bq u.cl))= .slc false pre.length (bq pre):=by rw[hn];exact nS pre x r u.cf
   have h81:B 81 [.slc false pre.length (bq pre),.str x]=some (.bool (dT pre x)):=a81 (false,⟨pre,by rw[hn] at hl;simp at hl;omega⟩,x);have hi:decide ((0:Int)≤(pre.length:Int)∧(pre.length:Int)<(u.cl.length:Int))=true:=by rw[hn];exact cE pre x r
   rw[sY,show decide ((pre.length:Int)<(u.cl.length:Int))=true by rw[hn];exact cJ pre x r,br,hi,bv,cel,bu,a80,bm,bA,show decide ((0:Int)≤(0:Int)∧(0:Int)≤(pre.length:Int)∧(pre.length:Int)≤(u.cl.length:Int))=true by rw[hn];exact un pre x r,bv,bv,cel,bu,htk,h81,bm,bA,ch pre x r (by rw[←hn];omega),ih];rw[show lX pre (x::r)=bx (dI [bx (!cI x) 8 0,bx (dT pre x) 9 0] !=0) (dI [bx (!cI x) 8 0,bx (dT pre x) 9 0]) (lX (pre++[x]) r) from rfl,gk];cases cI x<;>cases dT pre x<;>rfl
theorem Nc(hu:u.Fit'):co 16 [jM u] (.int .i64 (uE u)):=by
 obtain⟨⟨l0,l1,l2,l3,l4,l5⟩,h6,h7,h8⟩:=hu;obtain⟨B,hB,hF⟩:=jK [fa80,fa81,EU 82 (jM u) u.me (yg u.cl),fa83,EU 84 (jM u) u.mr (Au u.me u.ho.length),FF 23 (jM u) (fun s=> .int .i64 (ix (fun m:c6=>de m.1 s) u.me)),FF 29 (jM u) (fun s=> .int .i64 (gS u.mr u.ho.length s)),EU 85 (jM u) u.pa FI]
  ⟨nR,s9,nT (fun pre x r h=>by
    have:=M8 (f0:=u.cf) (f1:=u.mf) (f2:=u.hf) (f3:=u.kf) (f4:=u.sf) (f5:=u.pf) (b2:=u.ho.length) (b3:=u.mr.length) (b4:=u.sg.length) (b5:=u.pa.length) (e2:=u.ho.flatMap bL) (e3:=u.mr.flatMap bB) (e4:=bq u.sg) (e5:=u.pa.flatMap bK) u.cl pre x r l0 (by rw[←h];exact l1);rw[←h] at this;exact this),ta,nT (fun pre x r h=>by
    have:=M9 (f0:=u.cf) (f1:=u.mf) (f2:=u.hf) (f3:=u.kf) (f4:=u.sf) (f5:=u.pf) (b0:=u.cl.length) (e0:=bq u.cl) (b4:=u.sg.length) (b5:=u.pa.length) (e2:=u.ho.flatMap bL) (e4:=bq u.sg) (e5:=u.pa.flatMap bK) u.me u.ho.length pre x r l1 (by rw[←h];exact l3);rw[←h] at this;exact this),gU (fun s=>HZ u.me s l1),gU (fun s=>M1 u.mr s l2 l3),nT (fun pre x r h=>by
    have:=Nb (f0:=u.cf) (f1:=u.mf) (f2:=u.hf) (f3:=u.kf) (f4:=u.sf) (f5:=u.pf) (b0:=u.cl.length) (e0:=bq u.cl) (b1:=u.me.length) (e1:=u.me.flatMap bH) (b2:=u.ho.length) (b3:=u.mr.length) (b4:=u.sg.length) (e2:=u.ho.flatMap bL) (e3:=u.mr.flatMap bB) (e4:=bq u.sg) pre x r (by rw[←h];exact l5) (h8 x (by rw[h];simp));rw[←h] at this;exact this),trivial⟩ (by kernel_rfl)
 obtain⟨a80,a81,a82,a83,a84,a23,a29,a85,_⟩:=hF;have a80:∀s,B 80 [.str s]=some (.bool (cI s)):=a80;have a81:∀x:Ag,B 81 [.slc x.1 x.2.1.1.length (bq x.2.1.1),.str x.2.2]=some (.bool (dT x.2.1.1 x.2.2)):=a81;have a82:∀pre x r,u.me=pre++x::r→B 82 [.agg [.slc u.cf u.cl.length (bq u.cl),.slc u.mf u.me.length (u.me.flatMap bH),.slc u.hf u.ho.length (u.ho.flatMap bL),.slc u.kf u.mr.length (u.mr.flatMap bB),.slc u.sf u.sg.length (bq u.sg),.slc u.pf u.pa.length (u.pa.flatMap bK)],.int .i64 (pre.length:Int)]=some (.int .i64 (yg u.cl pre x)):=fun pre x r h=>a82 ⟨(pre,x,r),h⟩;have a83:B 83 [.slc u.hf u.ho.length (u.ho.flatMap bL)]=some (.int .i64 (ur u.ho)):=a83 (u.hf,u.ho);have a84:∀pre x r,u.mr=pre++x::r→B 84 [.agg [.slc u.cf u.cl.length (bq u.cl),.slc u.mf u.me.length (u.me.flatMap bH),.slc u.hf u.ho.length (u.ho.flatMap bL),.slc u.kf u.mr.length (u.mr.flatMap bB),.slc u.sf u.sg.length (bq u.sg),.slc u.pf u.pa.length (u.pa.flatMap bK)],.int .i64 (pre.length:Int)]=some (.int .i64 (Au u.me u.ho.length pre x)):=fun pre x r h=>a84 ⟨(pre,x,r),h⟩;have a85:∀pre x r,u.pa=pre++x::r→B 85 [.agg [.slc u.cf u.cl.length (bq u.cl),.slc u.mf u.me.length (u.me.flatMap bH),.slc u.hf u.ho.length (u.ho.flatMap bL),.slc u.kf u.mr.length (u.mr.flatMap bB),.slc u.sf u.sg.length (bq u.sg),.slc u.pf u.pa.length (u.pa.flatMap bK)],.int .i64 (pre.length:Int)]=some (.int .i64 (FI pre x)):=fun pre x r h=>a85 ⟨(pre,x,r),h⟩;have h2042:∀e,fF B LL C1 LL u.cf u.cl.length (bq u.cl) u.mf u.me.length (u.me.flatMap bH) u.hf u.ho.length (u.ho.flatMap bL) u.kf u.mr.length (u.mr.flatMap bB) u.sf u.sg.length (bq u.sg) u.pf u.pa.length (u.pa.flatMap bK) e 0=some (.int .i64 (bx (e !=0) e (sE u))):=fun e=>H9 u l4 l5 a85 a23 a29 a81 u.sg [] LL e rfl (by unfold LL;omega);have h127:∀e,fY B LL C1 u.cf u.cl.length (bq u.cl) u.mf u.me.length (u.me.flatMap bH) u.hf u.ho.length (u.ho.flatMap bL) u.kf u.mr.length (u.mr.flatMap bB) u.sf u.sg.length (bq u.sg) u.pf u.pa.length (u.pa.flatMap bK) e=some (.int .i64 (bx (e !=0) e (mE u))):=fun e=>by
  rw[xZ (hC:=c1)];exact Ia u l3 a84 h2042 u.mr [] LL e rfl (by unfold LL;omega)
 have h250:kG B LL C1 LL u.cf u.cl.length (bq u.cl) u.mf u.me.length (u.me.flatMap bH) u.hf u.ho.length (u.ho.flatMap bL) u.kf u.mr.length (u.mr.flatMap bB) u.sf u.sg.length (bq u.sg) u.pf u.pa.length (u.pa.flatMap bK) 0 0=some (.int .i64 (bx (gT u.cl [] u.me !=0) (gT u.cl [] u.me) (bx (CF u !=0) (CF u) (mE u)))):=Lz u l1 a82 a83 h127 u.me [] LL 0 rfl (by unfold LL;omega);have h7':y5 B LL C1 u.cf u.cl.length (bq u.cl) u.mf u.me.length (u.me.flatMap bH) u.hf u.ho.length (u.ho.flatMap bL) u.kf u.mr.length (u.mr.flatMap bB) u.sf u.sg.length (bq u.sg) u.pf u.pa.length (u.pa.flatMap bK)=some (.int .i64 (bx (lX [] u.cl !=0) (lX [] u.cl) (bx (gT u.cl [] u.me !=0) (gT u.cl [] u.me) (bx (CF u !=0) (CF u) (mE u))))):=by
  rw[Cr (hC:=c1)];exact LA u l0 a80 a81 h250 u.cl [] LL rfl (by unfold LL;omega)
 have hu:uE u=bx (wB u) 5 (bx (lX [] u.cl !=0) (lX [] u.cl) (bx (gT u.cl [] u.me !=0) (gT u.cl [] u.me) (bx (CF u !=0) (CF u) (mE u)))):=by
  unfold uE ER;rw[gk,gk];show bx (wB u) 5 (bx _ _ (bx _ _ (bx (CF u !=0) (CF u) (bx (FH u.me u.ho.length u.mr u.sg !=0) (FH u.me u.ho.length u.mr u.sg) (bx (jO [] u.pa !=0) (jO [] u.pa) 0)))))=_;unfold FH;rw[gk,rc];rfl
 refine eM hB Tryz.func16 (ord:=O0) (N:=C5) (by kernel_rfl) ((HP _ _ _ _ _ _ _ _ _ _ _ _ _ _ _ _ _ _ _ _ _).trans ?_);rw[h7',hu];unfold wB;cases decide ((u.cl.length:Int)>256)<;>cases decide ((u.me.length:Int)>200)<;>cases decide ((u.mr.length:Int)>1000)<;>cases decide ((u.sg.length:Int)>200)<;>cases decide ((u.pa.length:Int)>256)<;>rfl
def l7(s:ByteArray):Int:=bx (uE u !=0) (uE u) (bx (!Ar u.me s) 10 0)
theorem EV(hu:u.Fit')(s:ByteArray):co 90 [jM u,.str s] (.int .i64 (l7 u s)):=by
 obtain⟨B,hB,hF⟩:=jK [one 17 [jM u] (.int .i64 (uE u)),one 154 [jM u,.str s] (.int .i64 (ix (fun m:c6=>de m.1 s) u.me)),fa119] ⟨bO (M7 u hu),bO (FE u.me s hu.1.2.1),fV,trivial⟩ (by kernel_rfl);obtain⟨a,b,c,_⟩:=hF;have a:B 17 [.agg [.slc u.cf u.cl.length (bq u.cl),.slc u.mf u.me.length (u.me.flatMap bH),.slc u.hf u.ho.length (u.ho.flatMap bL),.slc u.kf u.mr.length (u.mr.flatMap bB),.slc u.sf u.sg.length (bq u.sg),.slc u.pf u.pa.length (u.pa.flatMap bK)]]=some (.int .i64 (uE u)):=a ();have b:B 154 [.agg [.slc u.cf u.cl.length (bq u.cl),.slc u.mf u.me.length (u.me.flatMap bH),.slc u.hf u.ho.length (u.ho.flatMap bL),.slc u.kf u.mr.length (u.mr.flatMap bB),.slc u.sf u.sg.length (bq u.sg),.slc u.pf u.pa.length (u.pa.flatMap bK)],.str s]=some (.int .i64 (ix (fun m:c6=>de m.1 s) u.me)):=b ();have c:∀(b:Bool) (e:Int),B 119 [.bool b,.int .i64 e]=some (.int .i64 (bx b e 0)):=fun b e=>c (b,e);refine eM hB Tryz.func90 (ord:=O0) (N:=N0) (by kernel_rfl) ((HC _ _ _ _ _ _ _ _ _ _ _ _ _ _ _ _ _ _ _ _ _ _).trans ?_);rw[a,bm,bp,b,bm,bp,lZ,c,bm,bp];exact Ai _ _
theorem Nd(hu:u.Fit')(s:ByteArray):co 18 [jM u,.str s] (bx (l7 u s !=0) (.tup [.agg [.str (ByteArray.mk #[]),.slc true 0 []],.int .i64 (l7 u s)]) (.tup [.agg [.str s,eR ci (dS u.mr s u.ho.length 0)],.int .i64 0])):=by
 obtain⟨B,hB,hF⟩:=jK [one 90 [jM u,.str s] (.int .i64 (l7 u s)),one 91 [jM u,.str s] (.agg [.str s,eR ci (dS u.mr s u.ho.length 0)])] ⟨bO (EV u hu s),bO (MT u.mr s hu.1.2.2.1 hu.1.2.2.2.1),trivial⟩ (by kernel_rfl);obtain⟨a,b,_⟩:=hF;have a:B 90 [.agg [.slc u.cf u.cl.length (bq u.cl),.slc u.mf u.me.length (u.me.flatMap bH),.slc u.hf u.ho.length (u.ho.flatMap bL),.slc u.kf u.mr.length (u.mr.flatMap bB),.slc u.sf u.sg.length (bq u.sg),.slc u.pf u.pa.length (u.pa.flatMap bK)],.str s]=some (.int .i64 (l7 u s)):=a ();have b:B 91 [.agg [.slc u.cf u.cl.length (bq u.cl),.slc u.mf u.me.length (u.me.flatMap bH),.slc u.hf u.ho.length (u.ho.flatMap bL),.slc u.kf u.mr.length (u.mr.flatMap bB),.slc u.sf u.sg.length (bq u.sg),.slc u.pf u.pa.length (u.pa.flatMap bK)],.str s]=some (.agg [.str s,eR ci (dS u.mr s u.ho.length 0)]):=b ();refine eM hB Tryz.func18 (ord:=O0) (N:=N0) (by kernel_rfl) ((HG _ _ _ _ _ _ _ _ _ _ _ _ _ _ _ _ _ _ _ _ _ _).trans ?_);rw[a,bm,bp,b,bm,oL,gp,bu,gq,d7,bG];cases l7 u s !=0<;>rfl
theorem Nf(hu:u.Fit')(s:ByteArray):co 21 [jM u,.str s] (.int .i64 (bx (l7 u s !=0) (l7 u s) (gS u.mr u.ho.length s))):=by
 obtain⟨B,hB,hF⟩:=jK [one 90 [jM u,.str s] (.int .i64 (l7 u s)),one 94 [jM u,.str s] (.int .i64 (gS u.mr u.ho.length s))] ⟨bO (EV u hu s),bO (Lt u.mr s hu.1.2.2.1 hu.1.2.2.2.1),trivial⟩ (by kernel_rfl);obtain⟨a,b,_⟩:=hF;have a:B 90 [.agg [.slc u.cf u.cl.length (bq u.cl),.slc u.mf u.me.length (u.me.flatMap bH),.slc u.hf u.ho.length (u.ho.flatMap bL),.slc u.kf u.mr.length (u.mr.flatMap bB),.slc u.sf u.sg.length (bq u.sg),.slc u.pf u.pa.length (u.pa.flatMap bK)],.str s]=some (.int .i64 (l7 u s)):=a ();have b:B 94 [.agg [.slc u.cf u.cl.length (bq u.cl),.slc u.mf u.me.length (u.me.flatMap bH),.slc u.hf u.ho.length (u.ho.flatMap bL),.slc u.kf u.mr.length (u.mr.flatMap bB),.slc u.sf u.sg.length (bq u.sg),.slc u.pf u.pa.length (u.pa.flatMap bK)],.str s]=some (.int .i64 (gS u.mr u.ho.length s)):=b ();refine eM hB Tryz.func21 (ord:=O0) (N:=N0) (by kernel_rfl) ((HJ _ _ _ _ _ _ _ _ _ _ _ _ _ _ _ _ _ _ _ _ _ _).trans ?_);rw[a,bm,bp,b,bm,bp];exact Ai _ _
theorem Ng(hu:u.Fit')(s:ByteArray):co 19 [jM u,.str s] (bx (l7 u s !=0) (.tup [.slc true 0 [],.int .i64 (l7 u s)]) (.tup [eR iD (c7 (eS u.mr s) u.ho.length 0),.int .i64 0])):=by
 obtain⟨B,hB,hF⟩:=jK [one 90 [jM u,.str s] (.int .i64 (l7 u s)),one 92 [jM u,.str s] (eR iD (c7 (eS u.mr s) u.ho.length 0))] ⟨bO (EV u hu s),bO (Lr u.mr s hu.1.2.2.1 hu.1.2.2.2.1),trivial⟩ (by kernel_rfl);obtain⟨a,b,_⟩:=hF;have a:B 90 [.agg [.slc u.cf u.cl.length (bq u.cl),.slc u.mf u.me.length (u.me.flatMap bH),.slc u.hf u.ho.length (u.ho.flatMap bL),.slc u.kf u.mr.length (u.mr.flatMap bB),.slc u.sf u.sg.length (bq u.sg),.slc u.pf u.pa.length (u.pa.flatMap bK)],.str s]=some (.int .i64 (l7 u s)):=a ();have b:B 92 [.agg [.slc u.cf u.cl.length (bq u.cl),.slc u.mf u.me.length (u.me.flatMap bH),.slc u.hf u.ho.length (u.ho.flatMap bL),.slc u.kf u.mr.length (u.mr.flatMap bB),.slc u.sf u.sg.length (bq u.sg),.slc u.pf u.pa.length (u.pa.flatMap bK)],.str s]=some (eR iD (c7 (eS u.mr s) u.ho.length 0)):=b ();refine eM hB Tryz.func19 (ord:=O0) (N:=N0) (by kernel_rfl) ((HH _ _ _ _ _ _ _ _ _ _ _ _ _ _ _ _ _ _ _ _ _ _).trans ?_);rw[a,bm,bp,b,bm,d7,bG];cases l7 u s !=0<;>rfl
theorem Nh(hu:u.Fit')(s:ByteArray):co 20 [jM u,.str s] (bx (l7 u s !=0) (.tup [.slc true 0 [],.int .i64 (l7 u s)]) (.tup [eR iD (c7 (eT u.mr s) u.ho.length 0),.int .i64 0])):=by
 obtain⟨B,hB,hF⟩:=jK [one 90 [jM u,.str s] (.int .i64 (l7 u s)),one 93 [jM u,.str s] (eR iD (c7 (eT u.mr s) u.ho.length 0))] ⟨bO (EV u hu s),bO (Ls u.mr s hu.1.2.2.1 hu.1.2.2.2.1),trivial⟩ (by kernel_rfl);obtain⟨a,b,_⟩:=hF;have a:B 90 [.agg [.slc u.cf u.cl.length (bq u.cl),.slc u.mf u.me.length (u.me.flatMap bH),.slc u.hf u.ho.length (u.ho.flatMap bL),.slc u.kf u.mr.length (u.mr.flatMap bB),.slc u.sf u.sg.length (bq u.sg),.slc u.pf u.pa.length (u.pa.flatMap bK)],.str s]=some (.int .i64 (l7 u s)):=a ();have b:B 93 [.agg [.slc u.cf u.cl.length (bq u.cl),.slc u.mf u.me.length (u.me.flatMap bH),.slc u.hf u.ho.length (u.ho.flatMap bL),.slc u.kf u.mr.length (u.mr.flatMap bB),.slc u.sf u.sg.length (bq u.sg),.slc u.pf u.pa.length (u.pa.flatMap bK)],.str s]=some (eR iD (c7 (eT u.mr s) u.ho.length 0)):=b ();refine eM hB Tryz.func20 (ord:=O0) (N:=N0) (by kernel_rfl) ((HI _ _ _ _ _ _ _ _ _ _ _ _ _ _ _ _ _ _ _ _ _ _).trans ?_);rw[a,bm,bp,b,bm,d7,bG];cases l7 u s !=0<;>rfl
end
def sm(s:ByteArray):Bool:= !decide ((s.size:Int)>60)
theorem ze{s:ByteArray}(h:sm s=true):s.size≤60:=by
 unfold sm at h;simp at h;omega
def jA(k n m:Int):Bool:=decide (k≤n)||(decide (k>m)&&decide (k≤IntKind.wrap .i64 (m+3)))
theorem Ni(k n m:Int):co 75 [.int .i64 k,.int .i64 n,.int .i64 m] (.bool (jA k n m)):=
 eM cN Tryz.func75 (ord:=O0) (N:=N0) (by kernel_rfl) ((Hf _ _ _ k n m).trans (by
  unfold jA;generalize decide (k≤n)=a;generalize decide (k>m)=b;cases a<;>cases b<;>rfl))
def fa75:Fam:=⟨75,Int×Int×Int,fun x=>[.int .i64 x.1,.int .i64 x.2.1,.int .i64 x.2.2],fun x=> .bool (jA x.1 x.2.1 x.2.2)⟩
theorem tc:fa75.Good:=⟨fun x=>Ni x.1 x.2.1 x.2.2,fun i j h=>by
 obtain⟨a,b,c⟩:=i;obtain⟨a',b',c'⟩:=j;have h:[D.int .i64 a,D.int .i64 b,D.int .i64 c]=[D.int .i64 a',D.int .i64 b',D.int .i64 c']:=h;simp at h;simp[h]⟩
theorem e8{k n m:Nat}(h:jA (k:Int) n m=true)(hn:n≤m)(hm:m≤2000):k≤3000:=by
 unfold jA at h;rw[cW (by omega)] at h;simp at h;omega
def EW(c:CrdV):Bool:=bx (decide ((c.1.size:Int)>60)) false (bx (decide ((c.2.2.length:Int)>39)) false (c.2.2.all fun x=>sm x.2))
theorem LB{call:CL}{f:Bool}{n:Nat}{s:ByteArray}{z:Int}:∀(r pre:List cv) (fuel:Nat),(pre++r).length=n→n≤100000→r.length<fuel→
  pw call LL C1 fuel s f n ((pre++r).flatMap ci) z (pre.length:Int)=some (.bool (r.all fun x=>sm x.2)):=by
 intro r
 induction r with
 |nil=>
  intro pre fuel hn hB hf;cases fuel with
  |zero=>exact absurd hf (Nat.not_lt_zero _)
  |succ fuel=>
   subst hn;rw[qG,ct,bo];rfl
 |cons x r ih=>
  intro pre fuel hn hB hf;cases fuel with
  |zero=>exact absurd hf (Nat.not_lt_zero _)
  |succ fuel=>
   have ih:=ih (pre++[x]) fuel (by rw[cR];exact hn) hB (by simp at hf;omega);rw[cR] at ih;subst hn;rw[qG,cJ,br,cE,bv,n1,bu,ch pre x r (by omega),ih,List.all_cons];unfold sm;cases decide ((x.2.size:Int)>60)<;>rfl
theorem LC(c:CrdV):co 150 [.agg [.str c.1,.slc c.2.1 c.2.2.length (c.2.2.flatMap ci),.int .i64 0]] (.bool (EW c)):=by
 refine eM cN Tryz.func150 (ord:=O0) (N:=Hw) (by kernel_rfl) ((ED _ _ _ _ _ _ _ _).trans ?_);unfold EW;cases decide ((c.1.size:Int)>60) with
 |true=>rfl
 |false=>
  rw[bo,bo];cases h:decide ((c.2.2.length:Int)>39) with
  |true=>rfl
  |false=>
   simp only[decide_eq_false_iff_not] at h;rw[bo,bo];exact LB c.2.2 [] LL rfl (by omega) (by unfold LL;omega)
theorem wE{x y:CrdV}(h:jz x=jz y):x=y:=by
 obtain⟨a,b,c⟩:=x;obtain⟨a',b',c'⟩:=y;simp only[jz,zc1,and_true,D.slc.injEq,D.str.injEq] at h;obtain⟨h1,h2,_,h3⟩:=h;rw[h1,h2,wy h3]
theorem CG{x y:KepV}(h:bK x=bK y):x=y:=by
 obtain⟨a,⟨b,c⟩,d,e⟩:=x;obtain⟨a',⟨b',c'⟩,d',e'⟩:=y;simp only[bK,zc1,and_true,D.slc.injEq,D.str.injEq] at h;obtain⟨h1,⟨h2,_,h3⟩,h4,_,h5⟩:=h;rw[h1,h2,rb h3,h4,nf (w:=2) (by omega) (fun _=>rfl) (fun _ _=>wE) h5]
def fa150:Fam:=⟨150,CrdV,fun c=>[.agg [.str c.1,.slc c.2.1 c.2.2.length (c.2.2.flatMap ci),.int .i64 0]],fun c=> .bool (EW c)⟩
theorem yk:fa150.Good:=⟨LC,fun i j h=>by
 have h:[D.agg [.str i.1,.slc i.2.1 i.2.2.length (i.2.2.flatMap ci),.int .i64 0]]=[D.agg [.str j.1,.slc j.2.1 j.2.2.length (j.2.2.flatMap ci),.int .i64 0]]:=h;simp only[zc1,and_true,D.agg.injEq] at h;rw[wE (x:=i) (y:=j) (by unfold jz;rw[h.1,h.2])]⟩
def zf(k:KepV):Bool:=bx (decide ((k.1.size:Int)>60)) false (bx (decide ((k.2.1.2.length:Int)>39)) false (bx (!jA (k.2.2.2.length:Int) 5 200) false (k.2.2.2.all EW)))
theorem Nj{B:FuncId→List D→Option D}{f g:Bool}{n m:Nat}{s:ByteArray}{c:List D}(hF:∀c:CrdV,B 150 [.agg [.str c.1,.slc c.2.1 c.2.2.length (c.2.2.flatMap ci),.int .i64 0]]=some (.bool (EW c))):∀(r pre:List CrdV) (fuel:Nat),(pre++r).length=n→n≤100000→r.length<fuel→
  ua B LL C1 fuel s g m c f n ((pre++r).flatMap jz) (pre.length:Int)=some (.bool (r.all EW)):=by
 intro r
 induction r with
 |nil=>
  intro pre fuel hn hB hf;cases fuel with
  |zero=>exact absurd hf (Nat.not_lt_zero _)
  |succ fuel=>
   subst hn;rw[sP,ct,bo];rfl
 |cons x r ih=>
  intro pre fuel hn hB hf;cases fuel with
  |zero=>exact absurd hf (Nat.not_lt_zero _)
  |succ fuel=>
   have ih:=ih (pre++[x]) fuel (by rw[cR];exact hn) hB (by simp at hf;omega);rw[cR] at ih;subst hn;rw[sP,cJ,br,cE,bv,c0,bu,M4,bG,hF x,bm,bA,ch pre x r (by omega),ih,List.all_cons];cases EW x<;>rfl
theorem Nk(k:KepV):co 76 [.agg (bK k)] (.bool (zf k)):=by
 obtain⟨B,hB,hF⟩:=jK [fa75,fa150] ⟨tc,yk,trivial⟩ (by kernel_rfl);have a:B 75 [.int .i64 (k.2.2.2.length:Int),.int .i64 5,.int .i64 200]=some (.bool (jA (k.2.2.2.length:Int) 5 200)):=hF.1 ((k.2.2.2.length:Int),5,200);refine eM hB Tryz.func76 (ord:=O0) (N:=LT) (by kernel_rfl) ((Hg _ _ _ _ _ _ _ _ _ _).trans ?_);rw[a,bm,bA,Ck (hC:=c1)];unfold zf;cases decide ((k.1.size:Int)>60) with
 |true=>rfl
 |false=>
  rw[bo,bo];cases decide ((k.2.1.2.length:Int)>39) with
  |true=>rfl
  |false=>
   rw[bo,bo];cases h:jA (k.2.2.2.length:Int) 5 200 with
   |false=>rfl
   |true=>
    have:=e8 (n:=5) (m:=200) h (by omega) (by omega);rw[Bool.not_true,bo,bo];exact Nj hF.2.1 k.2.2.2 [] LL rfl (by omega) (by unfold LL;omega)
def fa76:Fam:=⟨76,KepV,fun k=>[.agg (bK k)],fun k=> .bool (zf k)⟩
theorem Ak:fa76.Good:=⟨Nk,fun i j h=>by
 have h:[D.agg (bK i)]=[D.agg (bK j)]:=h;simp only[zc1,and_true,D.agg.injEq] at h;rw[CG h]⟩
section
variable {f0 f1 f2 f3 f4 f5:Bool}{b0 b1 b2 b3 b4 b5:Nat}{e0 e1 e2 e3 e4 e5:List D}{B:FuncId→List D→Option D}
theorem Al{n:Nat}{E:List D}(hF:∀k:KepV,B 76 [.agg [.str k.1,.slc k.2.1.1 k.2.1.2.length (k.2.1.2.flatMap bL),.slc k.2.2.1 k.2.2.2.length (k.2.2.2.flatMap jz)]]=some (.bool (zf k))):∀(r pre:List KepV) (fuel:Nat),(pre++r).length=n→E=(pre++r).flatMap bK→n≤100000→r.length<fuel→
  iP B LL C1 fuel f0 b0 e0 f1 b1 e1 f2 b2 e2 f3 b3 e3 f4 b4 e4 f5 n E (pre.length:Int)=some (.bool (r.all zf)):=by
 intro r
 induction r with
 |nil=>
  intro pre fuel hn he hB hf;cases fuel with
  |zero=>exact absurd hf (Nat.not_lt_zero _)
  |succ fuel=>
   subst hn;rw[oE,ct,bo];rfl
 |cons x r ih=>
  intro pre fuel hn he hB hf;cases fuel with
  |zero=>exact absurd hf (Nat.not_lt_zero _)
  |succ fuel=>
   have ih:=ih (pre++[x]) fuel (by rw[cR];exact hn) (by rw[cR];exact he) hB (by simp at hf;omega);subst hn;rw[oE,cJ,br,cE,bv,show∀{γ:Type} (c:D→Option γ),bn E (Int.toNat (pre.length:Int)*3+0) c=c (.str x.1) from fun c=>by rw[he];exact p0 c pre x r,bu,show∀{γ:Type} (c:D→Option γ),bn E (Int.toNat (pre.length:Int)*3+1) c=c (.slc x.2.1.1 x.2.1.2.length (x.2.1.2.flatMap bL)) from fun c=>by rw[he];exact p1 c pre x r,bG,show∀{γ:Type} (c:D→Option γ),bn E (Int.toNat (pre.length:Int)*3+2) c=c (.slc x.2.2.1 x.2.2.2.length (x.2.2.2.flatMap jz)) from fun c=>by rw[he];exact p2 c pre x r,bG,hF x,bm,bA,ch pre x r (by omega),ih,List.all_cons];cases zf x<;>rfl
theorem CH{n:Nat}{M:Bool}{E:List D}(hE:iP B LL C1 LL f0 b0 e0 f1 b1 e1 f2 b2 e2 f3 b3 e3 f4 n E f5 b5 e5 0=some (.bool M)):∀(r pre:List ByteArray) (fuel:Nat),(pre++r).length=n→E=bq (pre++r)→n≤100000→r.length<fuel→
  kI B LL C1 fuel f0 b0 e0 f1 b1 e1 f2 b2 e2 f3 b3 e3 f4 n E f5 b5 e5 (pre.length:Int)=some (.bool ((r.all sm&&M))):=by
 intro r
 induction r with
 |nil=>
  intro pre fuel hn he hB hf;cases fuel with
  |zero=>exact absurd hf (Nat.not_lt_zero _)
  |succ fuel=>
   subst hn;rw[qT,ct,bo,hE];rfl
 |cons x r ih=>
  intro pre fuel hn he hB hf;cases fuel with
  |zero=>exact absurd hf (Nat.not_lt_zero _)
  |succ fuel=>
   have ih:=ih (pre++[x]) fuel (by rw[cR];exact hn) (by rw[cR];exact he) hB (by simp at hf;omega);subst hn;rw[qT,cJ,br,cE,bv,show∀{γ:Type} (c:D→Option γ),bn E (Int.toNat (pre.length:Int)*1) c=c (.str x) from fun c=>by rw[he];exact t0 c pre x r,bu,ch pre x r (by omega),ih,List.all_cons];unfold sm;cases decide ((x.size:Int)>60)<;>rfl
theorem CI{n:Nat}{M:Bool}{E:List D}(hE:kI B LL C1 LL f0 b0 e0 f1 b1 e1 f2 b2 e2 f3 n E f4 b4 e4 f5 b5 e5 0=some (.bool M)):∀(r pre:List ce) (fuel:Nat),(pre++r).length=n→E=(pre++r).flatMap bB→n≤100000→r.length<fuel→
  kJ B LL C1 fuel f0 b0 e0 f1 b1 e1 f2 b2 e2 f3 n E f4 b4 e4 f5 b5 e5 (pre.length:Int)=some (.bool ((r.all (fun x=>sm x.1&&(sm x.2.1&&sm x.2.2.2.2))&&M))):=by
 intro r
 induction r with
 |nil=>
  intro pre fuel hn he hB hf;cases fuel with
  |zero=>exact absurd hf (Nat.not_lt_zero _)
  |succ fuel=>
   subst hn;rw[qU,ct,bo,hE];rfl
 |cons x r ih=>
  intro pre fuel hn he hB hf;cases fuel with
  |zero=>exact absurd hf (Nat.not_lt_zero _)
  |succ fuel=>
   have ih:=ih (pre++[x]) fuel (by rw[cR];exact hn) (by rw[cR];exact he) hB (by simp at hf;omega);subst hn;rw[qU,cJ,br,cE,bv,show∀{γ:Type} (c:D→Option γ),bn E (Int.toNat (pre.length:Int)*5+0) c=c (.str x.1) from fun c=>by rw[he];exact k0 c pre x r,bu,show∀{γ:Type} (c:D→Option γ),bn E (Int.toNat (pre.length:Int)*5+1) c=c (.str x.2.1) from fun c=>by rw[he];exact k1 c pre x r,bu,show∀{γ:Type} (c:D→Option γ),bn E (Int.toNat (pre.length:Int)*5+3+1) c=c (.str x.2.2.2.2) from fun c=>by rw[he];exact k4 c pre x r,bu,ch pre x r (by omega),ih,List.all_cons];unfold sm;cases decide ((x.1.size:Int)>60)<;>cases decide ((x.2.1.size:Int)>60)<;>cases decide ((x.2.2.2.2.size:Int)>60)<;>rfl
theorem CJ{n:Nat}{M:Bool}{E:List D}(hE:kJ B LL C1 LL f0 b0 e0 f1 n E f2 b2 e2 f3 b3 e3 f4 b4 e4 f5 b5 e5 0=some (.bool M)):∀(r pre:List c6) (fuel:Nat),(pre++r).length=n→E=(pre++r).flatMap bH→n≤100000→r.length<fuel→
  kK B LL C1 fuel f0 b0 e0 f1 n E f2 b2 e2 f3 b3 e3 f4 b4 e4 f5 b5 e5 (pre.length:Int)=some (.bool ((r.all (fun x=>sm x.1&&sm x.2.1)&&M))):=by
 intro r
 induction r with
 |nil=>
  intro pre fuel hn he hB hf;cases fuel with
  |zero=>exact absurd hf (Nat.not_lt_zero _)
  |succ fuel=>
   subst hn;rw[qV,ct,bo,hE];rfl
 |cons x r ih=>
  intro pre fuel hn he hB hf;cases fuel with
  |zero=>exact absurd hf (Nat.not_lt_zero _)
  |succ fuel=>
   have ih:=ih (pre++[x]) fuel (by rw[cR];exact hn) (by rw[cR];exact he) hB (by simp at hf;omega);subst hn;rw[qV,cJ,br,cE,bv,show∀{γ:Type} (c:D→Option γ),bn E (Int.toNat (pre.length:Int)*3+0) c=c (.str x.1) from fun c=>by rw[he];exact HY c pre x r,bu,show∀{γ:Type} (c:D→Option γ),bn E (Int.toNat (pre.length:Int)*3+1) c=c (.str x.2.1) from fun c=>by rw[he];exact m1 c pre x r,bu,ch pre x r (by omega),ih,List.all_cons];unfold sm;cases decide ((x.1.size:Int)>60)<;>cases decide ((x.2.1.size:Int)>60)<;>rfl
theorem EX{n:Nat}{M:Bool}{E:List D}(hE:kK B LL C1 LL f0 n E f1 b1 e1 f2 b2 e2 f3 b3 e3 f4 b4 e4 f5 b5 e5 0=some (.bool M)):∀(r pre:List ByteArray) (fuel:Nat),(pre++r).length=n→E=bq (pre++r)→n≤100000→r.length<fuel→
  uk B LL C1 fuel f0 n E f1 b1 e1 f2 b2 e2 f3 b3 e3 f4 b4 e4 f5 b5 e5 (pre.length:Int)=some (.bool ((r.all sm&&M))):=by
 intro r
 induction r with
 |nil=>
  intro pre fuel hn he hB hf;cases fuel with
  |zero=>exact absurd hf (Nat.not_lt_zero _)
  |succ fuel=>
   subst hn;rw[sZ,ct,bo,hE];rfl
 |cons x r ih=>
  intro pre fuel hn he hB hf;cases fuel with
  |zero=>exact absurd hf (Nat.not_lt_zero _)
  |succ fuel=>
   have ih:=ih (pre++[x]) fuel (by rw[cR];exact hn) (by rw[cR];exact he) hB (by simp at hf;omega);subst hn;rw[sZ,cJ,br,cE,bv,show∀{γ:Type} (c:D→Option γ),bn E (Int.toNat (pre.length:Int)*1) c=c (.str x) from fun c=>by rw[he];exact t0 c pre x r,bu,ch pre x r (by omega),ih,List.all_cons];unfold sm;cases decide ((x.size:Int)>60)<;>rfl
end
section
variable (u:UV)
def Nl:Bool:=u.cl.all sm&&(u.me.all (fun x=>sm x.1&&sm x.2.1)&&(u.mr.all (fun x=>sm x.1&&(sm x.2.1&&sm x.2.2.2.2))&&(u.sg.all sm&&u.pa.all zf)))
def zg:Bool:=bx (!jA (u.cl.length:Int) 6 256) false (bx (!jA (u.me.length:Int) 6 200) false (bx (decide ((u.ho.length:Int)>39)) false (bx (!jA (u.mr.length:Int) 30 1000) false (bx (!jA (u.sg.length:Int) 8 200) false (bx (!jA (u.pa.length:Int) 4 256) false (Nl u))))))
theorem LD:co 14 [jM u] (.bool (zg u)):=by
 obtain⟨B,hB,hF⟩:=jK [fa75,fa76] ⟨tc,Ak,trivial⟩ (by kernel_rfl);have a:∀k n m:Int,B 75 [.int .i64 k,.int .i64 n,.int .i64 m]=some (.bool (jA k n m)):=fun k n m=>hF.1 (k,n,m);have b:∀k:KepV,B 76 [.agg [.str k.1,.slc k.2.1.1 k.2.1.2.length (k.2.1.2.flatMap bL),.slc k.2.2.1 k.2.2.2.length (k.2.2.2.flatMap jz)]]=some (.bool (zf k)):=hF.2.1;have h7:u.cl.length≤100000→u.me.length≤100000→u.mr.length≤100000→u.sg.length≤100000→u.pa.length≤100000→y6 B LL C1 u.cf u.cl.length (bq u.cl) u.mf u.me.length (u.me.flatMap bH) u.hf u.ho.length (u.ho.flatMap bL) u.kf u.mr.length (u.mr.flatMap bB) u.sf u.sg.length (bq u.sg) u.pf u.pa.length (u.pa.flatMap bK)=some (.bool (Nl u)):=fun l0 l1 l3 l4 l5=>by
  have g5:iP B LL C1 LL u.cf u.cl.length (bq u.cl) u.mf u.me.length (u.me.flatMap bH) u.hf u.ho.length (u.ho.flatMap bL) u.kf u.mr.length (u.mr.flatMap bB) u.sf u.sg.length (bq u.sg) u.pf u.pa.length (u.pa.flatMap bK) 0=some (.bool (u.pa.all zf)):=Al b u.pa [] LL rfl rfl l5 (by unfold LL;omega);have g4:kI B LL C1 LL u.cf u.cl.length (bq u.cl) u.mf u.me.length (u.me.flatMap bH) u.hf u.ho.length (u.ho.flatMap bL) u.kf u.mr.length (u.mr.flatMap bB) u.sf u.sg.length (bq u.sg) u.pf u.pa.length (u.pa.flatMap bK) 0=some (.bool (u.sg.all sm&&u.pa.all zf)):=CH g5 u.sg [] LL rfl rfl l4 (by unfold LL;omega);have g3:kJ B LL C1 LL u.cf u.cl.length (bq u.cl) u.mf u.me.length (u.me.flatMap bH) u.hf u.ho.length (u.ho.flatMap bL) u.kf u.mr.length (u.mr.flatMap bB) u.sf u.sg.length (bq u.sg) u.pf u.pa.length (u.pa.flatMap bK) 0=some (.bool (u.mr.all (fun x=>sm x.1&&(sm x.2.1&&sm x.2.2.2.2))&&(u.sg.all sm&&u.pa.all zf))):=CI g4 u.mr [] LL rfl rfl l3 (by unfold LL;omega);have g1:kK B LL C1 LL u.cf u.cl.length (bq u.cl) u.mf u.me.length (u.me.flatMap bH) u.hf u.ho.length (u.ho.flatMap bL) u.kf u.mr.length (u.mr.flatMap bB) u.sf u.sg.length (bq u.sg) u.pf u.pa.length (u.pa.flatMap bK) 0=some (.bool (u.me.all (fun x=>sm x.1&&sm x.2.1)&&(u.mr.all (fun x=>sm x.1&&(sm x.2.1&&sm x.2.2.2.2))&&(u.sg.all sm&&u.pa.all zf)))):=CJ g3 u.me [] LL rfl rfl l1 (by unfold LL;omega);rw[Cs (hC:=c1)];exact EX g1 u.cl [] LL rfl rfl l0 (by unfold LL;omega)
 refine eM hB Tryz.func14 (ord:=O0) (N:=Fy) (by kernel_rfl) ((HU _ _ _ _ _ _ _ _ _ _ _ _ _ _ _ _ _ _ _ _ _).trans ?_);rw[a,bm,bA,a,bm,bA,a,bm,bA,a,bm,bA,a,bm,bA];unfold zg;cases h0:jA (u.cl.length:Int) 6 256 with
 |false=>rfl
 |true=>
  rw[Bool.not_true,bo,bo];cases h1:jA (u.me.length:Int) 6 200 with
  |false=>rfl
  |true=>
   rw[Bool.not_true,bo,bo];cases h2:decide ((u.ho.length:Int)>39) with
   |true=>rfl
   |false=>
    rw[bo,bo];cases h3:jA (u.mr.length:Int) 30 1000 with
    |false=>rfl
    |true=>
     rw[Bool.not_true,bo,bo];cases h4:jA (u.sg.length:Int) 8 200 with
     |false=>rfl
     |true=>
      rw[Bool.not_true,bo,bo];cases h5:jA (u.pa.length:Int) 4 256 with
      |false=>rfl
      |true=>
       rw[Bool.not_true,bo,bo];have q0:=e8 (n:=6) (m:=256) h0 (by omega) (by omega);have q1:=e8 (n:=6) (m:=200) h1 (by omega) (by omega);have q3:=e8 (n:=30) (m:=1000) h3 (by omega) (by omega);have q4:=e8 (n:=8) (m:=200) h4 (by omega) (by omega);have q5:=e8 (n:=4) (m:=256) h5 (by omega) (by omega);exact h7 (by omega) (by omega) (by omega) (by omega) (by omega)
theorem gV{b r:Bool}(h:bx b false r=true):b=false∧r=true:=by
 cases b with
 |true=>cases h
 |false=>exact⟨rfl,h⟩
theorem nU{b:Bool}(h:(!b)=false):b=true:=by cases b<;>first|rfl|cases h
theorem EY{c:CrdV}(h:EW c=true):c.Fit:=by
 unfold EW at h;obtain⟨h1,h⟩:=gV h;obtain⟨h2,_⟩:=gV h;simp at h1 h2;exact⟨by omega,by omega⟩
theorem EZ{k:KepV}(h:zf k=true):k.Fit:=by
 unfold zf at h;obtain⟨h1,h⟩:=gV h;obtain⟨h2,h⟩:=gV h;obtain⟨h3,h⟩:=gV h;have:=e8 (n:=5) (m:=200) (nU h3) (by omega) (by omega);simp at h1;exact⟨by omega,by omega,fun c hc=>EY (zd1.1 h c hc)⟩
theorem Ib(h:zg u=true):u.Fit'∧u.ho.length≤39:=by
 unfold zg at h;obtain⟨h0,h⟩:=gV h;obtain⟨h1,h⟩:=gV h;obtain⟨h2,h⟩:=gV h;obtain⟨h3,h⟩:=gV h;obtain⟨h4,h⟩:=gV h;obtain⟨h5,h⟩:=gV h;have q0:=e8 (n:=6) (m:=256) (nU h0) (by omega) (by omega);have q1:=e8 (n:=6) (m:=200) (nU h1) (by omega) (by omega);have q3:=e8 (n:=30) (m:=1000) (nU h3) (by omega) (by omega);have q4:=e8 (n:=8) (m:=200) (nU h4) (by omega) (by omega);have q5:=e8 (n:=4) (m:=256) (nU h5) (by omega) (by omega);simp at h2;unfold Nl at h;simp only[zc0,zd1] at h;obtain⟨a,b,c,d,e⟩:=h;exact⟨⟨⟨by omega,by omega,by omega,by omega,by omega,by omega⟩,fun x hx=>by have:=ze (a x hx);omega,fun x hx=>by have:=ze (b x hx).1;omega,fun k hk=>EZ (e k hk)⟩,by omega⟩
def E0:UV:={u with mf:=u.me.isEmpty,kf:=u.mr.isEmpty,pf:=u.pa.isEmpty}
end
section
variable {f0 f1 f2 f3 f4 f5:Bool}{b0 b1 b2 b3 b4 b5:Nat}{e0 e1 e2 e3 e4 e5:List D}{B:FuncId→List D→Option D}
theorem Id{i n:Nat}(h:i<n)(hn:n*40≤cu):decide ((i+1)*40≤cu∧i+1≤9223372036854775807)=true:=by
 rw[show cu=140737488355328 from rfl] at hn ⊢;simp only[zc3];omega
theorem CK{i n:Nat}(h:i<n)(hn:n*64≤cu):decide ((i+1)*64≤cu∧i+1≤9223372036854775807)=true:=by
 rw[show cu=140737488355328 from rfl] at hn ⊢;simp only[zc3];omega
theorem kP{n w:Nat}(hw:40≤w)(hn:n*w≤cu):n≤4000000000000:=by
 rw[show cu=140737488355328 from rfl] at hn;have:=Nat.mul_le_mul_left n hw;omega
theorem CM{n:Nat}(me:List c6)(mr:List ce)(hn64:n*64≤cu):∀(r pre:List KepV) (fuel:Nat),(pre++r).length=n→r.length<fuel→
  cX B LL C1 fuel f5 n ((pre++r).flatMap bK) f0 b0 e0 f2 b2 e2 f4 b4 e4 n (pre.length:Int) (du bH me) (du bB mr) (du bK pre)=some (.agg [.slc f0 b0 e0,eR bH me,.slc f2 b2 e2,eR bB mr,.slc f4 b4 e4,eR bK (pre++r)]):=by
 intro r
 induction r with
 |nil=>
  intro pre fuel hn hf;cases fuel with
  |zero=>exact absurd hf (Nat.not_lt_zero _)
  |succ fuel=>
   have he:decide ((pre.length:Int)<(n:Int))=false:=by rw[←hn];exact ct pre
   generalize List.flatMap bK (pre++[])=E;rw[zb2];cases me<;>cases mr<;>cases pre<;>simp only[du]<;>
    first
    |(rw[lk,he,bo];rfl)
    |(rw[ll,he,bo];rfl)
    |(rw[lm,he,bo];rfl)
    |(rw[lp,he,bo];rfl)
    |(rw[lq,he,bo];rfl)
    |(rw[lr,he,bo];rfl)
    |(rw[ls,he,bo];rfl)
    |(rw[lu,he,bo];rfl)
 |cons x r ih=>
  intro pre fuel hn hf;cases fuel with
  |zero=>exact absurd hf (Nat.not_lt_zero _)
  |succ fuel=>
   have ih:=ih (pre++[x]) fuel (by rw[cR];exact hn) (by simp at hf;omega);rw[cR,fG] at ih;have hl:=kP (by omega) hn64;have hlt:pre.length<n:=by rw[←hn];simp
   have h1:decide ((pre.length:Int)<(n:Int))=true:=by rw[←hn];exact cJ pre x r
   have h2:decide ((0:Int)≤(pre.length:Int)∧(pre.length:Int)<(n:Int))=true:=by rw[←hn];exact cE pre x r
   have h3:=ch pre x r (by rw[hn];omega);have q0:∀(c:D→Option D),bn ((pre++x::r).flatMap bK) (Int.toNat (pre.length:Int)*3+0) c=c (.str x.1):=fun c=>p0 c pre x r;have q1:∀(c:D→Option D),bn ((pre++x::r).flatMap bK) (Int.toNat (pre.length:Int)*3+1) c=_:=fun c=>p1 c pre x r;have q2:∀(c:D→Option D),bn ((pre++x::r).flatMap bK) (Int.toNat (pre.length:Int)*3+2) c=_:=fun c=>p2 c pre x r;have hrm:=CK hlt hn64;rw[←ih];generalize List.flatMap bK (pre++x::r)=E at q0 q1 q2;generalize (((pre++[x]).length:Nat):Int)=j at h3;cases pre with
   |nil=>
    cases me<;>cases mr<;>simp only[du]<;>
    first
    |(rw[lk,h1,br,h2,bv,q0,bu,q1,bG,q2,bG,h3];rfl)
    |(rw[lm,h1,br,h2,bv,q0,bu,q1,bG,q2,bG,h3];rfl)
    |(rw[lq,h1,br,h2,bv,q0,bu,q1,bG,q2,bG,h3];rfl)
    |(rw[ls,h1,br,h2,bv,q0,bu,q1,bG,q2,bG,h3];rfl)
   |cons o os=>
    rw[show(o::os).length=os.length+1 from rfl] at hrm;cases me<;>cases mr<;>simp only[du]<;>
    first
    |(rw[ll,h1,br,h2,bv,q0,bu,q1,bG,q2,bG,hrm,bv,h3];rfl)
    |(rw[lp,h1,br,h2,bv,q0,bu,q1,bG,q2,bG,hrm,bv,h3];rfl)
    |(rw[lr,h1,br,h2,bv,q0,bu,q1,bG,q2,bG,hrm,bv,h3];rfl)
    |(rw[lu,h1,br,h2,bv,q0,bu,q1,bG,q2,bG,hrm,bv,h3];rfl)
theorem CN{n n5:Nat}(me:List c6)(pa:List KepV)(hn64:n*64≤cu)(hp64:n5*64≤cu)(hp:pa.length=n5):∀(r pre:List ce) (fuel:Nat),(pre++r).length=n→r.length<fuel→
  eZ B LL C1 fuel f3 n ((pre++r).flatMap bB) f0 b0 e0 f1 b1 e1 f2 b2 e2 f4 b4 e4 f5 n5 (pa.flatMap bK) n (pre.length:Int) (du bH me) (du bB pre)=some (.agg [.slc f0 b0 e0,eR bH me,.slc f2 b2 e2,eR bB (pre++r),.slc f4 b4 e4,eR bK pa]):=by
 intro r
 induction r with
 |nil=>
  intro pre fuel hn hf;cases fuel with
  |zero=>exact absurd hf (Nat.not_lt_zero _)
  |succ fuel=>
   have he:decide ((pre.length:Int)<(n:Int))=false:=by rw[←hn];exact ct pre
   have hl:=kP (by omega) hp64;have g:cX B LL C1 LL f5 n5 (pa.flatMap bK) f0 b0 e0 f2 b2 e2 f4 b4 e4 n5 0 (du bH me) (du bB pre) .nil=some (.agg [.slc f0 b0 e0,eR bH me,.slc f2 b2 e2,eR bB pre,.slc f4 b4 e4,eR bK pa]):=CM me pre hp64 pa [] LL hp (by unfold LL;omega);generalize List.flatMap bB (pre++[])=E;rw[zb2,←g];cases me<;>cases pre<;>simp only[du]<;>
    first
    |(rw[mX,he,bo])
    |(rw[mY,he,bo])
    |(rw[mZ,he,bo])
    |(rw[m5,he,bo])
 |cons x r ih=>
  intro pre fuel hn hf;cases fuel with
  |zero=>exact absurd hf (Nat.not_lt_zero _)
  |succ fuel=>
   have ih:=ih (pre++[x]) fuel (by rw[cR];exact hn) (by simp at hf;omega);rw[cR,fG] at ih;have hl:=kP (by omega) hn64;have hlt:pre.length<n:=by rw[←hn];simp
   have h1:decide ((pre.length:Int)<(n:Int))=true:=by rw[←hn];exact cJ pre x r
   have h2:decide ((0:Int)≤(pre.length:Int)∧(pre.length:Int)<(n:Int))=true:=by rw[←hn];exact cE pre x r
   have h3:=ch pre x r (by rw[hn];omega);have q0:∀(c:D→Option D),bn ((pre++x::r).flatMap bB) (Int.toNat (pre.length:Int)*5+0) c=_:=fun c=>k0 c pre x r;have q1:∀(c:D→Option D),bn ((pre++x::r).flatMap bB) (Int.toNat (pre.length:Int)*5+1) c=_:=fun c=>k1 c pre x r;have q2:∀(c:D→Option D),bn ((pre++x::r).flatMap bB) (Int.toNat (pre.length:Int)*5+2) c=_:=fun c=>k2 c pre x r;have q3:∀(c:D→Option D),bn ((pre++x::r).flatMap bB) (Int.toNat (pre.length:Int)*5+3) c=_:=fun c=>k3 c pre x r;have q4:∀(c:D→Option D),bn ((pre++x::r).flatMap bB) (Int.toNat (pre.length:Int)*5+4) c=_:=fun c=>k4 c pre x r;have hrm:=CK hlt hn64;rw[←ih];generalize List.flatMap bB (pre++x::r)=E at q0 q1 q2 q3 q4;generalize (((pre++[x]).length:Nat):Int)=j at h3;cases pre with
   |nil=>
    cases me<;>simp only[du]<;>
    first
    |(rw[mX,h1,br,h2,bv,q0,bu,q1,bu,q2,bp,q3,bp,q4,bu,h3];rfl)
    |(rw[mZ,h1,br,h2,bv,q0,bu,q1,bu,q2,bp,q3,bp,q4,bu,h3];rfl)
   |cons o os=>
    rw[show(o::os).length=os.length+1 from rfl] at hrm;cases me<;>simp only[du]<;>
    first
    |(rw[mY,h1,br,h2,bv,q0,bu,q1,bu,q2,bp,q3,bp,q4,bu,hrm,bv,h3];rfl)
    |(rw[m5,h1,br,h2,bv,q0,bu,q1,bu,q2,bp,q3,bp,q4,bu,hrm,bv,h3];rfl)
theorem E1{n n3 n5:Nat}(mr:List ce)(pa:List KepV)(hn40:n*40≤cu)(hm64:n3*64≤cu)(hm:mr.length=n3)(hp64:n5*64≤cu)(hp:pa.length=n5):∀(r pre:List c6) (fuel:Nat),(pre++r).length=n→r.length<fuel→
  lT B LL C1 fuel f1 n ((pre++r).flatMap bH) f0 b0 e0 f2 b2 e2 f3 n3 (mr.flatMap bB) f4 b4 e4 f5 n5 (pa.flatMap bK) n (pre.length:Int) (du bH pre)=some (.agg [.slc f0 b0 e0,eR bH (pre++r),.slc f2 b2 e2,eR bB mr,.slc f4 b4 e4,eR bK pa]):=by
 intro r
 induction r with
 |nil=>
  intro pre fuel hn hf;cases fuel with
  |zero=>exact absurd hf (Nat.not_lt_zero _)
  |succ fuel=>
   have he:decide ((pre.length:Int)<(n:Int))=false:=by rw[←hn];exact ct pre
   have hl:=kP (by omega) hm64;have g:eZ B LL C1 LL f3 n3 (mr.flatMap bB) f0 b0 e0 f1 n ((pre++[]).flatMap bH) f2 b2 e2 f4 b4 e4 f5 n5 (pa.flatMap bK) n3 0 (du bH pre) .nil=some (.agg [.slc f0 b0 e0,eR bH pre,.slc f2 b2 e2,eR bB mr,.slc f4 b4 e4,eR bK pa]):=CN pre pa hm64 hp64 hp mr [] LL hm (by unfold LL;omega);generalize List.flatMap bH (pre++[])=E at g ⊢;rw[zb2,←g];cases pre<;>simp only[du]<;>
    first
    |(rw[qR,he,bo])
    |(rw[qS,he,bo])
 |cons x r ih=>
  intro pre fuel hn hf;cases fuel with
  |zero=>exact absurd hf (Nat.not_lt_zero _)
  |succ fuel=>
   have ih:=ih (pre++[x]) fuel (by rw[cR];exact hn) (by simp at hf;omega);rw[cR,fG] at ih;have hl:=kP (by omega) hn40;have hlt:pre.length<n:=by rw[←hn];simp
   have h1:decide ((pre.length:Int)<(n:Int))=true:=by rw[←hn];exact cJ pre x r
   have h2:decide ((0:Int)≤(pre.length:Int)∧(pre.length:Int)<(n:Int))=true:=by rw[←hn];exact cE pre x r
   have h3:=ch pre x r (by rw[hn];omega);have q0:∀(c:D→Option D),bn ((pre++x::r).flatMap bH) (Int.toNat (pre.length:Int)*3+0) c=_:=fun c=>HY c pre x r;have q1:∀(c:D→Option D),bn ((pre++x::r).flatMap bH) (Int.toNat (pre.length:Int)*3+1) c=_:=fun c=>m1 c pre x r;have q2:∀(c:D→Option D),bn ((pre++x::r).flatMap bH) (Int.toNat (pre.length:Int)*3+2) c=_:=fun c=>m2 c pre x r;have hrm:=Id hlt hn40;rw[←ih];generalize List.flatMap bH (pre++x::r)=E at q0 q1 q2;generalize (((pre++[x]).length:Nat):Int)=j at h3;cases pre with
   |nil=>
    simp only[du];rw[qR,h1,br,h2,bv,q0,bu,q1,bu,q2,bp,h3];rfl
   |cons o os=>
    rw[show(o::os).length=os.length+1 from rfl] at hrm;simp only[du];rw[qS,h1,br,h2,bv,q0,bu,q1,bu,q2,bp,hrm,bv,h3];rfl
theorem Nm(u:UV)(h1:u.me.length*40≤cu)(h3:u.mr.length*64≤cu)(h5:u.pa.length*64≤cu):co 13 [jM u] (jM (E0 u)):=by
 refine eM cN Tryz.func13 (ord:=O0) (N:=KI) (by kernel_rfl) ((HT _ _ _ _ _ _ _ _ _ _ _ _ _ _ _ _ _ _ _ _ _).trans ?_);have hl:=kP (by omega) h1;have g:lT (fun _ _=>none) LL C1 LL u.mf u.me.length (u.me.flatMap bH) u.cf u.cl.length (bq u.cl) u.hf u.ho.length (u.ho.flatMap bL) u.kf u.mr.length (u.mr.flatMap bB) u.sf u.sg.length (bq u.sg) u.pf u.pa.length (u.pa.flatMap bK) u.me.length 0 .nil=_:=E1 u.mr u.pa h1 h3 rfl h5 rfl u.me [] LL rfl (by unfold LL;omega);refine g.trans ?_;rw[d7,d7,d7];rfl
end
end Go.Pd
end
