import Derived.Test.YtjhoaknnmfifgaaGreatDoorUnU
import Derived.Test.YtjhoaknnmfifgaaGreatDoorUnV
import Derived.Test.YtjhoaknnmfifgaaGreatDoorUnI
import Derived.Test.YtjhoaknnmfifgaaGreatDoorUnP
import Derived.Test.YtjhoaknnmfifgaaGreatDoorUnT
import Derived.Test.YtjhoaknnmfifgaaGreatDoorUnA
import Derived.KernelRfl
import Derived.Test.YtjhoaknnmfifgaaGreatDoorUnJ
section
namespace Go.Pd
open Go Go.Proofs Go.RowKit
theorem iy{x:MsgV}{l:List MsgV}(h:gZ (x::l)):(∀z∈l,cO x z=true)∧gZ l:=⟨(List.pairwise_cons.1 h).1,(List.pairwise_cons.1 h).2⟩
theorem wQ{a b:MsgV}(h:cO a b=true):a≠b:=fun e=>by rw[e,uH] at h;cases h
theorem ka:∀{a b:List MsgV},gZ a→gZ b→(∀z,z∈a↔z∈b)→a=b
 |[],[],_,_,_=>rfl
 |[],y::b,_,_,h=>absurd ((h y).2 (za4 ..)) (by simp)
 |x::a,[],_,_,h=>absurd ((h x).1 (za4 ..)) (by simp)
 |x::a,y::b,ha,hb,h=>by
  obtain⟨ha1,ha2⟩:=iy ha;obtain⟨hb1,hb2⟩:=iy hb;have e:x=y:=by
   rcases List.mem_cons.1 ((h x).1 (za4 ..)) with e|hx
   ·exact e
   ·rcases List.mem_cons.1 ((h y).2 (za4 ..)) with e|hy
    ·exact e.symm
    ·have h1:=hb1 x hx;have h2:=ha1 y hy;rw[j9 h1] at h2;cases h2
  subst e;rw[ka ha2 hb2 fun z=>⟨fun hz=> ?_,fun hz=> ?_⟩]
  ·rcases List.mem_cons.1 ((h z).1 (za5 _ hz)) with e|hz'
   ·exact absurd e.symm (wQ (ha1 z hz))
   ·exact hz'
  ·rcases List.mem_cons.1 ((h z).2 (za5 _ hz)) with e|hz'
   ·exact absurd e.symm (wQ (hb1 z hz))
   ·exact hz'
theorem lW:∀{l f:List MsgV},gZ f→gZ l→(∀z∈f,z∈l)→f.length≤l.length
 |[],[],_,_,_=>zb0 _
 |[],x::f,_,_,h=>absurd (h x (za4 ..)) (by simp)
 |y::l,[],_,_,_=>Nat.zero_le _
 |y::l,x::f,hf,hl,h=>by
  obtain⟨hf1,hf2⟩:=iy hf;obtain⟨hl1,hl2⟩:=iy hl;rw[za7,za7];refine Nat.succ_le_succ (lW hf2 hl2 fun z hz=> ?_);rcases List.mem_cons.1 (h z (za5 _ hz)) with e|hz'
  ·subst e;rcases List.mem_cons.1 (h x (za4 ..)) with e|hx
   ·exact absurd e (wQ (hf1 z hz))
   ·have h1:=hf1 z hz;rw[j9 (hl1 x hx)] at h1;cases h1
  ·exact hz'
theorem DO{l:List MsgV}(hl:l.length≤1000)(ha:gZ l)(hm:∀m∈l,dF m=0):bW l=0:=by
 have go:∀(r pre:List MsgV),gZ (pre++r)→(∀m∈r,dF m=0)→gO pre r=0:=by
  intro r
  induction r with
  |nil=>intro pre _ _;rfl
  |cons m r ih=>
   intro pre h hm;have hE:d9 pre m=0:=by
    have hz:=hm m (za4 ..);rcases List.eq_nil_or_concat pre with rfl|⟨p,y,rfl⟩
    ·show cN [dF m,bB false 11 0]=0;rw[hz];rfl
    ·rw[List.concat_eq_append] at h ⊢;have hy:=(List.pairwise_append.1 h).2.2 y (by simp) m (by simp);unfold d9;rw[List.getLast?_concat];show cN [dF m,bB (!cO y m) 11 0]=0;rw[hz,hy];rfl
   show bB (d9 pre m !=0) (d9 pre m) (gO (pre++[m]) r)=0;rw[hE,show((0:Int) !=0)=false from rfl,bj];exact ih (pre++[m]) (by rw[za8];exact h) fun z hz=>hm z (za5 _ hz)
 unfold bW;rw[show decide ((l.length:Int)>1000)=false by simp;omega,bj];exact go l [] (by rw[zb5];exact ha) hm
theorem BH{l:List MsgV}(hl:gZ l){x y:MsgV}(hx:x∈l)(hy:y∈l)(hk:fN y x=true):y=x:=by
 induction l with
 |nil=>cases hx
 |cons z l ih=>
  obtain⟨h1,h2⟩:=iy hl;rcases List.mem_cons.1 hx with e1|hx'
  ·rcases List.mem_cons.1 hy with e2|hy'
   ·rw[e1,e2]
   ·have:=h1 y hy';rw[←e1] at this;rw[uI] at hk;rw[pw hk] at this;cases this
  ·rcases List.mem_cons.1 hy with e2|hy'
   ·have:=h1 x hx';rw[←e2,pw hk] at this;cases this
   ·exact ih h2 hx' hy'
theorem BI{l f:List MsgV}{x:MsgV}(hl:gZ l)(hf:∀z∈f,z∈l)(hx:x∈l):∃f',km f x=some f':=by
 unfold km;cases hb:g6 f x with
 |nil=>exact⟨_,rfl⟩
 |cons y r=>
  have hy:y∈f:=by rw[←bb f x,hb];simp
  show∃f',(match fN y x with
   |true=>(match uJ y x with
    |true=>some f
    |false=>none)
   |false=>some (fp f x++x::y::r))=some f'
  cases hk:fN y x with
  |false=>exact⟨_,rfl⟩
  |true=>
   rw[BH hl hx (hf y hy) hk,msgQ_iff.2 rfl];exact⟨_,rfl⟩
theorem rc{l:List MsgV}(hl:gZ l):∀{b a:List MsgV},gZ a→(∀z∈a,z∈l)→(∀z∈b,z∈l)→∃r,lV a b=some r∧gZ r∧∀z,z∈r↔z∈a∨z∈b
 |[],a,ha,_,_=>⟨a,rfl,ha,fun z=>by simp⟩
 |x::b,a,ha,h1,h2=>by
  obtain⟨a',hp⟩:=BI hl h1 (h2 x (za4 ..));obtain⟨p1,_,p3⟩:=xT ha hp;obtain⟨r,r1,r2,r3⟩:=rc hl (b:=b) p1 (fun z hz=>by
   rcases(p3 z).1 hz with hz|rfl
   ·exact h1 z hz
   ·exact h2 z (za4 ..)) fun z hz=>h2 z (za5 _ hz)
  refine⟨r,?_,r2,fun z=> ?_⟩
  ·show(match km a x with
    |some a'=>lV a' b
    |none=>none)=some r
   rw[hp];exact r1
  ·rw[r3,p3,List.mem_cons];constructor
   ·rintro ((h|h)|h)
    ·exact .inl h
    ·exact .inr (.inl h)
    ·exact .inr (.inr h)
   ·rintro (h|h|h)
    ·exact .inl (.inl h)
    ·exact .inl (.inr h)
    ·exact .inr h
def fq(d:ByteArray):List MsgV→Int
 |[]=>0
 |m::l=>bB (dL m.1 d) 1 0+fq d l
theorem lX(d:ByteArray):∀a b:List MsgV,fq d (a++b)=fq d a+fq d b
 |[],b=>by show fq d b=0+fq d b;omega
 |m::a,b=>by
  show bB (dL m.1 d) 1 0+fq d (a++b)=bB (dL m.1 d) 1 0+fq d a+fq d b;rw[lX d a b];omega
theorem jT{d:ByteArray}:∀{l:List MsgV},(∀m∈l,dL m.1 d=false)→fq d l=0
 |[],_=>rfl
 |m::l,h=>by
  show bB (dL m.1 d) 1 0+fq d l=0;rw[h m (za4 ..),jT fun z hz=>h z (za5 _ hz)];rfl
theorem jU{d:ByteArray}(m:MsgV)(h:dL m.1 d=true)(l:List MsgV):fq d (l++[m])=fq d l+1:=by
 rw[lX];show fq d l+(bB (dL m.1 d) 1 0+0)=_;rw[h,bv];omega
theorem rf{d:ByteArray}(m:MsgV)(h:dL m.1 d=false)(l:List MsgV):fq d (l++[m])=fq d l:=by
 rw[lX];show fq d l+(bB (dL m.1 d) 1 0+0)=_;rw[h,bj];omega
def Ek:List MsgV→List MsgV→Prop
 |_,[]=>True
 |pre,m::r=>m.2.1=fq m.1 pre+1∧Ek (pre++[m]) r
theorem ft(d:ByteArray):∀l:List MsgV,0≤fq d l
 |[]=>Int.le_refl 0
 |m::l=>by
  show 0≤bB (dL m.1 d) 1 0+fq d l;have:=ft d l;cases dL m.1 d with
  |true=>rw[bv];omega
  |false=>rw[bj];omega
theorem wR:∀(l:List MsgV) (p:Option MsgV) (k:Int),∀z∈cU p k l,z∈l
 |[],_,_,z,h=>by cases h
 |m::r,p,k,z,h=>by
  have h:z∈bB (nx p k m==0) (cU (some m) 0 r) (bB (m.2.1 !=nx p k m) (cU (some m) 0 r) (m::cU (some m) (nx p k m+1) r)):=h;have i1:=wR r (some m) 0 z;have i2:=wR r (some m) (nx p k m+1) z;cases hq:nx p k m==0 with
  |true=>rw[hq,bv] at h;exact za5 _ (i1 h)
  |false=>
   rw[hq,bj] at h;cases hn:m.2.1 !=nx p k m with
   |true=>rw[hn,bv] at h;exact za5 _ (i1 h)
   |false=>
    rw[hn,bj] at h;rcases List.mem_cons.1 h with e|h
    ·rw[e];exact za4 ..
    ·exact za5 _ (i2 h)
theorem kb{a b:ByteArray}(h:a≠b):dL a b=false:=by
 cases he:dL a b with
 |false=>rfl
 |true=>exact absurd (sEq_iff.1 he) h
theorem xY:∀(r:List MsgV) (y:MsgV),After (some y) r→fq y.1 (cU (some y) 0 r)=0
 |[],_,_=>rfl
 |m::r,y,h=>by
  have hb:=h.2.2.2 m (za4 ..);cases hd:dL y.1 m.1 with
  |true=>
   show fq y.1 (bB (bB (dL y.1 m.1) 0 1==(0:Int)) (cU (some m) 0 r) _)=0;rw[hd,bv,show((0:Int)==0)=true from rfl,bv,sEq_iff.1 hd];exact xY r m h.tail
  |false=>
   have hlt:=uK hb hd;refine jT fun z hz=> ?_;have hz:=wR (m::r) (some y) 0 z hz;rw[oZ];refine wL ?_;rcases List.mem_cons.1 hz with rfl|hz
   ·exact hlt
   ·rcases befM_iff.1 (h.tail.2.2.2 z hz) with h1|⟨h1,_⟩
    ·exact iv _ _ _ hlt h1
    ·rw[←h1];exact hlt
def DP(m:MsgV)(q:Int)(r:List MsgV):List MsgV:=bB (q==0) (cU (some m) 0 r) (bB (m.2.1 !=q) (cU (some m) 0 r) (m::cU (some m) (q+1) r))
theorem Gv:∀(r:List MsgV) (m:MsgV) (sh:List MsgV) (q:Int),After (some m) r→(∀z∈sh,dL z.1 m.1=true∨j8 z.1 m.1=true)→((q=0∧fq m.1 sh+1<m.2.1)∨(q=fq m.1 sh+1∧q≤m.2.1))→
  Ek sh (DP m q r)∧∀z∈m::r,z.2.1≠fq z.1 (sh++DP m q r)+1:=by
 intro r
 induction r with
 |nil=>
  intro m sh q ha hs hq;have low:fq m.1 sh+1<m.2.1→Ek sh []∧∀z∈[m],z.2.1≠fq z.1 (sh++[])+1:=fun h=>⟨trivial,fun z hz=>by
   rw[zc9.1 hz,zb4];omega⟩
  have hnn:=ft m.1 sh;unfold DP;rcases hq with⟨rfl,h⟩|⟨hq,h⟩
  ·exact low h
  ·rw[show(q==0)=false from beq_eq_false_iff_ne.2 (by omega),bj];by_cases he:m.2.1=q
   ·rw[show(m.2.1 !=q)=false by simp[he],bj];refine⟨⟨by omega,trivial⟩,fun z hz=> ?_⟩;rw[zc9.1 hz];show m.2.1≠fq m.1 (sh++[m])+1;rw[jU m (sEq_iff.2 rfl)];omega
   ·rw[show(m.2.1 !=q)=true by simp[he],bv];exact low (by omega)
 |cons x r ih=>
  intro m sh q ha hs hq;have hb:=ha.2.2.2 x (za4 ..);have hx1:1≤x.2.1:=ha.2.1 x (za4 ..);have hnn:=ft m.1 sh;have devs:∀sh':List MsgV,(∀z∈sh',dL z.1 m.1=true∨j8 z.1 m.1=true)→∀z∈sh',dL z.1 x.1=true∨j8 z.1 x.1=true:=fun sh' h z hz=>by
   rcases befM_iff.1 hb with h1|⟨h1,_⟩
   ·rcases h z hz with h2|h2
    ·rw[sEq_iff.1 h2];exact .inr h1
    ·exact .inr (iv _ _ _ h2 h1)
   ·rw[←h1];exact h z hz
  have fresh:∀sh':List MsgV,(∀z∈sh',dL z.1 m.1=true∨j8 z.1 m.1=true)→dL m.1 x.1=false→fq x.1 sh'=0:=fun sh' h hd=>jT fun z hz=>by
   have hlt:=uK hb hd;rcases h z hz with h2|h2
   ·rw[sEq_iff.1 h2];exact hd
   ·exact wL (iv _ _ _ h2 hlt)
  have low:fq m.1 sh+1<m.2.1→Ek sh (cU (some m) 0 (x::r))∧∀z∈m::x::r,z.2.1≠fq z.1 (sh++cU (some m) 0 (x::r))+1:=fun h=>by
   have key:Ek sh (cU (some m) 0 (x::r))∧∀z∈x::r,z.2.1≠fq z.1 (sh++cU (some m) 0 (x::r))+1:=by
    refine ih x sh (nx (some m) 0 x) ha.tail (devs sh hs) ?_;show(bB (dL m.1 x.1) 0 1=(0:Int)∧_)∨(bB (dL m.1 x.1) 0 1=fq x.1 sh+1∧bB (dL m.1 x.1) 0 1≤x.2.1);cases hd:dL m.1 x.1 with
    |true=>
     have:=xU hb hd;have e:m.1=x.1:=sEq_iff.1 hd;exact .inl ⟨rfl,by rw[←e];omega⟩
    |false=>exact .inr ⟨by rw[fresh sh hs hd];rfl,hx1⟩
   refine⟨key.1,fun z hz=> ?_⟩;rcases List.mem_cons.1 hz with rfl|hz
   ·rw[lX,xY _ _ ha];omega
   ·exact key.2 z hz
  unfold DP;rcases hq with⟨rfl,h⟩|⟨hq,h⟩
  ·exact low h
  ·rw[show(q==0)=false from beq_eq_false_iff_ne.2 (by omega),bj];by_cases he:m.2.1=q
   ·rw[show(m.2.1 !=q)=false by simp[he],bj];have hs':∀z∈sh++[m],dL z.1 m.1=true∨j8 z.1 m.1=true:=fun z hz=>by
     rcases za9.1 hz with hz|hz
     ·exact hs z hz
     ·rw[zc9.1 hz];exact .inl (sEq_iff.2 rfl)
    have hc:fq m.1 (sh++[m])=fq m.1 sh+1:=jU m (sEq_iff.2 rfl) sh;have key:Ek (sh++[m]) (cU (some m) (q+1) (x::r))∧∀z∈x::r,z.2.1≠fq z.1 (sh++[m]++cU (some m) (q+1) (x::r))+1:=by
     refine ih x (sh++[m]) (nx (some m) (q+1) x) ha.tail (devs _ hs') ?_;show(bB (dL m.1 x.1) (q+1) 1=(0:Int)∧_)∨(bB (dL m.1 x.1) (q+1) 1=fq x.1 (sh++[m])+1∧bB (dL m.1 x.1) (q+1) 1≤x.2.1);cases hd:dL m.1 x.1 with
     |true=>
      have:=xU hb hd;have e:m.1=x.1:=sEq_iff.1 hd;rw[bv];exact .inr ⟨by rw[←e];omega,by omega⟩
     |false=>exact .inr ⟨by rw[fresh _ hs' hd];rfl,hx1⟩
    refine⟨⟨by omega,key.1⟩,fun z hz=> ?_⟩;rw[show sh++m::cU (some m) (q+1) (x::r)=sh++[m]++cU (some m) (q+1) (x::r) by simp];rcases List.mem_cons.1 hz with rfl|hz
    ·rw[lX];have:=ft z.1 (cU (some z) (q+1) (x::r));omega
    ·exact key.2 z hz
   ·rw[show(m.2.1 !=q)=true by simp[he],bv];exact low (by omega)
theorem y6{l:List MsgV}(h:gZ l)(hn:∀m∈l,1≤m.2.1):Ek [] (cU none 1 l)∧∀m∈l,m.2.1≠fq m.1 (cU none 1 l)+1:=by
 cases l with
 |nil=>exact⟨trivial,fun _ h=>by cases h⟩
 |cons m r=>
  obtain⟨h1,h2⟩:=iy h;have hm:=hn m (za4 ..);exact Gv r m [] 1 ⟨h2,fun z hz=>hn z (za5 _ hz),hm,h1⟩ (fun _ h=>by cases h) (.inr ⟨rfl,hm⟩)
structure GudM(l:List MsgV):Prop where
 len:l.length≤1000
 asc:gZ l
 ok:∀m∈l,dF m=0
theorem DQ{l:List MsgV}(h:bW l=0):GudM l:=⟨(lU h).1,(lU h).2.1,(lU h).2.2⟩
theorem GudM.fol{l:List MsgV}(h:GudM l):bW l=0:=DO h.len h.asc h.ok
theorem GudM.part{l f:List MsgV}(h:GudM l)(hf:gZ f)(hs:∀z∈f,z∈l):GudM f∧f.length≤l.length:=
 ⟨⟨zb1 (lW hf h.asc hs) h.len,hf,fun m hm=>h.ok m (hs m hm)⟩,lW hf h.asc hs⟩
theorem rg{l a b:List MsgV}(h:GudM l)(ha:gZ a)(h1:∀z∈a,z∈l)(h2:∀z∈b,z∈l):
  ∃r,xV a b=0∧sv a b=r∧gZ r∧(∀z,z∈r↔z∈a∨z∈b)∧r.length≤l.length:=by
 obtain⟨r,r1,r2,r3⟩:=rc h.asc ha h1 h2;have hs:∀z∈r,z∈l:=fun z hz=>by
  rcases(r3 z).1 hz with hz|hz
  ·exact h1 z hz
  ·exact h2 z hz
 have hl:=lW r2 h.asc hs;have h1000:=h.len;refine⟨r,?_,?_,r2,r3,hl⟩
 ·unfold xV;rw[r1];show bB (decide ((r.length:Int)>1000)) 5 0=0;rw[show decide ((r.length:Int)>1000)=false by simp;omega];rfl
 ·unfold sv;rw[r1];rfl
theorem BJ{l f:List MsgV}{m:MsgV}(h:GudM l)(ha:gZ f)(h1:∀z∈f,z∈l)(hm:m∈l):
  ∃r,qZ (cN [bW f,dF m]) f [m]=0∧sv f [m]=r∧gZ r∧(∀z,z∈r↔z∈f∨z=m)∧r.length≤l.length:=by
 obtain⟨r,r1,r2,r3,r4,r5⟩:=rg (b:=[m]) h ha h1 fun z hz=>by rw[zc9.1 hz];exact hm
 refine⟨r,?_,r2,r3,fun z=>by rw[r4,zc9],r5⟩;unfold qZ;rw[(h.part ha h1).1.fol,h.ok m hm,r1];rfl
theorem BK{l a b:List MsgV}(h:GudM l)(ha:gZ a)(hb:gZ b)(h1:∀z∈a,z∈l)(h2:∀z∈b,z∈l):
  ∃r,qZ (cN [bW a,bW b]) a b=0∧sv a b=r∧gZ r∧(∀z,z∈r↔z∈a∨z∈b)∧r.length≤l.length:=by
 obtain⟨r,r1,r2,r3,r4,r5⟩:=rg (b:=b) h ha h1 h2;refine⟨r,?_,r2,r3,r4,r5⟩;unfold qZ;rw[(h.part ha h1).1.fol,(h.part hb h2).1.fol,r1];rfl
theorem wS(s:ByteArray)(r:List ByteArray):∀(p:List ByteArray) (i:Nat),(∀y∈p,y≠s)→cC (.str s) (dK (p++s::r)) i=some (some (i+p.length))
 |[],i,_=>by
  have hk:fE (.str s) (.str s)=some true:=by
   show some (s==s)=_;rw[beq_toListBytes];show some (dL s s)=_;rw[sEq_iff.2 rfl]
  have e:cC (.str s) (dK (s::r)) i=match fE (.str s) (.str s) with
   |some true=>some (some i)
   |some false=>cC (.str s) (dK r) (i+1)
   |none=>none:=rfl
  rw[zb5,e,hk];rfl
 |x::p,i,h=>by
  have hk:fE (.str s) (.str x)=some false:=by
   show some (s==x)=_;rw[beq_toListBytes];show some (dL s x)=_;cases he:dL s x with
   |false=>rfl
   |true=>exact absurd (sEq_iff.1 he).symm (h x (za4 ..))
  have e:cC (.str s) (dK (x::(p++s::r))) i=match fE (.str s) (.str x) with
   |some true=>some (some i)
   |some false=>cC (.str s) (dK (p++s::r)) (i+1)
   |none=>none:=rfl
  rw[List.cons_append,e,hk];show cC (.str s) (dK (p++s::r)) (i+1)=_;rw[wS s r p (i+1) fun y hy=>h y (za5 _ hy),za7]
  congr 2
  omega
theorem uN{s:ByteArray}{l:List ByteArray}(h:s∉l):cC (.str s) (dK l) 0=some none:=by
 rcases Bv s l with⟨h1,_⟩|⟨_,_,_,h3⟩
 ·exact h1
 ·exact absurd (hasT_iff.1 h3) h
theorem DR{s:ByteArray}{x:Int}{l:List ByteArray}{vs:List Int}(h:cC (.str s) (dK l) 0=some none):tD (.str s) (.int .i64 x) (dK l) (iX vs)=some (dK (l++[s]),iX (vs++[x])):=by
 unfold tD;rw[h];simp[dK,iX]
structure Cm(K:List ByteArray)(pre:List MsgV):Prop where
 nd:K.Nodup
 has:∀d,d∈K↔∃m∈pre,m.1=d
theorem Cm.nil:Cm [] []:=⟨List.nodup_nil,fun d=>by simp⟩
def DS(K:List ByteArray)(pre:List MsgV):List D:=iX (K.map fun d=>fq d pre)
theorem wT{K:List ByteArray}{pre:List MsgV}(h:Cm K pre)(d:ByteArray):
  (cC (.str d) (dK K) 0=some none∧fq d pre=0)∨∃j,cC (.str d) (dK K) 0=some (some j)∧(DS K pre)[j]?=some (.int .i64 (fq d pre)):=by
 by_cases hd:d∈K
 ·obtain⟨p,r,e,hp⟩:∃p r,K=p++d::r∧∀y∈p,y≠d:=by
   obtain⟨p,r,e⟩:=List.append_of_mem hd;refine⟨p,r,e,fun y hy=> ?_⟩;have h3:=h.nd;rw[e] at h3;exact(List.nodup_append.1 h3).2.2 y hy d (za4 ..)
  subst e;refine .inr ⟨p.length,by rw[wS d r p 0 hp];simp,?_⟩;unfold DS iX;simp
 ·refine .inl ⟨uN hd,jT fun m hm=>kb fun e=>hd ((h.has d).2 ⟨m,hm,e⟩)⟩
theorem uO(K:List ByteArray)(g:ByteArray→Int):iX (K.map g)=K.map fun d=>D.int .i64 (g d):=by unfold iX;rw[List.map_map];rfl
theorem Gw{K:List ByteArray}{pre:List MsgV}(h:Cm K pre)(m:MsgV):∃K',Cm K' (pre++[m])∧tD (.str m.1) (.int .i64 (fq m.1 pre+1)) (dK K) (DS K pre)=some (dK K',DS K' (pre++[m])):=by
 by_cases hd:m.1∈K
 ·refine⟨K,⟨h.nd,fun d=> ?_⟩,?_⟩
  ·rw[h.has];constructor
   ·rintro ⟨x,hx,e⟩
    exact⟨x,List.mem_append_left _ hx,e⟩
   ·rintro ⟨x,hx,e⟩
    rcases za9.1 hx with hx|hx
    ·exact⟨x,hx,e⟩
    ·rw[zc9.1 hx] at e;rw[←e];exact(h.has m.1).1 hd
  ·obtain⟨p,r,e,hp⟩:∃p r,K=p++m.1::r∧∀y∈p,y≠m.1:=by
    obtain⟨p,r,e⟩:=List.append_of_mem hd;refine⟨p,r,e,fun y hy=> ?_⟩;have h3:=h.nd;rw[e] at h3;exact(List.nodup_append.1 h3).2.2 y hy m.1 (za4 ..)
   have hr:∀y∈r,y≠m.1:=fun y hy=>by
    have h3:=h.nd;rw[e] at h3;exact fun e2=>(List.nodup_cons.1 (List.nodup_append.1 h3).2.1).1 (e2▸hy)
   subst e;unfold tD DS;rw[wS m.1 r p 0 hp,uO,uO];show some (_,_)=some (_,_);have e1:∀l:List ByteArray,(∀y∈l,y≠m.1)→(l.map fun d=>D.int .i64 (fq d pre))=l.map fun d=>D.int .i64 (fq d (pre++[m])):=fun l hl=>List.map_congr_left fun d hd=>by rw[rf m (kb fun e=>hl d hd e.symm)]
   rw[List.map_append,List.map_cons,List.map_append,List.map_cons,e1 p hp,e1 r hr,jU m (sEq_iff.2 rfl)]
   congr 2
   rw[Nat.zero_add,List.set_append_right _ _ (by simp)];simp
 ·have h0:fq m.1 pre=0:=jT fun x hx=>kb fun e=>hd ((h.has _).2 ⟨x,hx,e⟩);refine⟨K++[m.1],⟨?_,fun d=> ?_⟩,?_⟩
  ·refine List.nodup_append.2 ⟨h.nd,List.nodup_cons.2 ⟨by simp,List.nodup_nil⟩,fun a ha b hb e=>hd ?_⟩;rw[←zc9.1 hb,←e];exact ha
  ·rw[za9,h.has,zc9];constructor
   ·rintro (⟨x,hx,e⟩|e)
    ·exact⟨x,List.mem_append_left _ hx,e⟩
    ·exact⟨m,by simp,e.symm⟩
   ·rintro ⟨x,hx,e⟩
    rcases za9.1 hx with hx|hx
    ·exact .inl ⟨x,hx,e⟩
    ·rw[zc9.1 hx] at e;exact .inr e.symm
  ·unfold DS;rw[DR (uN hd),List.map_append,List.map_cons,List.map_nil,jU m (sEq_iff.2 rfl)]
   congr 3
   congr 1
   exact List.map_congr_left fun d hd'=>(rf m (kb fun e=>hd (e▸hd')) pre).symm
end Go.Pd
end
section
namespace Go.Pd
open Go Go.Proofs
set_option maxRecDepth 100000
def zg:bH:=fun p=>match p with
 |15=>some {keep:=[0,1,5,7],kl:=[8,13,16,17,22,23,24,25,27,29,31,33,35,41,43,63,96,101,276],ren:=[(5,5),(8,8),(13,13),(16,16),(17,17),(22,22),(23,23),(24,24),(25,25),(27,27),(29,29),(31,31),(33,33),(35,35),(41,41),(43,43),(63,63),(96,63),(101,63),(276,276)]}
 |506=>some {keep:=[0,5,7,8,9,64,65,66],kl:=[13,16,17,22,23,24,25,27,29,31,33,35,41,43,63,96,101,276],ren:=[(5,5),(8,8),(13,13),(16,16),(17,17),(22,22),(23,23),(24,24),(25,25),(27,27),(29,29),(31,31),(33,33),(35,35),(41,41),(43,43),(63,63),(96,63),(101,63),(276,276)],fz:=[100009]}
 |511=>some {keep:=[0,5,7,8],kl:=[13,16,17,22,23,24,25,27,29,31,33,35,41,43,63,96,101,276],ren:=[(5,5),(8,8),(13,13),(16,16),(17,17),(22,22),(23,23),(24,24),(25,25),(27,27),(29,29),(31,31),(33,33),(35,35),(41,41),(43,43),(63,63),(96,63),(101,63),(276,276)]}
 |1018=>some {keep:=[0,5,7,8,103,104,105],kl:=[13,16,17,22,23,24,25,27,29,31,33,35,41,43,63,96,101,276],ren:=[(5,5),(8,8),(13,13),(16,16),(17,17),(22,22),(23,23),(24,24),(25,25),(27,27),(29,29),(31,31),(33,33),(35,35),(41,41),(43,43),(63,63),(96,63),(101,63),(276,276)]}
 |65535=>some {keep:=[0,7,8,22,24,25,27,29],kl:=[5,13,16,17,23,31,33,35,41,43,63,96,101,276],ren:=[(5,5),(8,8),(13,13),(16,16),(17,17),(22,22),(23,23),(24,24),(25,25),(27,27),(29,29),(31,31),(33,33),(35,35),(41,41),(43,43),(63,63),(96,63),(101,63),(276,276)]}
 |2097151=>some {keep:=[0,37],kl:=[5,8,13,16,17,22,23,24,25,27,29,31,33,35,41,43,63,96,101,276],ren:=[(5,5),(8,8),(13,13),(16,16),(17,17),(22,22),(23,23),(24,24),(25,25),(27,27),(29,29),(31,31),(33,33),(35,35),(41,41),(43,43),(63,63),(96,63),(101,63),(276,276)]}
 |33554426=>some {keep:=[0,39,277,278,279],kl:=[5,8,13,16,17,22,23,24,25,27,29,31,33,35,41,43,63,96,101],ren:=[(5,5),(8,8),(13,13),(16,16),(17,17),(22,22),(23,23),(24,24),(25,25),(27,27),(29,29),(31,31),(33,33),(35,35),(41,41),(43,43),(63,63),(96,63),(101,63),(276,276)]}
 |67108858=>some {keep:=[39,296,297,298],kl:=[5,8,13,16,17,22,23,24,25,27,29,31,33,35,41,43,63,96,101],ren:=[(5,5),(8,8),(13,13),(16,16),(17,17),(22,22),(23,23),(24,24),(25,25),(27,27),(29,29),(31,31),(33,33),(35,35),(41,41),(43,43),(63,63),(96,63),(101,63),(276,276)]}
 |_=>none
def zh:hN:=fun id=>match id with
 |11=>some {l:=some [0,1,2,3,4,5,6,7,8,9,10,11],ks:=[13]}
 |16=>some {fs:=[(92,92),(96,96),(101,101),(95,95),(100,100)]}
 |30=>some {fs:=[(22,22),(23,23),(24,24),(140,140),(144,144),(153,153)]}
 |_=>none
noncomputable def eW(h:FuncId→List D→Option D)(L:Nat)(C:Nat→Nat)(z:Nat)(S:Bool)(U:Nat)(O B J:List D)(K M:Int):Option D:=
 ec (ed h L C) zh zg FinM.canon Tryz.f12 (bt 25 12582911) [] z (St.mk (jn 39 (D.mloc 276 0::jn 256 (D.slc S U O::D.int .i64 K::D.int .i64 M::jn 13 []))) (zn 276 ((1,some (Ob.map B J false))::zn 35 [])))
noncomputable def dG(h:FuncId→List D→Option D)(L:Nat)(C:Nat→Nat)(z:Nat)(S:Bool)(U:Nat)(O:List D)(W:Bool)(Y:Nat)(V:List D)(K M:Int)(B J:List D):Option D:=
 ec (ed h L C) zh zg FinM.canon Tryz.f12 (bt 24 6291455) [] z (St.mk (D.slc S U O::jn 38 (D.mloc 276 0::jn 237 (D.slc W Y V::D.int .i64 K::D.int .i64 M::jn 32 []))) (zn 276 ((1,some (Ob.map B J false))::zn 35 [])))
noncomputable def fQ(h:FuncId→List D→Option D)(L:Nat)(C:Nat→Nat)(B:Bool)(J:Nat)(z:List D)(M:Bool)(O:Nat)(K:List D):Option D:=
 kw (ed h L C) zh zg FinM.canon Tryz.f12 (bt 20 1048575) [] (C 2097151) (St.mk (D.slc B J z::jn 36 (D.slc M O K::jn 274 [])) (zn 312 []))
noncomputable def eI(h:FuncId→List D→Option D)(L:Nat)(C:Nat→Nat)(a7:Bool)(a8:Nat)(a6:List D)(aa:Bool)(ab:Nat)(a9:List D)(a5:Ow)(B:Bool)(K:Nat)(z:List D)(a3:Bool)(a4:Nat)(a2:List D)(O:Bool)(S:Nat)(M:List D)(V:Bool)(W:Nat)(U:List D)(a0:Bool)(a1:Nat)(Y:List D):Option D:=
 kw (ed h L C) zh zg FinM.canon Tryz.f12 (bt 15 32767) [] (C 65535) (St.mk (D.slc a7 a8 a6::jn 6 (D.slc aa ab a9::D.loc 8 0 0::jn 13 (D.loc 22 0 0::J::D.loc 24 0 0::D.loc 25 0 0::J::D.loc 27 0 0::J::D.loc 29 0 0::jn 282 []))) (zn 8 ((1,some (Ob.box [rJ 0 a5] false))::zn 13 ((1,some (Ob.box [D.slc B K z] false))::Z::(1,some (Ob.box [D.slc a3 a4 a2] false))::(1,some (Ob.box [D.slc O S M] false))::Z::(1,some (Ob.box [D.slc V W U] false))::Z::(1,some (Ob.box [D.slc a0 a1 Y] false))::zn 282 []))))
noncomputable def d7(h:FuncId→List D→Option D)(L:Nat)(C:Nat→Nat)(O:Bool)(S:Nat)(M:List D)(V:Bool)(W:Nat)(U:List D)(z B:Int)(K:Ow):Option D:=
 kw (ed h L C) zh zg FinM.canon Tryz.f12 (bt 8 255) [] (C 511) (St.mk (D.slc O S M::J::J::J::J::D.loc 5 0 0::J::D.slc V W U::D.loc 8 0 0::jn 303 []) (zn 5 ((1,some (Ob.box [D.int IntKind.u8 z,D.int IntKind.u8 B] false))::Z::Z::(1,some (Ob.box [rJ 0 K] false))::zn 303 [])))
noncomputable def em(h:FuncId→List D→Option D)(L:Nat)(C:Nat→Nat)(z:Nat)(a0:Bool)(a1:Nat)(Y:List D)(a3:Bool)(a4:Nat)(a2:List D)(U V:Int)(K:Bool)(M:Nat)(B:List D)(O S:Int)(W:Ow):Option D:=
 ec (ed h L C) zh zg FinM.canon Tryz.f12 (bt 9 191) [] z (St.mk (D.slc a0 a1 Y::J::J::J::J::D.loc 5 0 0::J::D.slc a3 a4 a2::D.loc 8 0 0::jn 94 (D.slc K M B::D.int .i64 O::D.int .i64 S::jn 206 [])) (zn 5 ((1,some (Ob.box [D.int IntKind.u8 U,D.int IntKind.u8 V] false))::Z::Z::(1,some (Ob.box [rJ 0 W] false))::zn 303 [])))
noncomputable def fy(h:FuncId→List D→Option D)(L:Nat)(C:Nat→Nat)(z:Nat)(V:Bool)(W:Nat)(U:List D)(a6:Bool)(a7:Nat)(a5:List D)(a3:Bool)(a4:Nat)(a2:List D)(M O:Int)(a0:Bool)(a1:Nat)(Y:List D)(B K:Int)(S:Ow):Option D:=
 ec (ed h L C) zh zg FinM.canon Tryz.f12 (bt 8 95) [] z (St.mk (D.slc V W U::J::J::J::J::D.loc 5 0 0::J::D.slc a6 a7 a5::D.loc 8 0 0::D.slc a0 a1 Y::jn 54 (D.slc a3 a4 a2::D.int .i64 B::D.int .i64 K::jn 245 [])) (zn 5 ((1,some (Ob.box [D.int IntKind.u8 M,D.int IntKind.u8 O] false))::Z::Z::(1,some (Ob.box [rJ 0 S] false))::zn 303 [])))
noncomputable def sw(h:FuncId→List D→Option D)(L:Nat)(C:Nat→Nat)(M:Bool)(O:Nat)(K:List D)(U:Bool)(V:Nat)(S:List D)(z B:Int)(Y:Bool)(Z:Nat)(W:List D):Option D:=
 kw (ed h L C) zh zg FinM.canon Tryz.f12 [true,true,true] [] (C 15) (St.mk (D.slc M O K::D.slc U V S::J::J::J::D.loc 5 0 0::J::D.slc Y Z W::jn 304 []) (zn 5 ((1,some (Ob.box [D.int IntKind.u8 z,D.int IntKind.u8 B] false))::zn 306 [])))
theorem jg(B:FuncId→List D→Option D)(L:Nat)(C:Nat→Nat)(S:Nat)(U:Bool)(O:Nat)(z J K:List D)(M h:Int):eW B L C (S+1) U O z J K M h=
 (bB (decide (h<M))
 (bT (decide (0≤h∧h<(O:Int)))
 (bi z (Int.toNat h*6+0) fun Y=>bQ Y fun a7=>bi z (Int.toNat h*6+1) fun Z=>bC .i64 Z fun V=>bi z (Int.toNat h*6+2) fun a0=>bQ a0 fun _s_4=>bi z (Int.toNat h*6+3) fun a1=>bC .i64 a1 fun _x_18=>bi z (Int.toNat h*6+4) fun a2=>bC .i64 a2 fun _x_19=>bi z (Int.toNat h*6+5) fun a3=>bQ a3 fun _s_5=>
 (kY (cC (D.str a7) J 0)
 (bB (V==IntKind.wrap .i64 (0+1))
 (some (D.bool false))
 (eW B L C S U O z J K M (IntKind.wrap .i64 (h+1)))) fun a5=>bi K a5 fun a4=>bC .i64 a4 fun a8=>bB (V==IntKind.wrap .i64 (a8+1))
 (some (D.bool false))
 (eW B L C S U O z J K M (IntKind.wrap .i64 (h+1))))))
 (bL (B 15 []) fun a6=>cG a6 fun W=>some (D.bool W))):=by kernel_rfl
theorem jh(J:FuncId→List D→Option D)(L:Nat)(C:Nat→Nat)(U:Nat)(O:Bool)(B:Nat)(M:List D)(Y:Bool)(S:Nat)(z:List D)(K h:Int)(V W:List D):dG J L C (U+1) O B M Y S z K h V W=
 (bB (decide (h<K))
 (bT (decide (0≤h∧h<(S:Int)))
 (bi z (Int.toNat h*6+0) fun a2=>bQ a2 fun s=>bi z (Int.toNat h*6+1) fun a3=>bC .i64 a3 fun Z=>bi z (Int.toNat h*6+2) fun a4=>bQ a4 fun _s_1=>bi z (Int.toNat h*6+3) fun a5=>bC .i64 a5 fun _x_12=>bi z (Int.toNat h*6+4) fun a6=>bC .i64 a6 fun _x_13=>bi z (Int.toNat h*6+5) fun a7=>bQ a7 fun _s_2=>
 (kY (cC (D.str s) V 0)
 (x6 (tD (D.str s) (D.int .i64 1) V W) fun ks vs=>
 (kY (cC (D.str s) ks 0)
 (bB (Z !=0)
 (some (D.bool false))
 (dG J L C U O B M Y S z K (IntKind.wrap .i64 (h+1)) ks vs)) fun i=>bi vs i fun a8=>bC .i64 a8 fun ad=>bB (Z !=ad)
 (some (D.bool false))
 (dG J L C U O B M Y S z K (IntKind.wrap .i64 (h+1)) ks vs))) fun ab=>bi W ab fun a9=>bC .i64 a9 fun ae=>
 (x6 (tD (D.str s) (D.int .i64 (IntKind.wrap .i64 (ae+1))) V W) fun a0 a1=>
 (kY (cC (D.str s) a0 0)
 (bB (Z !=0)
 (some (D.bool false))
 (dG J L C U O B M Y S z K (IntKind.wrap .i64 (h+1)) a0 a1)) fun ac=>bi a1 ac fun aa=>bC .i64 aa fun af=>bB (Z !=af)
 (some (D.bool false))
 (dG J L C U O B M Y S z K (IntKind.wrap .i64 (h+1)) a0 a1))))))
 (eW J L C L O B M V W ((B:Int)) 0)):=by kernel_rfl
theorem pA(z:FuncId→List D→Option D)(L:Nat)(C:Nat→Nat)(J:Bool)(K:Nat)(B:List D)(O:Bool)(h:Nat)(M:List D)(hC:∀t,C t=1):fQ z L C J K B O h M=
 (dG z L C L J K B O h M ((h:Int)) 0 ([]) ([])):=by
 unfold fQ;rw[hC]
 kernel_rfl
theorem pS(h:FuncId→List D→Option D)(L:Nat)(C:Nat→Nat)(ae:Bool)(af:Nat)(ad:List D)(B:Bool)(J:Nat)(z:List D)(a2:Bool)(a3:Nat)(a1:List D)(ab:Bool)(ac:Nat)(aa:List D)(U:Bool)(V:Nat)(S:List D)(a5:Bool)(a6:Nat)(a4:List D)(a8:Bool)(a9:Nat)(a7:List D)(hC:∀t,C t=1):eI h L C ae af ad B J z (Ow.nil) a2 a3 a1 ab ac aa U V S a5 a6 a4 a8 a9 a7=
 (bL (h 68 [D.agg [D.slc U V S],D.agg [D.slc ab ac aa]]) fun aY=>fA aY 2 fun W=>bi W 0 fun ax=>jo ax 1 fun ak=>bi ak 0 fun ay=>dH ay fun M O K=>bi W 1 fun az=>bC .i64 az fun bc=>bL (h 68 [D.agg [D.slc a2 a3 a1],D.agg [D.slc a8 a9 a7]]) fun aZ=>fA aZ 2 fun Y=>bi Y 0 fun aA=>jo aA 1 fun al=>bi al 0 fun aB=>dH aB fun aO aQ am=>bi Y 1 fun aC=>bC .i64 aC fun bd=>bL (h 68 [D.agg [D.slc M O K],D.agg [D.slc M O K]]) fun b0=>fA b0 2 fun Z=>bi Z 0 fun aD=>jo aD 1 fun an=>bi an 0 fun aE=>dH aE fun aP aR ao=>bi Z 1 fun aF=>bC .i64 aF fun be=>bL (h 69 [D.agg [D.nils]]) fun b1=>fA b1 2 fun a0=>bi a0 0 fun aG=>dH aG fun aI aS ap=>bi a0 1 fun aH=>bC .i64 aH fun bb=>bB (bc !=0)
 (some (D.bool false))
 (bB (bd !=0)
 (some (D.bool false))
 (bB (be !=0)
 (some (D.bool false))
 (bB (bb !=0)
 (some (D.bool false))
 (bL (h 30 [D.slc U V S]) fun b2=>dH b2 fun aJ aT aq=>bL (h 30 [D.slc a5 a6 a4]) fun b3=>dH b3 fun aK aU ar=>bL (h 72 [D.slc aJ aT aq,D.slc aK aU ar]) fun b4=>cG b4 fun ag=>bB (!ag)
 (some (D.bool false))
 (bL (h 30 [D.slc M O K]) fun b5=>dH b5 fun aL aV au=>bL (h 72 [D.slc aL aV au,D.slc B J z]) fun b6=>cG b6 fun ah=>bB (!ah)
 (some (D.bool false))
 (bL (h 30 [D.slc aO aQ am]) fun b7=>dH b7 fun aM aW av=>bL (h 72 [D.slc aM aW av,D.slc B J z]) fun b8=>cG b8 fun ai=>bB (!ai)
 (some (D.bool false))
 (bL (h 30 [D.slc aP aR ao]) fun b9=>dH b9 fun aN aX aw=>bL (h 72 [D.slc aN aX aw,D.slc B J z]) fun ba=>cG ba fun aj=>bB (!aj)
 (some (D.bool false))
 (fQ h L C ae af ad aI aS ap))))))))):=by
 unfold eI;rw[hC]
 kernel_rfl
theorem pT(h:FuncId→List D→Option D)(L:Nat)(C:Nat→Nat)(ah:Bool)(ai:Nat)(ag:List D)(B:Bool)(J:Nat)(z:List D)(ae:Bool)(af:Nat)(ad:List D)(a2:Bool)(a3:Nat)(a1:List D)(ab:Bool)(ac:Nat)(aa:List D)(U:Bool)(V:Nat)(S:List D)(a5:Bool)(a6:Nat)(a4:List D)(a8:Bool)(a9:Nat)(a7:List D)(hC:∀t,C t=1):eI h L C ah ai ag B J z (Ow.slc ae af ad) a2 a3 a1 ab ac aa U V S a5 a6 a4 a8 a9 a7=
 (bL (h 68 [D.agg [D.slc U V S],D.agg [D.slc ab ac aa]]) fun b1=>fA b1 2 fun W=>bi W 0 fun aA=>jo aA 1 fun an=>bi an 0 fun aB=>dH aB fun M O K=>bi W 1 fun aC=>bC .i64 aC fun be=>bL (h 68 [D.agg [D.slc a2 a3 a1],D.agg [D.slc a8 a9 a7]]) fun b2=>fA b2 2 fun Y=>bi Y 0 fun aD=>jo aD 1 fun ao=>bi ao 0 fun aE=>dH aE fun aL aT ap=>bi Y 1 fun aF=>bC .i64 aF fun bf=>bL (h 68 [D.agg [D.slc M O K],D.agg [D.slc M O K]]) fun b3=>fA b3 2 fun Z=>bi Z 0 fun aG=>jo aG 1 fun aq=>bi aq 0 fun aH=>dH aH fun aM aU ar=>bi Z 1 fun aI=>bC .i64 aI fun bg=>bL (h 69 [D.agg [D.slc ae af ad]]) fun b4=>fA b4 2 fun a0=>bi a0 0 fun aJ=>dH aJ fun aN aV au=>bi a0 1 fun aK=>bC .i64 aK fun bh=>bB (be !=0)
 (some (D.bool false))
 (bB (bf !=0)
 (some (D.bool false))
 (bB (bg !=0)
 (some (D.bool false))
 (bB (bh !=0)
 (some (D.bool false))
 (bL (h 30 [D.slc U V S]) fun b5=>dH b5 fun aO aW av=>bL (h 30 [D.slc a5 a6 a4]) fun b6=>dH b6 fun aP aX aw=>bL (h 72 [D.slc aO aW av,D.slc aP aX aw]) fun b7=>cG b7 fun aj=>bB (!aj)
 (some (D.bool false))
 (bL (h 30 [D.slc M O K]) fun b8=>dH b8 fun aQ aY ax=>bL (h 72 [D.slc aQ aY ax,D.slc B J z]) fun b9=>cG b9 fun ak=>bB (!ak)
 (some (D.bool false))
 (bL (h 30 [D.slc aL aT ap]) fun ba=>dH ba fun aR aZ ay=>bL (h 72 [D.slc aR aZ ay,D.slc B J z]) fun bb=>cG bb fun al=>bB (!al)
 (some (D.bool false))
 (bL (h 30 [D.slc aM aU ar]) fun bc=>dH bc fun aS b0 az=>bL (h 72 [D.slc aS b0 az,D.slc B J z]) fun bd=>cG bd fun am=>bB (!am)
 (some (D.bool false))
 (fQ h L C ah ai ag aN aV au))))))))):=by
 unfold eI;rw[hC]
 kernel_rfl
theorem y7(J:FuncId→List D→Option D)(L:Nat)(C:Nat→Nat)(O:Bool)(h:Nat)(z:List D)(U:Bool)(B:Nat)(S:List D)(K M:Int)(W:Bool)(Y:Nat)(V:List D)(hC:∀t,C t=1):sw J L C O h z U B S K M W Y V=
 (bT (decide (List.length z=h*6))
 (bT (List.all z D.one)
 (bB (decide (h=0))
 (fy J L C L O h z W Y V U B S K M true 0 [] ((B:Int)) 0 (Ow.nil))
 (bT (decide (0<h∧0=0∧(0+h)*72≤cH∧0+h≤4611686018427387903))
 (fy J L C L O h z W Y V U B S K M false (0+h) z ((B:Int)) 0 (Ow.nil)))))):=by
 unfold sw;rw[hC]
 kernel_rfl
theorem Gx(h:FuncId→List D→Option D)(L:Nat)(C:Nat→Nat)(B:Bool)(J:Nat)(z:List D)(U:Bool)(K:Nat)(S:List D)(M O:Int):ct (ed h L C) zh zg FinM.canon Tryz.f12 [D.slc B J z,D.slc U K S,D.agg [D.int IntKind.u8 M,D.int IntKind.u8 O]]=
 (bL (h 30 [D.slc B J z]) fun r=>dH r fun f n c=>bL (h 31 [D.slc f n c,D.int .i64 12]) fun Z=>cG Z fun b=>bB (!b)
 (bL (h 15 []) fun a0=>cG a0 fun V=>some (D.bool V))
 (bL (h 35 [D.slc f n c]) fun a1=>bC .i64 a1 fun x=>bB (x !=0)
 (bL (h 15 []) fun a2=>cG a2 fun W=>some (D.bool W))
 (bB (decide ((K:Int)>40))
 (bL (h 15 []) fun a3=>cG a3 fun Y=>some (D.bool Y))
 (sw h L C B J z U K S M O f n c)))):=by kernel_rfl
end Go.Pd
end
section
namespace Go.Pd
open Go Go.Proofs Go.RowKit
set_option maxRecDepth 100000
theorem sx{k:FuncId}{ds ds':List D}{r:D}(h:bV k ds r)(hl:ds'.length=ds.length)(hm:∀(j:Nat) (d d':D),ds[j]?=some d→ds'[j]?=some d'→∀(I:Nat→Prop) (w:World) (v:Value),RelC I w d' v→RelC I w d v):bV k ds' r:=by
 refine⟨h.1,fun I w vs h1 h2 h3 h4=>h.2 I w vs h1 h2 (by rw[←hl];exact h3) fun j d v hd hv=> ?_⟩;have hj:j<ds'.length:=by rw[hl];exact(zb9.1 hd).1
 exact hm j d _ hd (zd0 hj) I w v (h4 j _ v (zd0 hj) hv)
theorem xZ{I:Nat→Prop}{w:World}{v:Value}(h:RelC I w .nils v):RelC I w (.slc true 0 []) v:=by
 cases h;exact .slcn true
theorem BL{I:Nat→Prop}{w:World}{v:Value}(h:RelC I w (.agg [.nils]) v):RelC I w (.agg [.slc true 0 []]) v:=by
 cases h with
 |agg _ vs hl hr=>
  refine .agg _ vs hl fun j d v hd hv=> ?_
  match j,hd with
  |0,hd=>
   cases hd;exact xZ (hr 0 .nils v rfl hv)
inductive FW where
 |nil
 |slc (f:Bool) (l:List MsgV)
def FW.l:FW→List MsgV
 | .nil=>[]
 | .slc _ l=>l
def FW.d:FW→D
 | .nil=> .nils
 | .slc f l=>mS f l
def FW.o:FW→Ow
 | .nil=> .nil
 | .slc f l=> .slc f l.length (l.flatMap bp)
theorem FW.d_inj{a b:FW}(h:a.d=b.d):a.l=b.l:=by
 cases a with
 |nil=>
  cases b with
  |nil=>rfl
  |slc g m=>cases h
 |slc f l=>
  cases b with
  |nil=>cases h
  |slc g m=>exact Gs h
theorem Jz(w:FW)(hl:w.l.length≤1000):bV 30 [w.d] (mS w.l.isEmpty w.l):=by
 have lim:cH=140737488355328:=rfl;cases w with
 |slc f l=>exact Gt l (by rw[lim];have:l.length≤1000:=hl;omega)
 |nil=>
  refine sx (Gt (f:=true) [] (by simp)) rfl fun j d d' hd hd' I w v hr=> ?_
  match j,hd,hd' with
  |0,hd,hd'=>cases hd;cases hd';exact xZ hr
theorem JA(w:FW)(hl:w.l.length≤1000)(hf:∀m∈w.l,m.Fit):bV 69 [.agg [w.d]] (.tup [mv bp (DJ (bW w.l) (cU none 1 w.l)),.int .i64 (bW w.l)]):=by
 cases w with
 |slc f l=>exact Ju l (by have:l.length≤1000:=hl;omega) hf
 |nil=>
  refine sx (Ju (f:=true) [] (by simp) hf) rfl fun j d d' hd hd' I w v hr=> ?_
  match j,hd,hd' with
  |0,hd,hd'=>cases hd;cases hd';exact BL hr
theorem JB(w:FW)(m:MsgV)(hl:w.l.length≤1000)(hf:∀m∈w.l,m.Fit)(hm:m.Fit):bV 67 [.agg [w.d],.agg (bp m)] (.tup [.agg [yU false (qZ (cN [bW w.l,dF m]) w.l [m]) (sv w.l [m])],.int .i64 (qZ (cN [bW w.l,dF m]) w.l [m])]):=by
 cases w with
 |slc f l=>exact Jt l m hl hf hm
 |nil=>
  refine sx (Jt (f:=true) [] m (by simp) hf hm) rfl fun j d d' hd hd' I w v hr=> ?_
  match j,hd,hd' with
  |0,hd,hd'=>cases hd;cases hd';exact BL hr
  |1,hd,hd'=>cases hd;cases hd';exact hr
def fw30:Fam:=⟨30,{w:FW//w.l.length≤1000},fun w=>[w.1.d],fun w=>mS w.1.l.isEmpty w.1.l⟩
theorem y8:fw30.Good:=⟨fun w=>Jz w.1 w.2,fun i j h=>by
 have h:[i.1.d]=[j.1.d]:=h;simp only[zc3,and_true] at h;show mS i.1.l.isEmpty i.1.l=mS j.1.l.isEmpty j.1.l;rw[FW.d_inj h]⟩
def fw69:Fam:=⟨69,{w:FW//w.l.length≤1000∧∀m∈w.l,m.Fit},fun w=>[.agg [w.1.d]],fun w=> .tup [mv bp (DJ (bW w.1.l) (cU none 1 w.1.l)),.int .i64 (bW w.1.l)]⟩
theorem y9:fw69.Good:=⟨fun w=>JA w.1 w.2.1 w.2.2,fun i j h=>by
 have h:[D.agg [i.1.d]]=[D.agg [j.1.d]]:=h;simp only[zc3,and_true,D.agg.injEq] at h;show D.tup [mv bp (DJ (bW i.1.l) (cU none 1 i.1.l)),.int .i64 (bW i.1.l)]=D.tup [mv bp (DJ (bW j.1.l) (cU none 1 j.1.l)),.int .i64 (bW j.1.l)];rw[FW.d_inj h]⟩
def BM(l:List MsgV)(m:MsgV):D:= .tup [.agg [yU false (qZ (cN [bW l,dF m]) l [m]) (sv l [m])],.int .i64 (qZ (cN [bW l,dF m]) l [m])]
def fw67:Fam:=⟨67,{x:FW×MsgV//x.1.l.length≤1000∧(∀m∈x.1.l,m.Fit)∧x.2.Fit},fun x=>[.agg [x.1.1.d],.agg (bp x.1.2)],fun x=>BM x.1.1.l x.1.2⟩
theorem za:fw67.Good:=⟨fun x=>JB x.1.1 x.1.2 x.2.1 x.2.2.1 x.2.2.2,fun i j h=>by
 have h:[D.agg [i.1.1.d],D.agg (bp i.1.2)]=[D.agg [j.1.1.d],D.agg (bp j.1.2)]:=h;simp only[zc3,and_true,D.agg.injEq] at h;show BM i.1.1.l i.1.2=BM j.1.1.l j.1.2;rw[FW.d_inj h.1,gv h.2]⟩
def BN(a b:List MsgV):D:= .tup [.agg [yU false (qZ (cN [bW a,bW b]) a b) (sv a b)],.int .i64 (qZ (cN [bW a,bW b]) a b)]
def JC:={l:List MsgV//l.length≤1000∧∀m∈l,m.Fit}
def fa68:Fam:=⟨68,(Bool×JC)×(Bool×JC),fun x=>[.agg [mS x.1.1 x.1.2.1],.agg [mS x.2.1 x.2.2.1]],fun x=>BN x.1.2.1 x.2.2.1⟩
theorem zb:fa68.Good:=⟨fun x=>KX x.1.2.1 x.2.2.1 x.1.2.2.1 x.2.2.2.1 x.1.2.2.2 x.2.2.2.2,fun i j h=>by
 obtain⟨⟨f,a⟩,g,b⟩:=i;obtain⟨⟨f',a'⟩,g',b'⟩:=j;have h:[D.agg [mS f a.1],D.agg [mS g b.1]]=[D.agg [mS f' a'.1],D.agg [mS g' b'.1]]:=h;simp only[zc3,and_true,D.agg.injEq,D.slc.injEq] at h;show BN a.1 b.1=BN a'.1 b'.1;rw[fP h.1.2.2,fP h.2.2.2]⟩
theorem wU(d:ByteArray):∀l:List MsgV,fq d l≤l.length
 |[]=>by show(0:Int)≤0;omega
 |m::l=>by
  show bB (dL m.1 d) 1 0+fq d l≤((l.length+1:Nat):Int);have:=wU d l;cases dL m.1 d with
  |true=>rw[bv];omega
  |false=>rw[bj];omega
theorem nL{γ:Type}{cs:List D}{j:Nat}{x:Int}(h:cs[j]?=some (.int .i64 x))(c:D→Option γ):bi cs j c=c (.int .i64 x):=by
 unfold bi;rw[h]
theorem Gy{B:FuncId→List D→Option D}{L:Nat}{f:Bool}{K:List ByteArray}{sh:List MsgV}(hK:Cm K sh)(hs:sh.length≤1000)(e15:B 15 []=some (.bool true)):∀(r pre:List MsgV) (fuel:Nat),(pre++r).length≤100000→(∀m∈r,m.2.1≠fq m.1 sh+1)→r.length<fuel→
  eW B L C1 fuel f (pre++r).length ((pre++r).flatMap bp) (dK K) (DS K sh) ((pre++r).length:Int) (pre.length:Int)=some (.bool true):=by
 intro r
 induction r with
 |nil=>
  intro pre fuel hl h hf;cases fuel with
  |zero=>exact absurd hf (Nat.not_lt_zero _)
  |succ fuel=>rw[zb4,jg,de,bj,e15,bn,bO]
 |cons m r ih=>
  intro pre fuel hl h hf;cases fuel with
  |zero=>exact absurd hf (Nat.not_lt_zero _)
  |succ fuel=>
   have ih:=ih (pre++[m]) fuel (by simpa using hl) (fun z hz=>h z (za5 _ hz)) (by simp at hf;omega);rw[m8] at ih;have hm:=h m (za4 ..);have hc:=wU m.1 sh;have hc0:=ft m.1 sh;rw[jg,dl,bv,dc,bq,jQ pre m r];rcases wT hK m.1 with⟨h1,h2⟩|⟨j,h1,h2⟩
   ·rw[xN h1,show(m.2.1==IntKind.wrap .i64 (0+1))=false by(rw[cv (by omega)];exact beq_eq_false_iff_ne.2 (by omega)),bj,dw pre m r hl,ih]
   ·rw[lP h1,nL h2,bw,cv (by omega),show(m.2.1==fq m.1 sh+1)=false from beq_eq_false_iff_ne.2 hm,bj,dw pre m r hl,ih]
theorem DT{B:FuncId→List D→Option D}{f g:Bool}{l S:List MsgV}(hl:l.length≤1000)(hS:S.length≤1000)(hno:∀m∈l,m.2.1≠fq m.1 S+1)(e15:B 15 []=some (.bool true)):
  ∀(r pre:List MsgV) (K:List ByteArray) (fuel:Nat),S=pre++r→Cm K pre→Ek pre r→r.length<fuel→
  dG B LL C1 fuel f l.length (l.flatMap bp) g S.length (S.flatMap bp) (S.length:Int) (pre.length:Int) (dK K) (DS K pre)=some (.bool true):=by
 intro r
 induction r with
 |nil=>
  intro pre K fuel hp hK hu hf;cases fuel with
  |zero=>exact absurd hf (Nat.not_lt_zero _)
  |succ fuel=>
   rw[zb4] at hp;subst hp;rw[jh,de,bj];exact Gy hK hS e15 l [] LL (by rw[zb5];omega) hno (by unfold LL;omega)
 |cons m r ih=>
  intro pre K fuel hp hK hu hf;cases fuel with
  |zero=>exact absurd hf (Nat.not_lt_zero _)
  |succ fuel=>
   obtain⟨hn,hu2⟩:=hu;obtain⟨K',hK',hup⟩:=Gw hK m;have ih:=ih (pre++[m]) K' fuel (by rw[hp];simp) hK' hu2 (by simp at hf;omega);have hlen:(pre++m::r).length≤100000:=by rw[←hp];omega
   have hc0:=ft m.1 pre;have hcl:=wU m.1 pre;have hpl:pre.length≤1000:=by rw[hp] at hS;simp at hS;omega
   have hcs:fq m.1 (pre++[m])=fq m.1 pre+1:=jU m (sEq_iff.2 rfl) pre;have w1:=dl pre m r;have w2:=dc pre m r;have w3:=fun c=>jQ (γ:=D) pre m r c;rw[←hp] at w1 w2 w3;have hget:∃j,cC (.str m.1) (dK K') 0=some (some j)∧(DS K' (pre++[m]))[j]?=some (.int .i64 (fq m.1 (pre++[m]))):=by
    rcases wT hK' m.1 with⟨_,h2⟩|h
    ·omega
    ·exact h
   obtain⟨j',g1,g2⟩:=hget;rw[jh,w1,bv,w2,bq,w3];rcases wT hK m.1 with⟨h1,h2⟩|⟨j,h1,h2⟩
   ·rw[h2,Int.zero_add] at hup;rw[xN h1,xO hup,lP g1,nL g2,bw,hcs,show(m.2.1 !=fq m.1 pre+1)=false by(rw[hn];simp),bj,dw pre m r hlen,ih]
   ·rw[lP h1,nL h2,bw,cv (by omega),xO hup,lP g1,nL g2,bw,hcs,show(m.2.1 !=fq m.1 pre+1)=false by(rw[hn];simp),bj,dw pre m r hlen,ih]
theorem El{B:FuncId→List D→Option D}{f g:Bool}{l:List MsgV}(h:GudM l)(e15:B 15 []=some (.bool true)):fQ B LL C1 f l.length (l.flatMap bp) g (cU none 1 l).length ((cU none 1 l).flatMap bp)=some (.bool true):=by
 obtain⟨s1,s2⟩:=y6 h.asc fun m hm=>(BD (h.ok m hm)).1;have hl:=wP l none 1;have h1000:=h.len;rw[pA (hC:=c1)];exact DT h1000 (by omega) s2 e15 (cU none 1 l) [] [] LL rfl Cm.nil s1 (by unfold LL;omega)
structure ArrB(B:FuncId→List D→Option D):Prop where
 h15:B 15 []=some (.bool true)
 h30:∀w:FW,w.l.length≤1000→B 30 [w.d]=some (mS w.l.isEmpty w.l)
 h35:∀(f:Bool) (l:List MsgV),l.length≤100000→B 35 [mS f l]=some (.int .i64 (bW l))
 h67:∀(w:FW) (m:MsgV),w.l.length≤1000→(∀m∈w.l,m.Fit)→m.Fit→B 67 [.agg [w.d],.agg (bp m)]=some (BM w.l m)
 h68:∀(f g:Bool) (a b:List MsgV),a.length≤1000→b.length≤1000→(∀m∈a,m.Fit)→(∀m∈b,m.Fit)→B 68 [.agg [mS f a],.agg [mS g b]]=some (BN a b)
 h69:∀w:FW,w.l.length≤1000→(∀m∈w.l,m.Fit)→B 69 [.agg [w.d]]=some (.tup [mv bp (DJ (bW w.l) (cU none 1 w.l)),.int .i64 (bW w.l)])
 h72:∀(f g:Bool) (l:List MsgV),l.length≤100000→B 72 [mS f l,mS g l]=some (.bool true)
structure PtM(l a:List MsgV):Prop where
 asc:gZ a
 sub:∀z∈a,z∈l
theorem PtM.len{l a:List MsgV}(h:GudM l)(p:PtM l a):a.length≤1000:=zb1 (lW p.asc h.asc p.sub) h.len
theorem PtM.fit{l a:List MsgV}(hf:∀m∈l,m.Fit)(p:PtM l a):∀m∈a,m.Fit:=fun m hm=>hf m (p.sub m hm)
theorem mE{B:FuncId→List D→Option D}(hB:ArrB B){l a b:List MsgV}(h:GudM l)(hf:∀m∈l,m.Fit)(pa:PtM l a)(pb:PtM l b)(f g:Bool):
  ∃r,B 68 [.agg [.slc f a.length (a.flatMap bp)],.agg [.slc g b.length (b.flatMap bp)]]=some (.tup [.agg [.slc false r.length (r.flatMap bp)],.int .i64 0])∧PtM l r∧(∀z,z∈r↔z∈a∨z∈b)∧r.length≤l.length:=by
 obtain⟨r,r1,r2,r3,r4,r5⟩:=BK h pa.asc pb.asc pa.sub pb.sub;refine⟨r,?_,⟨r3,fun z hz=> ?_⟩,r4,r5⟩
 ·have:=hB.h68 f g a b (pa.len h) (pb.len h) (pa.fit hf) (pb.fit hf);unfold BN at this;rw[r1,r2] at this;exact this
 ·rcases(r4 z).1 hz with hz|hz
  ·exact pa.sub z hz
  ·exact pb.sub z hz
section
variable {B:FuncId→List D→Option D}(hB:ArrB B){l:List MsgV}(h:GudM l)(hf:∀m∈l,m.Fit)
include hB
theorem GK(f:Bool)(l:List MsgV)(hl:l.length≤1000):B 30 [.slc f l.length (l.flatMap bp)]=some (.slc l.isEmpty l.length (l.flatMap bp)):=hB.h30 (.slc f l) hl
theorem a72(f g:Bool)(l:List MsgV)(hl:l.length≤1000):B 72 [.slc f l.length (l.flatMap bp),.slc g l.length (l.flatMap bp)]=some (.bool true):=hB.h72 f g l (by omega)
theorem Lo(f:Bool)(l:List MsgV)(hl:l.length≤1000):B 35 [.slc f l.length (l.flatMap bp)]=some (.int .i64 (bW l)):=hB.h35 f l (by omega)
include h hf
theorem Lp(w:FW)(hw:w.l=l):B 69 [.agg [w.d]]=some (.tup [.slc (cU none 1 l).isEmpty (cU none 1 l).length ((cU none 1 l).flatMap bp),.int .i64 0]):=by
 have:=hB.h69 w (by rw[hw];exact h.len) (by rw[hw];exact hf);rw[hw,h.fol] at this;rw[this];show some (D.tup [mv bp (cU none 1 l),.int .i64 0])=_;rw[lO]
theorem JD{a b c ab ba bc:List MsgV}{w:FW}{f x fa fc fab fba fbc:Bool}(hw:w.l=l)(pa:PtM l a)(pc:PtM l c)(pab:PtM l ab)(pba:PtM l ba)(pbc:PtM l bc)
  (mab:∀z,z∈ab↔z∈a∨z∈b) (mba:∀z,z∈ba↔z∈b∨z∈a) (mbc:∀z,z∈bc↔z∈b∨z∈c) (cov:∀z∈l,z∈a∨z∈b∨z∈c):
  eI B LL C1 f l.length (l.flatMap bp) x l.length (l.flatMap bp) w.o fa a.length (a.flatMap bp) fc c.length (c.flatMap bp) fab ab.length (ab.flatMap bp) fba ba.length (ba.flatMap bp) fbc bc.length (bc.flatMap bp)=some (.bool true):=by
 have e1:ba=ab:=ka pba.asc pab.asc fun z=>by rw[mab,mba];exact Or.comm
 subst e1;obtain⟨u,u1,u2,u3,_⟩:=mE hB h hf pab pc fab fc;have eu:u=l:=ka u2.asc h.asc fun z=>⟨u2.sub z,fun hz=>by
  rw[u3,mab];rcases cov z hz with h|h|h
  ·exact .inl (.inl h)
  ·exact .inl (.inr h)
  ·exact .inr h⟩
 subst eu;obtain⟨v,v1,v2,v3,_⟩:=mE hB h hf pa pbc fa fbc;have ev:v=u:=ka v2.asc h.asc fun z=>⟨v2.sub z,fun hz=>by
  rw[v3,mbc];exact cov z hz⟩
 subst ev;obtain⟨t,t1,t2,t3,_⟩:=mE hB h hf u2 u2 false false;have et:t=v:=ka t2.asc h.asc fun z=>by rw[t3];exact⟨fun h=>h.elim id id,.inl⟩
 subst et;have hl:=h.len;have n0:((0:Int) !=0)=false:=rfl;have hab:=pab.len h;cases w with
 |nil=>
  have e69:B 69 [.agg [.nils]]=_:=Lp hB h hf .nil hw;show eI B LL C1 f _ _ x _ _ .nil fa _ _ fc _ _ fab _ _ fba _ _ fbc _ _=_;rw[pS (hC:=c1),u1,bn,na,nb,yY,yZ,cM,nc,bw,v1,bn,na,nb,yY,yZ,cM,nc,bw,t1,bn,na,nb,yY,yZ,cM,nc,bw,e69,bn,na,nb,cM,nc,bw,n0,bj,bj,bj,bj];simp only[GK hB _ _ hab,GK hB _ _ hl,a72 hB _ _ _ hab,a72 hB _ _ _ hl,bn,cM,bO,Bool.not_true,bj];exact El h hB.h15
 |slc g m=>
  have hw:m=t:=hw;subst hw;have e69:B 69 [.agg [.slc g m.length (m.flatMap bp)]]=_:=Lp hB h hf (.slc g m) rfl;show eI B LL C1 f _ _ x _ _ (.slc g _ _) fa _ _ fc _ _ fab _ _ fba _ _ fbc _ _=_;rw[pT (hC:=c1),u1,bn,na,nb,yY,yZ,cM,nc,bw,v1,bn,na,nb,yY,yZ,cM,nc,bw,t1,bn,na,nb,yY,yZ,cM,nc,bw,e69,bn,na,nb,cM,nc,bw,n0,bj,bj,bj,bj];simp only[GK hB _ _ hab,GK hB _ _ hl,a72 hB _ _ _ hab,a72 hB _ _ _ hl,bn,cM,bO,Bool.not_true,bj];exact El h hB.h15
end
def zi(o:Option D)(K:Bool→Nat→List D→Int→Option D):Option D:=bL o fun r=>fA r 2 fun c=>bi c 0 fun d=>jo d 1 fun c1=>bi c1 0 fun d=>dH d fun f n cs=>bi c 1 fun d=>bC .i64 d fun x=>K f n cs x
def Em(c:List D)(i:Int)(K:D→Option D):Option D:=bi c (Int.toNat i*6+0) fun d=>bQ d fun a=>bi c (Int.toNat i*6+1) fun d=>bC .i64 d fun b=>bi c (Int.toNat i*6+2) fun d=>bQ d fun e=>bi c (Int.toNat i*6+3) fun d=>bC .i64 d fun x=>
 bi c (Int.toNat i*6+4) fun d=>bC .i64 d fun y=>bi c (Int.toNat i*6+5) fun d=>bQ d fun z=>K (.agg [.str a,.int .i64 b,.str e,.int .i64 x,.int .i64 y,.str z])
def zj(f:Bool)(n:Nat)(c:List D)(lo hi:Int):D:= .slc (f&&decide (hi=(n:Int))) (Int.toNat (hi-lo)) (List.take (Int.toNat (hi-lo)*6) (List.drop (Int.toNat lo*6) c))
def B0(a b:Int):Int:=if b<a then b else a
def B1(a b:Int):Int:=if b>a then b else a
def x4:Option D:=some (.bool false)
section
variable (B:FuncId→List D→Option D)(L:Nat)(C:Nat→Nat)(f:Bool)(n:Nat)(c:List D)(xf:Bool)(xn:Nat)(xc:List D)(of:Bool)(on:Nat)(oc:List D)(u v:Int)
noncomputable def zc(m i k:Int)(w:Ow):Option D:=
 bT (!decide (m=0))<|bT (!decide (m=0))<|bT (decide (0≤(0:Int)∧(0:Int)≤i∧i≤(n:Int)))<|bT (decide (0≤k∧k≤(n:Int)∧(n:Int)≤(n:Int)))<|bT (decide (0≤B0 i k∧B0 i k≤B1 i k∧B1 i k≤(n:Int)))<|
  zi (B 68 [.agg [zj f n c 0 i],.agg [zj f n c k n]]) fun f1 n1 c1 x1=>zi (B 68 [.agg [zj f n c k n],.agg [zj f n c 0 i]]) fun f2 n2 c2 x2=>zi (B 68 [.agg [zj f n c k n],.agg [zj f n c (B0 i k) (B1 i k)]]) fun f3 n3 c3 x3=>
   bB (x1 !=0) x4<|bB (x2 !=0) x4<|bB (x3 !=0) x4<|
    bL (B 30 [.slc f1 n1 c1]) fun r=>dH r fun f4 n4 c4=>bL (B 35 [.slc f4 n4 c4]) fun r=>bC .i64 r fun y1=>bL (B 30 [.slc f3 n3 c3]) fun r=>dH r fun f5 n5 c5=>bL (B 35 [.slc f5 n5 c5]) fun r=>bC .i64 r fun y2=>
     bB (IntKind.wrap .i64 (y1+y2) !=0) x4<|bB (decide (IntKind.wrap .i64 ((n1:Int)+(n3:Int))>50)) x4<|
      eI B L C f n c xf xn xc w (f&&decide (i=(n:Int))) (Int.toNat (i-0)) (List.take (Int.toNat (i-0)*6) c) (f&&decide (B1 i k=(n:Int))) (Int.toNat (B1 i k-B0 i k)) (List.take (Int.toNat (B1 i k-B0 i k)*6) (List.drop (Int.toNat (B0 i k)*6) c)) f1 n1 c1 f2 n2 c2 f3 n3 c3
def pB(R:Int→Ow→Option D)(E:Option D)(d:D)(n:Nat)(c:List D)(t u:Int):Option D:=
 bB (decide (u<t)) (bT (decide (0≤u∧u<(n:Int)))<|Em c u fun m=>zi (B 67 [.agg [d],m]) fun f n c x=>bB (x !=0) x4 (R (IntKind.wrap .i64 (u+1)) (.slc f n c))) E
def wV(d:D)(K:Option D):Option D:=
 bL (B 30 [d]) fun r=>dH r fun f n c=>bL (B 72 [.slc f n c,.slc xf xn xc]) fun r=>cG r fun b=>bB (!b) x4 K
def uP(n:Nat)(c:List D)(i:Int)(R:Bool→Nat→List D→Option D):Option D:=
 bT (decide (0≤(0:Int)∧(0:Int)≤i∧i≤(n:Int)))<|bT (decide (List.length (List.take (Int.toNat (i-0)*6) c)=Int.toNat (i-0)*6))<|bT (List.all (List.take (Int.toNat (i-0)*6) c) D.one)<|
  bB (decide (Int.toNat (i-0)=0))
   (bT (decide (0≤IntKind.wrap .i64 (i+1)∧IntKind.wrap .i64 (i+1)≤(n:Int)∧(n:Int)≤(n:Int)))<|
    bT (decide (List.length (List.take (Int.toNat ((n:Int)-IntKind.wrap .i64 (i+1))*6) (List.drop (Int.toNat (IntKind.wrap .i64 (i+1))*6) c))=Int.toNat ((n:Int)-IntKind.wrap .i64 (i+1))*6))<|
     bT (List.all (List.take (Int.toNat ((n:Int)-IntKind.wrap .i64 (i+1))*6) (List.drop (Int.toNat (IntKind.wrap .i64 (i+1))*6) c)) D.one)<|
      bB (decide (Int.toNat ((n:Int)-IntKind.wrap .i64 (i+1))=0)) (R true 0 [])<|
       bT (decide (0<Int.toNat ((n:Int)-IntKind.wrap .i64 (i+1))∧0=0∧(0+Int.toNat ((n:Int)-IntKind.wrap .i64 (i+1)))*72≤cH∧0+Int.toNat ((n:Int)-IntKind.wrap .i64 (i+1))≤4611686018427387903))<|
        R false (0+Int.toNat ((n:Int)-IntKind.wrap .i64 (i+1))) (List.take (Int.toNat ((n:Int)-IntKind.wrap .i64 (i+1))*6) (List.drop (Int.toNat (IntKind.wrap .i64 (i+1))*6) c)))
   (bT (decide (0<Int.toNat (i-0)∧0=0∧(0+Int.toNat (i-0))*72≤cH∧0+Int.toNat (i-0)≤4611686018427387903))<|
    bT (decide (0≤IntKind.wrap .i64 (i+1)∧IntKind.wrap .i64 (i+1)≤(n:Int)∧(n:Int)≤(n:Int)))<|
     bT (decide (List.length (List.take (Int.toNat ((n:Int)-IntKind.wrap .i64 (i+1))*6) (List.drop (Int.toNat (IntKind.wrap .i64 (i+1))*6) c))=Int.toNat ((n:Int)-IntKind.wrap .i64 (i+1))*6))<|
      bT (List.all (List.take (Int.toNat ((n:Int)-IntKind.wrap .i64 (i+1))*6) (List.drop (Int.toNat (IntKind.wrap .i64 (i+1))*6) c)) D.one)<|
       bT (decide ((0+Int.toNat (i-0)+Int.toNat ((n:Int)-IntKind.wrap .i64 (i+1)))*72≤cH∧0+Int.toNat (i-0)+Int.toNat ((n:Int)-IntKind.wrap .i64 (i+1))≤9223372036854775807))<|
        R false (0+Int.toNat (i-0)+Int.toNat ((n:Int)-IntKind.wrap .i64 (i+1))) (List.take (Int.toNat (i-0)*6) c++List.take (Int.toNat ((n:Int)-IntKind.wrap .i64 (i+1))*6) (List.drop (Int.toNat (IntKind.wrap .i64 (i+1))*6) c)))
def wW(R:Bool→Nat→List D→Int→Ow→Option D)(E:Option D)(g:Bool)(n:Nat)(c oc:List D)(on:Nat)(t u:Int)(d:D):Option D:=
 bB (decide (u<t)) (bT (decide (0≤u∧u<(on:Int)))<|bi oc (Int.toNat u*1) fun q=>bC .u8 q fun k=>bB ((n:Int)==0) E<|bT (!decide ((n:Int)=0))<|bT (decide (0≤Int.tmod (IntKind.wrap .i64 k) (n:Int)∧Int.tmod (IntKind.wrap .i64 k) (n:Int)<(n:Int)))<|
  Em c (Int.tmod (IntKind.wrap .i64 k) (n:Int)) fun m=>zi (B 67 [.agg [d],m]) fun f1 n1 c1 x=>bB (x !=0) x4<|
   bB (decide (k≥128)) (uP n c (Int.tmod (IntKind.wrap .i64 k) (n:Int)) fun g n c=>R g n c (IntKind.wrap .i64 (u+1)) (.slc f1 n1 c1)) (R g n c (IntKind.wrap .i64 (u+1)) (.slc f1 n1 c1))) E
variable (fu:Nat)(lg:Bool)(ln:Nat)(lc:List D)(t s:Int)(wf:Bool)(wn:Nat)(wc:List D)
theorem JE(hC:∀t,C t=1):d7 B L C f n c xf xn xc u v .nil=zc B L C f n c xf xn xc (IntKind.wrap .i64 ((n:Int)+1)) (Int.tmod (IntKind.wrap .i64 u) (IntKind.wrap .i64 ((n:Int)+1))) (Int.tmod (IntKind.wrap .i64 v) (IntKind.wrap .i64 ((n:Int)+1))) .nil:=by
 unfold d7;rw[hC];unfold zc zj B0 B1 x4 zi
 kernel_rfl
theorem JF(hC:∀t,C t=1):d7 B L C f n c xf xn xc u v (.slc wf wn wc)=zc B L C f n c xf xn xc (IntKind.wrap .i64 ((n:Int)+1)) (Int.tmod (IntKind.wrap .i64 u) (IntKind.wrap .i64 ((n:Int)+1))) (Int.tmod (IntKind.wrap .i64 v) (IntKind.wrap .i64 ((n:Int)+1))) (.slc wf wn wc):=by
 unfold d7;rw[hC];unfold zc zj B0 B1 x4 zi
 kernel_rfl
theorem Gz:em B L C (fu+1) f n c xf xn xc u v lg ln lc t s .nil=pB B (fun s o=>em B L C fu f n c xf xn xc u v lg ln lc t s o) (wV B xf xn xc .nils (d7 B L C f n c xf xn xc u v .nil)) .nils ln lc t s:=by
 unfold pB wV x4 Em zi
 kernel_rfl
theorem GA:em B L C (fu+1) f n c xf xn xc u v lg ln lc t s (.slc wf wn wc)=pB B (fun s o=>em B L C fu f n c xf xn xc u v lg ln lc t s o) (wV B xf xn xc (.slc wf wn wc) (d7 B L C f n c xf xn xc u v (.slc wf wn wc))) (.slc wf wn wc) ln lc t s:=by
 unfold pB wV x4 Em zi
 kernel_rfl
theorem JG:fy B L C (fu+1) f n c xf xn xc of on oc u v lg ln lc t s .nil=wW B (fun g n' c' s x=>fy B L C fu f n c xf xn xc of on oc u v g n' c' t s x) (em B L C L f n c xf xn xc u v lg ln lc (ln:Int) 0 .nil) lg ln lc oc on t s .nils:=by
 unfold wW uP x4 Em zi
 kernel_rfl
theorem JH:fy B L C (fu+1) f n c xf xn xc of on oc u v lg ln lc t s (.slc wf wn wc)=wW B (fun g n' c' s x=>fy B L C fu f n c xf xn xc of on oc u v g n' c' t s x) (em B L C L f n c xf xn xc u v lg ln lc (ln:Int) 0 (.slc wf wn wc)) lg ln lc oc on t s (.slc wf wn wc):=by
 unfold wW uP x4 Em zi
 kernel_rfl
end
theorem pC{o:Option D}{f:Bool}{n:Nat}{cs:List D}{x:Int}(h:o=some (.tup [.agg [.slc f n cs],.int .i64 x]))(K:Bool→Nat→List D→Int→Option D):zi o K=K f n cs x:=by rw[h];rfl
theorem BO(pre:List MsgV)(m:MsgV)(r:List MsgV)(K:D→Option D):Em ((pre++m::r).flatMap bp) (pre.length:Int) K=K (.agg (bp m)):=by
 unfold Em;exact jQ pre m r _
theorem DU(f:Bool)(p q r:List MsgV):zj f (p++q++r).length ((p++q++r).flatMap bp) (p.length:Int) ((p++q).length:Int)=mS (f&&decide (((p++q).length:Int)=((p++q++r).length:Nat))) q:=by
 unfold zj mS;rw[show Int.toNat (((p++q).length:Int)-(p.length:Int))=q.length by(rw[za6];omega),za3,za8,mD,mC]
theorem BP(B:FuncId→List D→Option D)(f:Bool)(n:Nat)(c:List D)(xf:Bool)(xn:Nat)(xc:List D)(u v:Int)(fu:Nat)(lg:Bool)(ln:Nat)(lc:List D)(t s:Int)(w:FW):
  em B LL C1 (fu+1) f n c xf xn xc u v lg ln lc t s w.o=pB B (fun s o=>em B LL C1 fu f n c xf xn xc u v lg ln lc t s o) (wV B xf xn xc w.d (d7 B LL C1 f n c xf xn xc u v w.o)) w.d ln lc t s:=by
 cases w with
 |nil=>exact Gz ..
 |slc g m=>exact GA ..
structure ArS(l:List MsgV)(w:FW)(r:List MsgV):Prop where
 pt:PtM l w.l
 sub:∀z∈r,z∈l
 all:∀z∈l,z∈w.l∨z∈r
section
variable {B:FuncId→List D→Option D}(hB:ArrB B){l:List MsgV}(h:GudM l)(hf:∀m∈l,m.Fit)
include hB h hf
theorem BQ(w:FW)(p:PtM l w.l)(m:MsgV)(hm:m∈l):∃r,B 67 [.agg [w.d],.agg (bp m)]=some (.tup [.agg [.slc false r.length (r.flatMap bp)],.int .i64 0])∧PtM l r∧∀z,z∈r↔z∈w.l∨z=m:=by
 obtain⟨r,r1,r2,r3,r4,_⟩:=BJ h p.asc p.sub hm;refine⟨r,?_,⟨r3,fun z hz=> ?_⟩,r4⟩
 ·have:=hB.h67 w m (p.len h) (p.fit hf) (hf m hm);unfold BM at this;rw[r1,r2] at this;exact this
 ·rcases(r4 z).1 hz with hz|rfl
  ·exact p.sub z hz
  ·exact hm
omit hf in
theorem GB{x f:Bool}{u v:Int}(K:∀w:FW,w.l=l→d7 B LL C1 f l.length (l.flatMap bp) x l.length (l.flatMap bp) u v w.o=some (.bool true))(w:FW)(hs:ArS l w []):
  wV B x l.length (l.flatMap bp) w.d (d7 B LL C1 f l.length (l.flatMap bp) x l.length (l.flatMap bp) u v w.o)=some (.bool true):=by
 have e:w.l=l:=ka hs.pt.asc h.asc fun z=>⟨hs.pt.sub z,fun hz=>(hs.all z hz).elim id fun h=>by cases h⟩;have h30:=hB.h30 w (hs.pt.len h);unfold wV;rw[h30,bn];show bL (B 72 [mS w.l.isEmpty w.l,mS x l]) _=_;rw[e,hB.h72 _ _ _ (by have:=h.len;omega),bn,bO,Bool.not_true,bj];exact K w e
theorem En{x f g:Bool}{u v:Int}(K:∀w:FW,w.l=l→d7 B LL C1 f l.length (l.flatMap bp) x l.length (l.flatMap bp) u v w.o=some (.bool true)):
  ∀(r pre:List MsgV) (w:FW) (fuel:Nat),(pre++r).length≤1000→ArS l w r→r.length<fuel→em B LL C1 fuel f l.length (l.flatMap bp) x l.length (l.flatMap bp) u v g (pre++r).length ((pre++r).flatMap bp) ((pre++r).length:Int) (pre.length:Int) w.o=some (.bool true):=by
 intro r
 induction r with
 |nil=>
  intro pre w fuel hl hs hfu;cases fuel with
  |zero=>exact absurd hfu (Nat.not_lt_zero _)
  |succ fuel=>
   have key:=GB hB h K w hs;rw[zb4,BP];unfold pB;rw[de,bj];exact key
 |cons m r ih=>
  intro pre w fuel hl hs hfu;cases fuel with
  |zero=>exact absurd hfu (Nat.not_lt_zero _)
  |succ fuel=>
   obtain⟨q,q1,q2,q3⟩:=BQ hB h hf w hs.pt m (hs.sub m (za4 ..));have ih:=ih (pre++[m]) (.slc false q) fuel (by rw[m8];exact hl) ⟨q2,fun z hz=>hs.sub z (za5 _ hz),fun z hz=>by
    show z∈q∨z∈r;rw[q3];rcases hs.all z hz with h1|h1
    ·exact .inl (.inl h1)
    ·rcases List.mem_cons.1 h1 with h2|h2
     ·exact .inl (.inr h2)
     ·exact .inr h2⟩ (by simp at hfu;omega)
   rw[m8] at ih;rw[BP];unfold pB;rw[dl,bv,dc,bq,BO,pC q1,show((0:Int) !=0)=false from rfl,bj,dw pre m r (by omega)];exact ih
end
theorem BR(p:List MsgV)(m:MsgV)(q:List MsgV)(hl:(p++m::q).length≤1000)(R:Bool→Nat→List D→Option D):∃g,uP (p++m::q).length ((p++m::q).flatMap bp) (p.length:Int) R=R g (p++q).length ((p++q).flatMap bp):=by
 have lim:cH=140737488355328:=rfl;have hn:(p++m::q).length=p.length+(q.length+1):=by simp
 have d1:List.drop ((p.length+1)*6) ((p++m::q).flatMap bp)=q.flatMap bp:=by
  have:=mD (p++[m]) q;rw[m8,za6,List.length_singleton] at this;exact this
 unfold uP;rw[show Int.toNat ((p.length:Int)-0)=p.length by omega,cv (x:=(p.length:Int)+1) (by omega),show Int.toNat (((p++m::q).length:Int)-((p.length:Int)+1))=q.length by omega,show Int.toNat ((p.length:Int)+1)=p.length+1 by omega,mC,d1,uM,fO,fO,ix,ix,
  za1 (show(0:Int)≤0∧(0:Int)≤(p.length:Int)∧(p.length:Int)≤((p++m::q).length:Int) by omega),bq,za1 rfl,bq,bq,za1 (show(0:Int)≤(p.length:Int)+1∧(p.length:Int)+1≤((p++m::q).length:Int)∧((p++m::q).length:Int)≤((p++m::q).length:Int) by omega),bq,bq,za1 rfl,bq,bq]
 cases p with
 |nil=>
  rw[za1 (show([]:List MsgV).length=0 from rfl),bv,zb5];cases q with
  |nil=>exact⟨true,rfl⟩
  |cons a q=>
   refine⟨false,?_⟩;rw[za2 (show¬(a::q).length=0 by simp),bj,za1 (by simp at hl ⊢;omega),bq,Nat.zero_add]
 |cons a p=>
  refine⟨false,?_⟩;rw[za2 (show¬(a::p).length=0 by simp),bj,za1 (by simp at hl ⊢;omega),bq,za1 (by simp at hl ⊢;omega),bq,Nat.zero_add,←zd3,←za6];rfl
def BS(ks:List Int):List D:=ks.map (D.int .u8)
theorem JI{γ:Type}(pre:List Int)(k:Int)(r:List Int)(c:D→Option γ):bi (BS (pre++k::r)) (Int.toNat (pre.length:Int)*1) c=c (.int .u8 k):=by
 unfold bi BS;rw[za3,Nat.mul_one,zc1,zb6 (zb0 _),Nat.sub_self];rfl
theorem il(pre:List Int)(k:Int)(r:List Int):decide ((pre.length:Int)<((pre++k::r).length:Int))=true:=by simp;omega
theorem ic(pre:List Int)(k:Int)(r:List Int):decide ((0:Int)≤(pre.length:Int)∧(pre.length:Int)<((pre++k::r).length:Int))=true:=by simp;omega
theorem iw(pre:List Int)(k:Int)(r:List Int)(h:(pre++k::r).length≤1000):IntKind.wrap .i64 ((pre.length:Int)+1)=((pre++[k]).length:Int):=by
 simp at h;rw[cv (by omega)];simp
theorem ie(pre:List Int):decide ((pre.length:Int)<((pre++[]).length:Int))=false:=by simp
theorem Eo(B:FuncId→List D→Option D)(f:Bool)(n:Nat)(c:List D)(xf:Bool)(xn:Nat)(xc:List D)(of:Bool)(on:Nat)(oc:List D)(u v:Int)(fu:Nat)(lg:Bool)(ln:Nat)(lc:List D)(t s:Int)(w:FW):
  fy B LL C1 (fu+1) f n c xf xn xc of on oc u v lg ln lc t s w.o=wW B (fun g n' c' s x=>fy B LL C1 fu f n c xf xn xc of on oc u v g n' c' t s x) (em B LL C1 LL f n c xf xn xc u v lg ln lc (ln:Int) 0 w.o) lg ln lc oc on t s w.d:=by
 cases w with
 |nil=>exact JG ..
 |slc g m=>exact JH ..
section
variable {B:FuncId→List D→Option D}(hB:ArrB B){l:List MsgV}(h:GudM l)(hf:∀m∈l,m.Fit)
include hB h hf
theorem GC{x f o:Bool}{u v:Int}(K:∀w:FW,w.l=l→d7 B LL C1 f l.length (l.flatMap bp) x l.length (l.flatMap bp) u v w.o=some (.bool true)):
  ∀(ks pre:List Int) (w:FW) (g:Bool) (lf:List MsgV) (fuel:Nat),(pre++ks).length≤1000→(∀k∈ks,0≤k∧k≤255)→lf.length≤1000→ArS l w lf→ks.length<fuel→
  fy B LL C1 fuel f l.length (l.flatMap bp) x l.length (l.flatMap bp) o (pre++ks).length (BS (pre++ks)) u v g lf.length (lf.flatMap bp) ((pre++ks).length:Int) (pre.length:Int) w.o=some (.bool true):=by
 intro ks
 induction ks with
 |nil=>
  intro pre w g lf fuel hl hk hlf hs hfu;cases fuel with
  |zero=>exact absurd hfu (Nat.not_lt_zero _)
  |succ fuel=>
   have key:=En hB h hf K (g:=g) lf [] w LL hlf hs (by unfold LL;omega);rw[Eo];unfold wW;rw[ie,bj];exact key
 |cons k ks ih=>
  intro pre w g lf fuel hl hk hlf hs hfu;cases fuel with
  |zero=>exact absurd hfu (Nat.not_lt_zero _)
  |succ fuel=>
   have key:=En hB h hf K (g:=g) lf [] w LL hlf hs (by unfold LL;omega);obtain⟨k0,k1⟩:=hk k (za4 ..);have ih:=fun w g lf=>ih (pre++[k]) w g lf fuel (by simpa using hl) (fun z hz=>hk z (za5 _ hz));rw[show pre++[k]++ks=pre++k::ks by simp] at ih;rw[Eo];unfold wW;rw[il,bv,ic,bq,JI,bw];by_cases hlf0:lf=[]
   ·subst hlf0;rw[show((([]:List MsgV).length:Int)==0)=true from rfl,bv];exact key
   ·have hpos:0<lf.length:=List.length_pos_iff.2 hlf0;obtain⟨p,m,q,e,hp⟩:∃p m q,lf=p++m::q∧(p.length:Int)=Int.tmod (IntKind.wrap .i64 k) (lf.length:Int):=by
     have hi:k.toNat%lf.length<lf.length:=zd5 _ hpos;refine⟨lf.take (k.toNat%lf.length),lf[k.toNat%lf.length],lf.drop (k.toNat%lf.length+1),?_,?_⟩
     ·rw[List.getElem_cons_drop,zd9]
     ·rw[zd8,Nat.min_eq_left (Nat.le_of_lt hi),cv (by omega),Int.tmod_eq_emod_of_nonneg k0,Int.natCast_emod,Int.toNat_of_nonneg k0]
    subst e;have hm:m∈l:=hs.sub m (by simp);obtain⟨t,q1,q2,q3⟩:=BQ hB h hf w hs.pt m hm;have hn:(p++m::q).length=p.length+(q.length+1):=by simp
    rw[←hp,show(((p++m::q).length:Int)==0)=false by(rw[beq_eq_false_iff_ne];omega),bj,za2 (show¬((p++m::q).length:Int)=0 by omega),Bool.not_false,bq,za1 (show(0:Int)≤(p.length:Int)∧(p.length:Int)<((p++m::q).length:Int) by omega),bq,
     BO,pC q1,show((0:Int) !=0)=false from rfl,bj,iw pre k ks hl]
    have st:∀r',(∀z∈r',z∈p++m::q)→(∀z∈p++m::q,z=m∨z∈r')→ArS l (.slc false t) r':=fun r' h1 h2=>⟨q2,fun z hz=>hs.sub z (h1 z hz),fun z hz=>by
     show z∈t∨z∈r';rw[q3];rcases hs.all z hz with h3|h3
     ·exact .inl (.inl h3)
     ·rcases h2 z h3 with h4|h4
      ·exact .inl (.inr h4)
      ·exact .inr h4⟩
    cases hge:decide (k≥128) with
    |true=>
     rw[bv];obtain⟨g',hg⟩:=BR p m q hlf fun g n' c'=>fy B LL C1 fuel f l.length (l.flatMap bp) x l.length (l.flatMap bp) o (pre++k::ks).length (BS (pre++k::ks)) u v g n' c' ((pre++k::ks).length:Int) ((pre++[k]).length:Int) (.slc false t.length (t.flatMap bp));refine hg.trans (ih (.slc false t) g' (p++q) (by simp at hlf ⊢;omega) (st _ (fun z hz=> ?_) fun z hz=> ?_) (by simp at hfu;omega))
     ·rcases za9.1 hz with h1|h1
      ·exact List.mem_append_left _ h1
      ·exact List.mem_append_right _ (za5 _ h1)
     ·rcases za9.1 hz with h1|h1
      ·exact .inr (List.mem_append_left _ h1)
      ·rcases List.mem_cons.1 h1 with h2|h2
       ·exact .inl h2
       ·exact .inr (List.mem_append_right _ h2)
    |false=>
     rw[bj];exact ih (.slc false t) g (p++m::q) hlf (st _ (fun z hz=>hz) fun z hz=> .inr hz) (by simp at hfu;omega)
end
theorem wX(f:Bool)(l:List MsgV)(a b:Nat)(h1:a≤b)(h2:b≤l.length):zj f l.length (l.flatMap bp) (a:Int) (b:Int)=mS (f&&decide ((b:Int)=(l.length:Int))) ((l.drop a).take (b-a)):=by
 obtain⟨p,q,r,e,e1,e2,e3⟩:∃p q r,l=p++q++r∧p.length=a∧(p++q).length=b∧(l.drop a).take (b-a)=q:=by
  refine⟨l.take a,(l.drop a).take (b-a),l.drop b,?_,?_,?_,rfl⟩
  ·rw[za8,show l.drop b=(l.drop a).drop (b-a) by(rw[List.drop_drop];congr 1;omega),zd9,zd9]
  ·rw[zd8];omega
  ·rw[za6,zd8,zd8,zd7];omega
 rw[e3];subst e;rw[←e1,←e2];exact DU f p q r
theorem x5{f g:Bool}{n m:Nat}{c d:List D}(h:D.slc f n c= .slc g m d):f=g∧n=m∧c=d:=by
 injection h with h1 h2 h3
 exact⟨h1,h2,h3⟩
theorem wY{l a:List MsgV}(h:GudM l)(hs:a.Sublist l):PtM l a:=⟨List.Pairwise.sublist hs h.asc,fun _ hz=>hs.subset hz⟩
theorem JJ(B:FuncId→List D→Option D)(f:Bool)(n:Nat)(c:List D)(xf:Bool)(xn:Nat)(xc:List D)(u v:Int)(w:FW):
  d7 B LL C1 f n c xf xn xc u v w.o=zc B LL C1 f n c xf xn xc (IntKind.wrap .i64 ((n:Int)+1)) (Int.tmod (IntKind.wrap .i64 u) (IntKind.wrap .i64 ((n:Int)+1))) (Int.tmod (IntKind.wrap .i64 v) (IntKind.wrap .i64 ((n:Int)+1))) w.o:=by
 cases w with
 |nil=>exact JE (hC:=c1) ..
 |slc g m=>exact JF (hC:=c1) ..
theorem Ep{u:Int}{n:Nat}(h:0≤u∧u≤255)(hn:n≤1000):∃i:Nat,i≤n∧Int.tmod (IntKind.wrap .i64 u) (IntKind.wrap .i64 ((n:Int)+1))=(i:Int):=by
 refine⟨u.toNat%(n+1),Nat.le_of_lt_succ (zd5 _ (Nat.succ_pos _)),?_⟩;rw[cv (by omega),cv (by omega),Int.tmod_eq_emod_of_nonneg h.1,Int.natCast_emod,Int.toNat_of_nonneg h.1];rfl
section
variable {B:FuncId→List D→Option D}(hB:ArrB B){l:List MsgV}(h:GudM l)(hf:∀m∈l,m.Fit)
include hB h hf
theorem GD{x f:Bool}{u v:Int}(hu:0≤u∧u≤255)(hv:0≤v∧v≤255)(h12:l.length≤12)(w:FW)(hw:w.l=l):d7 B LL C1 f l.length (l.flatMap bp) x l.length (l.flatMap bp) u v w.o=some (.bool true):=by
 obtain⟨i,hi,ei⟩:=Ep (n:=l.length) hu (by omega);obtain⟨k,hk,ek⟩:=Ep (n:=l.length) hv (by omega);rw[JJ,ei,ek];obtain⟨mn,hmn⟩:∃mn:Nat,mn=min i k:=⟨_,rfl⟩;obtain⟨mx,hmx⟩:∃mx:Nat,mx=max i k:=⟨_,rfl⟩;have e1:B0 (i:Int) (k:Int)=(mn:Int):=by unfold B0;split<;>omega
 have e2:B1 (i:Int) (k:Int)=(mx:Int):=by unfold B1;split<;>omega
 have sa:=wX f l 0 i (by omega) hi;have sb:=wX f l k l.length hk (zb0 _);have sc:=wX f l mn mx (by omega) (by omega);obtain⟨a,ha⟩:∃a,a=(l.drop 0).take (i-0):=⟨_,rfl⟩;obtain⟨b,hb⟩:∃b,b=(l.drop k).take (l.length-k):=⟨_,rfl⟩;obtain⟨c,hc⟩:∃c,c=(l.drop mn).take (mx-mn):=⟨_,rfl⟩;have subs:∀p q:Nat,((l.drop p).take q).Sublist l:=fun p q=>(List.take_sublist _ _).trans (List.drop_sublist _ _);have pa:PtM l a:=wY h (ha▸subs 0 (i-0));have pb:PtM l b:=wY h (hb▸subs k (l.length-k));have pc:PtM l c:=wY h (hc▸subs mn (mx-mn));rw[←ha] at sa;rw[←hb] at sb;rw[←hc] at sc;have cov:∀z∈l,z∈a∨z∈b∨z∈c:=fun z hz=>by
  obtain⟨p,hp,rfl⟩:=List.getElem_of_mem hz;have at':∀lo n:Nat,lo≤p→p<lo+n→l[p]∈(l.drop lo).take n:=fun lo n h1 h2=>by
   refine List.mem_iff_getElem?.2 ⟨p-lo,?_⟩;rw[List.getElem?_take_of_lt (by omega),List.getElem?_drop,show lo+(p-lo)=p by omega,zd0 hp]
  by_cases c1:p<i
  ·exact .inl (ha▸at' 0 (i-0) (by omega) (by omega))
  ·by_cases c2:k≤p
   ·exact .inr (.inl (hb▸at' k (l.length-k) c2 (by omega)))
   ·exact .inr (.inr (hc▸at' mn (mx-mn) (by omega) (by omega)))
 obtain⟨ab,j1,pab,mab,lab⟩:=mE hB h hf pa pb (f&&decide ((i:Int)=(l.length:Int))) (f&&decide ((l.length:Int)=(l.length:Int)));obtain⟨ba,j2,pba,mba,lba⟩:=mE hB h hf pb pa (f&&decide ((l.length:Int)=(l.length:Int))) (f&&decide ((i:Int)=(l.length:Int)));obtain⟨bc,j3,pbc,mbc,lbc⟩:=mE hB h hf pb pc (f&&decide ((l.length:Int)=(l.length:Int))) (f&&decide ((mx:Int)=(l.length:Int)));have sa':zj f l.length (l.flatMap bp) 0 (i:Int)=mS (f&&decide ((i:Int)=(l.length:Int))) a:=sa;have z0:((0:Int) !=0)=false:=rfl;unfold zc;rw[cv (x:=(l.length:Int)+1) (by omega),za2 (show¬((l.length:Int)+1=0) by omega),Bool.not_false,bq,bq,za1 (show(0:Int)≤0∧(0:Int)≤(i:Int)∧(i:Int)≤(l.length:Int) by omega),bq,za1 (show(0:Int)≤(k:Int)∧(k:Int)≤(l.length:Int)∧(l.length:Int)≤(l.length:Int) by omega),bq,
  e1,e2,za1 (show(0:Int)≤(mn:Int)∧(mn:Int)≤(mx:Int)∧(mx:Int)≤(l.length:Int) by omega),bq,sa',sb,sc]
 unfold mS;rw[pC j1,pC j2,pC j3,z0,bj,bj,bj,GK hB _ _ (pab.len h),bn,cM,Lo hB _ _ (pab.len h),bn,bw,GK hB _ _ (pbc.len h),bn,cM,Lo hB _ _ (pbc.len h),bn,bw,(h.part pab.asc pab.sub).1.fol,(h.part pbc.asc pbc.sub).1.fol,
  show(IntKind.wrap .i64 ((0:Int)+0) !=0)=false from rfl,bj,cv (by omega),za2 (by omega),bj]
 obtain⟨_,s1,s2⟩:=x5 (sa':D.slc _ _ _= .slc _ _ _);obtain⟨_,s3,s4⟩:=x5 (sc:D.slc _ _ _= .slc _ _ _);have s2:List.take (Int.toNat ((i:Int)-0)*6) (l.flatMap bp)=a.flatMap bp:=s2;rw[s2,s1,s4,s3];exact JD hB h hf hw pa pc pab pba pbc mab mba mbc cov
end
theorem K9{f o:Bool}(l:List MsgV)(ks:List Int)(u v:Int)(hl:l.length*72≤cH)(hk:∀k∈ks,0≤k∧k≤255)(hu:0≤u∧u≤255)(hv:0≤v∧v≤255):
  bV 12 [mS f l,.slc o ks.length (BS ks),.agg [.int .u8 u,.int .u8 v]] (.bool true):=by
 have start:∀{B:FuncId→List D→Option D},B 15 []=some (.bool true)→B 30 [mS f l]=some (mS l.isEmpty l)→B 31 [mS l.isEmpty l,.int .i64 (12:Int)]=some (.bool (xX l 12))→(xX l 12=true→B 35 [mS l.isEmpty l]=some (.int .i64 (bW l)))→
   (xX l 12=true→bW l=0→ks.length≤40→sw B LL C1 f l.length (l.flatMap bp) o ks.length (BS ks) u v l.isEmpty l.length (l.flatMap bp)=some (.bool true))→
   ct (ed B LL C1) zh zg .canon Tryz.f12 [mS f l,.slc o ks.length (BS ks),.agg [.int .u8 u,.int .u8 v]]=some (.bool true):=fun {B} e15 h30 h31 h35 k=>by
  have h30:B 30 [.slc f l.length (l.flatMap bp)]=some (.slc l.isEmpty l.length (l.flatMap bp)):=h30;have h31:B 31 [.slc l.isEmpty l.length (l.flatMap bp),.int .i64 12]=some (.bool (xX l 12)):=h31;refine(Gx B LL C1 f _ _ o _ _ u v).trans ?_;rw[h30,bn,cM,h31,bn,bO,e15];cases h1:xX l 12 with
  |false=>rfl
  |true=>
   have h35:B 35 [.slc l.isEmpty l.length (l.flatMap bp)]=some (.int .i64 (bW l)):=h35 h1;rw[Bool.not_true,bj,h35,bn,bw];cases hz:bW l !=0 with
   |true=>rfl
   |false=>
    rw[bj];by_cases h40:ks.length≤40
    ·rw[za2 (by omega),bj];exact k h1 (by simpa using hz) h40
    ·rw[za1 (by omega)];rfl
 by_cases hs:xX l 12=true
 ·obtain⟨la,hf⟩:=Gu (n:=12) hs;obtain⟨B,hB,hX⟩:=uR [one 15 [] (.bool true),fw30,fa31,fa35,fw67,fa68,fw69,fa72] ⟨eh IQ,y8,rb,y4,za,zb,y9,y5,trivial⟩ rfl;obtain⟨e15,h30,h31,h35,h67,h68,h69,h72,_⟩:=hX;have hA:ArrB B:=⟨e15 (),fun w hw=>h30 ⟨w,hw⟩,fun f l hl=>h35 (f,⟨l,hl⟩),fun w m h1 h2 h3=>h67 ⟨(w,m),h1,h2,h3⟩,fun f g a b h1 h2 h3 h4=>h68 ((f,⟨a,h1,h3⟩),(g,⟨b,h2,h4⟩)),fun w h1 h2=>h69 ⟨w,h1,h2⟩,fun f g l hl=>h72 (.two f g l hl)⟩;refine kX hB Tryz.func12 (ord:=zh) (N:=zg) (by kernel_rfl) (start (e15 ()) (h30 ⟨.slc f l,by show l.length≤1000;omega⟩) (h31 ((l.isEmpty,l),⟨12,by omega⟩)) (fun _=>h35 (l.isEmpty,⟨l,by omega⟩)) fun _ hz h40=> ?_);have h:=DQ hz;have lim:cH=140737488355328:=rfl;have key:=fun g=>GC hA h hf (x:=l.isEmpty) (f:=f) (o:=o) (u:=u) (v:=v) (GD hA h hf hu hv la) ks [] .nil g l LL (by rw[zb5];omega) hk h.len ⟨⟨List.Pairwise.nil,fun z hz=>by cases hz⟩,fun z hz=>hz,fun z hz=> .inr hz⟩ (by unfold LL;omega);simp only[zb5] at key;rw[y7 (hC:=c1),za1 (fO l),bq,ix,bq];cases l with
  |nil=>
   rw[za1 (show([]:List MsgV).length=0 from rfl),bv];exact key true
  |cons a r=>
   rw[za2 (show¬(a::r).length=0 by simp),bj,za1 (by simp at la ⊢;omega),bq,Nat.zero_add];exact key false
 ·have hs:xX l 12=false:=by simpa using hs
  obtain⟨B,hB,hX⟩:=uR [one 15 [] (.bool true),fa30,fa31] ⟨eh IQ,y3,rb,trivial⟩ rfl;exact kX hB Tryz.func12 (ord:=zh) (N:=zg) (by kernel_rfl) (start (hX.1 ()) (hX.2.1 (f,⟨l,hl⟩)) (hX.2.2.1 ((l.isEmpty,l),⟨12,by omega⟩)) (fun h=>by rw[hs] at h;cases h) fun h=>by rw[hs] at h;cases h)
end Go.Pd
end
section
namespace Go.Pd
open Go.RowKit Go.ChangeShapes Go.WideShapes
theorem wZ{I:Nat→Prop}{w:World}{P:Program}{H:Type}{enc:TypeId×Value→H}{base:Nat}{spare:Nat→Bool}{held:Bool}{t e:TypeId}{v:Value}{dd:DataW H}{ps:List MemPlace}
  (hu:P.underlying t=some (.slice e)) (h:DataW.Trod enc P w base spare held t v dd ps) (hw:∀k∈dd.weights P t,k≤reachBytes) {g:Bool} {m:Nat} {c:List D} (hr:RelC I w (.slc g m c) v):m*P.bytesOf e≤reachBytes:=by
 obtain⟨fuel,hm⟩:=h;rcases Deep.open_slice hu hm with⟨hcs,_⟩|⟨a,len,cap,m',n,Dd,Pl,hcs,_,_,_,_,hxx,_⟩
 ·cases hr with
  |slc _ _ _ a cap us hI hf hl hc hr=>simp[Value.cells] at hcs
  |slcn=>
   rw[Nat.zero_mul];exact Nat.zero_le _
 ·cases hr with
  |slc _ _ _ a cap us hI hf hl hc hr=>
   have hlen:m=len:=by
    simp[Value.cells] at hcs;exact hcs.2.1
   subst hlen;have hdd:=(Prod.mk.inj hxx).1;have hmem:((((List.range m).map Dd).length+((List.range (m'-m)).map fun j=>Dd (m+j)).length)*P.bytesOf e)∈dd.weights P t:=by
    rw[hdd];simp[DataW.weights,hu]
   have:=hw _ hmem;rw[zc0,zc0,List.length_range,List.length_range] at this;exact zb1 (Nat.mul_le_mul_right _ (Nat.le_add_right _ _)) this
  |slcn=>
   rw[Nat.zero_mul];exact Nat.zero_le _
theorem BT{y:Int}(h:(Lit.int .u8 y).wf=true):0≤y∧y≤255:=by
 have h:(decide (IntKind.min .u8≤y)&&decide (y≤IntKind.max .u8))=true:=h;rw[show IntKind.min .u8=0 from rfl,show IntKind.max .u8=255 from rfl] at h;simpa using h
end Go.Pd
end
