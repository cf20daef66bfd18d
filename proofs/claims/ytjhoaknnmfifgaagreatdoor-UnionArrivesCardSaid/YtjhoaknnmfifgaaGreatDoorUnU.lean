import Derived.Test.YtjhoaknnmfifgaaGreatDoorUnQ
import Derived.Test.YtjhoaknnmfifgaaGreatDoorUnT
import Derived.Test.YtjhoaknnmfifgaaGreatDoorUnA
import Derived.KernelRfl
section
namespace Go.Pd
open Go Go.Proofs Go.RowKit
abbrev uS(x y:List UInt8):Bool:=Go.Op.bytesLess x y
theorem lS:∀x:List UInt8,uS x x=false
 |[]=>rfl
 |a::x=>by
  show(decide (a<a)||(a==a&&uS x x))=false;rw[lS x];simp
theorem xP:∀x:List UInt8,uS x []=false
 |[]=>rfl
 |_::_=>rfl
theorem xQ:∀x y:List UInt8,uS x y=false→uS y x=false→x=y
 |[],[],_,_=>rfl
 |[],_::_,h,_=>by cases h
 |_::_,[],_,h=>by cases h
 |a::x,b::y,h1,h2=>by
  replace h1:(decide (a<b)||(a==b&&uS x y))=false:=h1;replace h2:(decide (b<a)||(b==a&&uS y x))=false:=h2;rw[zc7,decide_eq_false_iff_not,Bool.and_eq_false_iff,beq_eq_false_iff_ne] at h1 h2;have e:a=b:=UInt8.le_antisymm (UInt8.not_lt.1 h2.1) (UInt8.not_lt.1 h1.1);subst e;have i1:uS x y=false:=h1.2.resolve_left fun h=>h rfl;have i2:uS y x=false:=h2.2.resolve_left fun h=>h rfl;rw[xQ x y i1 i2]
theorem iv:∀x y z:List UInt8,uS x y=true→uS y z=true→uS x z=true
 |x,[],_,h,_=>by rw[xP] at h;cases h
 |_,y::ys,[],_,h=>by rw[xP] at h;cases h
 |[],_::_,_::_,_,_=>rfl
 |a::x,b::y,c::z,h1,h2=>by
  replace h1:(decide (a<b)||(a==b&&uS x y))=true:=h1;replace h2:(decide (b<c)||(b==c&&uS y z))=true:=h2;show(decide (a<c)||(a==c&&uS x z))=true;rw[Bool.or_eq_true,zc5,zc2,ze0] at h1 h2 ⊢;rcases h1 with h1|⟨rfl,h1⟩
  ·rcases h2 with h2|⟨rfl,h2⟩
   ·exact .inl (UInt8.lt_trans h1 h2)
   ·exact .inl h1
  ·rcases h2 with h2|⟨rfl,h2⟩
   ·exact .inl h2
   ·exact .inr ⟨rfl,iv x y z h1 h2⟩
def j8(a b:ByteArray):Bool:=uS (ByteArray.toList a) (ByteArray.toList b)
theorem xR{a b:ByteArray}(h1:j8 a b=false)(h2:j8 b a=false):a=b:=by
 refine sEq_iff.1 ?_;unfold dL;rw[xQ _ _ h1 h2];simp
abbrev MsgV:=ByteArray×Int×ByteArray×Int×jm
def bp(m:MsgV):List D:=[.str m.1,.int .i64 m.2.1,.str m.2.2.1,.int .i64 m.2.2.2.1,.int .i64 m.2.2.2.2.1,.str m.2.2.2.2.2]
theorem gv{m m':MsgV}(h:bp m=bp m'):m=m':=by
 obtain⟨a,b,c,d,e,f⟩:=m;obtain⟨a',b',c',d',e',f'⟩:=m';simp[bp] at h;simp[h]
def cO(a b:MsgV):Bool:=j8 a.1 b.1||(dL a.1 b.1&&decide (a.2.1<b.2.1))
theorem befM_iff{a b:MsgV}:cO a b=true↔j8 a.1 b.1=true∨(a.1=b.1∧a.2.1<b.2.1):=by
 unfold cO;rw[Bool.or_eq_true,zc2,sEq_iff,zc5]
theorem uH(a:MsgV):cO a a=false:=by
 cases h:cO a a with
 |false=>rfl
 |true=>
  rcases befM_iff.1 h with h|⟨_,h⟩
  ·rw[show j8 a.1 a.1=false from lS _] at h;cases h
  ·omega
theorem ja{a b c:MsgV}(h1:cO a b=true)(h2:cO b c=true):cO a c=true:=by
 rcases befM_iff.1 h1 with h1|⟨e1,h1⟩<;>rcases befM_iff.1 h2 with h2|⟨e2,h2⟩
 ·exact befM_iff.2 (.inl (iv _ _ _ h1 h2))
 ·exact befM_iff.2 (.inl (by rw[←e2];exact h1))
 ·exact befM_iff.2 (.inl (by rw[e1];exact h2))
 ·exact befM_iff.2 (.inr ⟨e1.trans e2,by omega⟩)
theorem j9{a b:MsgV}(h:cO a b=true):cO b a=false:=by
 cases h2:cO b a with
 |false=>rfl
 |true=>rw[ja h h2|>fun h=>(uH a▸h:false=true)]
def fN(a b:MsgV):Bool:=dL a.1 b.1&&a.2.1==b.2.1
theorem keyQ_iff{a b:MsgV}:fN a b=true↔a.1=b.1∧a.2.1=b.2.1:=by
 unfold fN;rw[zc2,sEq_iff,ze0]
theorem DF{a b:MsgV}(h1:cO a b=false)(h2:cO b a=false):fN a b=true:=by
 have h1:¬(j8 a.1 b.1=true∨(a.1=b.1∧a.2.1<b.2.1)):=fun h=>(by rw[befM_iff.2 h] at h1;cases h1);have h2:¬(j8 b.1 a.1=true∨(b.1=a.1∧b.2.1<a.2.1)):=fun h=>(by rw[befM_iff.2 h] at h2;cases h2);have e:a.1=b.1:=xR (by cases h:j8 a.1 b.1 with|false=>rfl|true=>exact absurd (.inl h) h1) (by cases h:j8 b.1 a.1 with|false=>rfl|true=>exact absurd (.inl h) h2);have n1:¬a.2.1<b.2.1:=fun h=>h1 (.inr ⟨e,h⟩);have n2:¬b.2.1<a.2.1:=fun h=>h2 (.inr ⟨e.symm,h⟩);exact keyQ_iff.2 ⟨e,by omega⟩
theorem pw{a b:MsgV}(h:fN a b=true):cO a b=false:=by
 obtain⟨h1,h2⟩:=keyQ_iff.1 h;cases hb:cO a b with
 |false=>rfl
 |true=>
  rcases befM_iff.1 hb with h|⟨_,h⟩
  ·rw[h1,show j8 b.1 b.1=false from lS _] at h;cases h
  ·omega
theorem uI(a b:MsgV):fN a b=fN b a:=by
 unfold fN;rw[oZ,show(a.2.1==b.2.1)=(b.2.1==a.2.1) from Bool.beq_comm ..]
def yS(a b:ByteArray):Int:=bB (j8 a b) (-1) (bB (!(j8 a b||dL a b)) 1 0)
def lT(a b:MsgV):Int:=bB (yS a.1 b.1 !=0) (yS a.1 b.1) (uA a.2.1 b.2.1)
theorem mA(a b:MsgV):(cO a b=true∧lT a b= -1)∨(cO a b=false∧fN a b=true∧lT a b=0)∨(cO b a=true∧lT a b=1):=by
 unfold lT yS;cases h1:j8 a.1 b.1 with
 |true=>exact .inl ⟨befM_iff.2 (.inl h1),rfl⟩
 |false=>
  rw[bj];cases h2:dL a.1 b.1 with
  |false=>
   have:j8 b.1 a.1=true:=by
    cases h:j8 b.1 a.1 with
    |true=>rfl
    |false=>rw[xR h1 h,show dL b.1 b.1=true from sEq_iff.2 rfl] at h2;cases h2
   exact .inr (.inr ⟨befM_iff.2 (.inl this),rfl⟩)
  |true=>
   have e:=sEq_iff.1 h2;show _∨(_∧_∧uA a.2.1 b.2.1=0)∨(_∧uA a.2.1 b.2.1=1);rw[show(bB (!(false||true)) (1:Int) 0 !=0)=false from rfl,bj];unfold uA;by_cases h3:a.2.1<b.2.1
   ·exact .inl ⟨befM_iff.2 (.inr ⟨e,h3⟩),by rw[za1 h3];rfl⟩
   ·by_cases h4:a.2.1>b.2.1
    ·exact .inr (.inr ⟨befM_iff.2 (.inr ⟨e.symm,h4⟩),by rw[za2 h3,za1 h4];rfl⟩)
    ·have hk:fN a b=true:=keyQ_iff.2 ⟨e,by omega⟩;exact .inr (.inl ⟨pw hk,hk,by rw[za2 h3,za2 h4];rfl⟩)
theorem BA(a b:MsgV):decide (lT a b<0)=cO a b:=by
 rcases mA a b with⟨h,e⟩|⟨h,_,e⟩|⟨h,e⟩
 ·rw[e,h];rfl
 ·rw[e,h];rfl
 ·rw[e,j9 h];rfl
theorem BB(a b:MsgV):decide (lT a b≥0)= !cO a b:=by
 rcases mA a b with⟨h,e⟩|⟨h,_,e⟩|⟨h,e⟩
 ·rw[e,h];rfl
 ·rw[e,h];rfl
 ·rw[e,j9 h];rfl
theorem DG(a b:MsgV):(lT a b==0)=fN a b:=by
 rcases mA a b with⟨h,e⟩|⟨_,h,e⟩|⟨h,e⟩
 ·rw[e];cases hk:fN a b with
  |false=>rfl
  |true=>rw[pw hk] at h;cases h
 ·rw[e,h];rfl
 ·rw[e];cases hk:fN a b with
  |false=>rfl
  |true=>rw[uI] at hk;rw[pw hk] at h;cases h
def dF(m:MsgV):Int:=cN [bB (!eZ m.1) 8 0,bB (pQ m.2.1 1 1000) 3 0,bB (!eZ m.2.2.1) 8 0,bB (pQ m.2.2.2.1 1 36) 3 0,m9 m.2.2.2.2]
def d9(pre:List MsgV)(m:MsgV):Int:=cN [dF m,bB (match pre.getLast? with
 |some y=> !cO y m
 |none=>false) 11 0]
def gO:List MsgV→List MsgV→Int
 |_,[]=>0
 |pre,m::r=>bB (d9 pre m !=0) (d9 pre m) (gO (pre++[m]) r)
def bW(l:List MsgV):Int:=bB (decide ((l.length:Int)>1000)) 5 (gO [] l)
abbrev gZ(l:List MsgV):Prop:=l.Pairwise fun a b=>cO a b=true
theorem BC{pre:List MsgV}{m:MsgV}(h:gZ pre)(hb:match pre.getLast? with
 |some y=>cO y m=true
 |none=>True):gZ (pre++[m]):=by
 refine List.pairwise_append.2 ⟨h,List.pairwise_singleton _ _,fun a ha b hb'=> ?_⟩;rw[zc9.1 hb'];rcases List.eq_nil_or_concat pre with rfl|⟨p,y,rfl⟩
 ·cases ha
 ·rw[List.concat_eq_append] at h ha hb;rw[List.getLast?_concat] at hb;rcases za9.1 ha with ha|ha
  ·exact ja ((List.pairwise_append.1 h).2.2 a ha y (zc9.2 rfl)) hb
  ·rw[zc9.1 ha];exact hb
theorem jb{x:Int}{l:List Int}(h:cN (x::l)=0):x=0∧cN l=0:=by
 rw[show cN (x::l)=bB (x !=0) x (cN l) from rfl] at h;cases hx:x !=0 with
 |true=>rw[hx,bv] at h;rw[h] at hx;cases hx
 |false=>rw[hx,bj] at h;exact⟨by simpa using hx,h⟩
theorem Gm{a b:Int}(h:bB (a !=0) a b=0):a=0∧b=0:=by
 cases hx:a !=0 with
 |true=>rw[hx,bv] at h;rw[h] at hx;cases hx
 |false=>rw[hx,bj] at h;exact⟨by simpa using hx,h⟩
theorem mB{b:Bool}{a c:Int}(hc:c≠0)(h:bB b c a=0):b=false∧a=0:=by
 cases b with
 |true=>exact absurd h hc
 |false=>exact⟨rfl,h⟩
theorem xS:∀(r pre:List MsgV),gO pre r=0→gZ pre→gZ (pre++r)∧∀m∈r,dF m=0
 |[],pre,_,hp=>⟨by rw[zb4];exact hp,fun _ h=>(by cases h)⟩
 |m::r,pre,h,hp=>by
  obtain⟨h1,h2⟩:=Gm (show bB (d9 pre m !=0) (d9 pre m) (gO (pre++[m]) r)=0 from h);obtain⟨a1,a2⟩:=jb h1;have a2:=(mB (by decide) (jb a2).1).1;have hb:match pre.getLast? with
    |some y=>cO y m=true
    |none=>True:=by
   cases hg:pre.getLast? with
   |none=>trivial
   |some y=>rw[hg] at a2;simpa using a2
  obtain⟨q1,q2⟩:=xS r (pre++[m]) h2 (BC hp hb);rw[za8] at q1;exact⟨q1,fun x hx=>by
   rcases List.mem_cons.1 hx with rfl|hx
   ·exact a1
   ·exact q2 x hx⟩
theorem lU{l:List MsgV}(h:bW l=0):l.length≤1000∧gZ l∧∀m∈l,dF m=0:=by
 obtain⟨h1,h2⟩:=mB (by decide) (show bB (decide ((l.length:Int)>1000)) 5 (gO [] l)=0 from h);obtain⟨q1,q2⟩:=xS l [] h2 List.Pairwise.nil;exact⟨by simp at h1;omega,q1,q2⟩
theorem BD{m:MsgV}(h:dF m=0):1≤m.2.1∧m.2.1≤1000∧eZ m.1=true∧eZ m.2.2.1=true∧1≤m.2.2.2.1∧m.2.2.2.1≤36∧m9 m.2.2.2.2=0:=by
 obtain⟨a1,h⟩:=jb h;obtain⟨a2,h⟩:=jb h;obtain⟨a3,h⟩:=jb h;obtain⟨a4,h⟩:=jb h;obtain⟨a5,_⟩:=jb h;have a1:=(mB (by decide) a1).1;have a2:=(mB (by decide) a2).1;have a3:=(mB (by decide) a3).1;have a4:=(mB (by decide) a4).1;unfold pQ at a2 a4;simp at a1 a2 a3 a4;exact⟨by omega,by omega,a1,a3,by omega,by omega,a5⟩
def uJ(a b:MsgV):Bool:=dL a.1 b.1&&(a.2.1==b.2.1&&(dL a.2.2.1 b.2.2.1&&(a.2.2.2.1==b.2.2.2.1&&(a.2.2.2.2.1==b.2.2.2.2.1&&(dL a.2.2.2.2.2 b.2.2.2.2.2&&true)))))
theorem msgQ_iff{a b:MsgV}:uJ a b=true↔a=b:=by
 obtain⟨a1,a2,a3,a4,a5,a6⟩:=a;obtain⟨b1,b2,b3,b4,b5,b6⟩:=b;unfold uJ;simp only[zc2,sEq_iff,ze0,zb3,and_true]
def fp(l:List MsgV)(x:MsgV):List MsgV:=l.takeWhile fun y=>cO y x
def g6(l:List MsgV)(x:MsgV):List MsgV:=l.dropWhile fun y=>cO y x
theorem bb(l:List MsgV)(x:MsgV):fp l x++g6 l x=l:=List.takeWhile_append_dropWhile
def km(l:List MsgV)(x:MsgV):Option (List MsgV):=match g6 l x with
 |[]=>some (l++[x])
 |y::r=>(match fN y x with
  |true=>(match uJ y x with
   |true=>some l
   |false=>none)
  |false=>some (fp l x++x::y::r))
def lV:List MsgV→List MsgV→Option (List MsgV)
 |a,[]=>some a
 |a,x::b=>(match km a x with
  |some a'=>lV a' b
  |none=>none)
theorem qV{l:List MsgV}{x y:MsgV}{r:List MsgV}(h:g6 l x=y::r):cO y x=false:=by
 have:=List.head?_dropWhile_not (fun y=>cO y x) l;unfold g6 at h;rw[h] at this;simpa using this
theorem DH{l:List MsgV}{x y:MsgV}{r:List MsgV}(hl:gZ l)(h:g6 l x=y::r)(hk:fN y x=false):∀z∈y::r,cO x z=true:=by
 have h1:=qV h;have hxy:cO x y=true:=by
  cases hx:cO x y with
  |true=>rfl
  |false=>rw[DF h1 hx] at hk;cases hk
 have hl2:gZ (fp l x++g6 l x):=by rw[bb];exact hl
 have hr:=(List.pairwise_append.1 hl2).2.1;rw[h] at hr;intro z hz;rcases List.mem_cons.1 hz with rfl|hz
 ·exact hxy
 ·exact ja hxy ((List.pairwise_cons.1 hr).1 z hz)
theorem px{l:List MsgV}{x:MsgV}:∀z∈fp l x,cO z x=true:=by
 intro z hz;have:∀(l:List MsgV),z∈l.takeWhile (fun y=>cO y x)→cO z x=true:=fun l=>by
  induction l with
  |nil=>intro h;cases h
  |cons y l ih=>
   intro h;rw[List.takeWhile_cons] at h;cases hy:cO y x with
   |false=>rw[hy] at h;cases h
   |true=>
    rw[hy] at h;rcases List.mem_cons.1 h with rfl|h
    ·exact hy
    ·exact ih h
 exact this l hz
theorem xT{l l':List MsgV}{x:MsgV}(hl:gZ l)(h:km l x=some l'):gZ l'∧l'.length≤l.length+1∧∀z,z∈l'↔z∈l∨z=x:=by
 unfold km at h;have hb:=bb l x;split at h
 ·rename_i he;cases h;rw[he,zb4] at hb;refine⟨List.pairwise_append.2 ⟨hl,List.pairwise_singleton _ _,fun a ha b hb'=> ?_⟩,by simp,fun z=>by simp⟩;rw[zc9.1 hb'];exact px a (by rw[hb];exact ha)
 ·rename_i y r he;split at h
  ·rename_i hk;split at h
   ·rename_i hq;cases h;have e:=msgQ_iff.1 hq;subst e;exact⟨hl,by omega,fun z=>⟨.inl,fun h=>h.elim id fun h=>by rw[h,←hb,he];simp⟩⟩
   ·cases h
  ·rename_i hk;cases h;have hl2:gZ (fp l x++g6 l x):=by rw[hb];exact hl
   obtain⟨q1,q2,q3⟩:=List.pairwise_append.1 hl2;have hlt:=DH hl he hk;rw[he] at q2 q3 hb;refine⟨List.pairwise_append.2 ⟨q1,List.pairwise_cons.2 ⟨hlt,q2⟩,fun a ha b hb'=> ?_⟩,?_,fun z=> ?_⟩
   ·rcases List.mem_cons.1 hb' with rfl|hb'
    ·exact px a ha
    ·exact q3 a ha b hb'
   ·have:=congrArg List.length hb;simp at this ⊢;omega
   ·have:z∈l↔z∈fp l x++y::r:=by rw[hb]
    rw[this];simp;constructor
    ·rintro (h|h|h|h)
     ·exact .inl (.inl h)
     ·exact .inr h
     ·exact .inl (.inr (.inl h))
     ·exact .inl (.inr (.inr h))
    ·rintro ((h|h|h)|h)
     ·exact .inl h
     ·exact .inr (.inr (.inl h))
     ·exact .inr (.inr (.inr h))
     ·exact .inr (.inl h)
abbrev pR:=ByteArray×Int
def jc(g:pR):List D:=[.str g.1,.int .i64 g.2]
def nx(p:Option MsgV)(k:Int)(m:MsgV):Int:=match p with
 |none=>1
 |some y=>bB (dL y.1 m.1) k 1
def cU:Option MsgV→Int→List MsgV→List MsgV
 |_,_,[]=>[]
 |p,k,m::r=>bB (nx p k m==0) (cU (some m) 0 r) (bB (m.2.1 !=nx p k m) (cU (some m) 0 r) (m::cU (some m) (nx p k m+1) r))
def py:Option MsgV→Int→List MsgV→List pR
 |_,_,[]=>[]
 |p,k,m::r=>bB (nx p k m==0) (py (some m) 0 r) (bB (m.2.1 !=nx p k m) ((m.1,nx p k m)::py (some m) 0 r) (py (some m) (nx p k m+1) r))
def KO:Option MsgV→Int→List MsgV→List MsgV
 |_,_,[]=>[]
 |p,k,m::r=>bB (m.2.1==nx p k m) (m::KO (some m) (nx p k m+1) r) (KO (some m) (nx p k m) r)
def KP(p:Option MsgV)(m:MsgV):Int:=match p with
 |none=>0
 |some y=>bB (dL y.1 m.1) y.2.1 0
def BE(last:Option pR)(m:MsgV):Bool:=match last with
 |none=>true
 |some g=> !dL g.1 m.1
def KQ:Option MsgV→Option pR→List MsgV→List pR
 |_,_,[]=>[]
 |p,last,m::r=>bB (m.2.1 !=KP p m+1&&BE last m) ((m.1,KP p m+1)::KQ (some m) (some (m.1,KP p m+1)) r) (KQ (some m) last r)
def After(p:Option MsgV)(l:List MsgV):Prop:=gZ l∧(∀m∈l,1≤m.2.1)∧match p with
 |none=>True
 |some y=>1≤y.2.1∧∀m∈l,cO y m=true
theorem After.tail{p:Option MsgV}{m:MsgV}{r:List MsgV}(h:After p (m::r)):After (some m) r:=by
 obtain⟨h1,h2,_⟩:=h;exact⟨(List.pairwise_cons.1 h1).2,fun x hx=>h2 x (za5 _ hx),h2 m (za4 ..),(List.pairwise_cons.1 h1).1⟩
theorem xU{y m:MsgV}(h:cO y m=true)(hd:dL y.1 m.1=true):y.2.1<m.2.1:=by
 rcases befM_iff.1 h with h|⟨_,h⟩
 ·rw[sEq_iff.1 hd,show j8 m.1 m.1=false from lS _] at h;cases h
 ·exact h
theorem wL{a b:ByteArray}(h:j8 a b=true):dL a b=false:=by
 cases he:dL a b with
 |false=>rfl
 |true=>rw[sEq_iff.1 he,show j8 b b=false from lS _] at h;cases h
theorem uK{y m:MsgV}(h:cO y m=true)(hd:dL y.1 m.1=false):j8 y.1 m.1=true:=by
 rcases befM_iff.1 h with h|⟨e,_⟩
 ·exact h
 ·rw[sEq_iff.2 e] at hd;cases hd
def Last(y:MsgV)(last:Option pR):Prop:=match last with
 |none=>True
 |some g=>j8 g.1 y.1=true
theorem Last.new{y m:MsgV}{last:Option pR}(h:Last y last)(hd:dL y.1 m.1=true):BE last m=true∧Last m last:=by
 cases last with
 |none=>exact⟨rfl,trivial⟩
 |some g=>
  have hg:j8 g.1 y.1=true:=h;rw[sEq_iff.1 hd] at hg;exact⟨by show(!dL g.1 m.1)=true;rw[wL hg];rfl,hg⟩
end Go.Pd
end
section
namespace Go.Pd
open Go Go.Proofs Go.RowKit
set_option maxRecDepth 100000
section
variable {γ:Type}(c:D→Option γ)
theorem g0(pre:List MsgV)(x:MsgV)(r:List MsgV):bi ((pre++x::r).flatMap bp) (Int.toNat (pre.length:Int)*6+0) c=c (.str x.1):=co pre x r bp 6 (fun _=>rfl) 0 (by omega) c
theorem g1(pre:List MsgV)(x:MsgV)(r:List MsgV):bi ((pre++x::r).flatMap bp) (Int.toNat (pre.length:Int)*6+1) c=c (.int .i64 x.2.1):=co pre x r bp 6 (fun _=>rfl) 1 (by omega) c
theorem g2(pre:List MsgV)(x:MsgV)(r:List MsgV):bi ((pre++x::r).flatMap bp) (Int.toNat (pre.length:Int)*6+2) c=c (.str x.2.2.1):=co pre x r bp 6 (fun _=>rfl) 2 (by omega) c
theorem g3(pre:List MsgV)(x:MsgV)(r:List MsgV):bi ((pre++x::r).flatMap bp) (Int.toNat (pre.length:Int)*6+3) c=c (.int .i64 x.2.2.2.1):=co pre x r bp 6 (fun _=>rfl) 3 (by omega) c
theorem g4(pre:List MsgV)(x:MsgV)(r:List MsgV):bi ((pre++x::r).flatMap bp) (Int.toNat (pre.length:Int)*6+4) c=c (.int .i64 x.2.2.2.2.1):=co pre x r bp 6 (fun _=>rfl) 4 (by omega) c
theorem g5(pre:List MsgV)(x:MsgV)(r:List MsgV):bi ((pre++x::r).flatMap bp) (Int.toNat (pre.length:Int)*6+5) c=c (.str x.2.2.2.2.2):=co pre x r bp 6 (fun _=>rfl) 5 (by omega) c
theorem jQ(pre:List MsgV)(x:MsgV)(r:List MsgV)(c:ByteArray→Int→ByteArray→Int→Int→ByteArray→Option γ):
  (bi ((pre++x::r).flatMap bp) (Int.toNat (pre.length:Int)*6+0) fun d=>bQ d fun s=>bi ((pre++x::r).flatMap bp) (Int.toNat (pre.length:Int)*6+1) fun d_1=>bC IntKind.i64 d_1 fun x0=>bi ((pre++x::r).flatMap bp) (Int.toNat (pre.length:Int)*6+2) fun d_2=>bQ d_2 fun s_1=>bi ((pre++x::r).flatMap bp) (Int.toNat (pre.length:Int)*6+3) fun d_3=>bC IntKind.i64 d_3 fun x_1=>bi ((pre++x::r).flatMap bp) (Int.toNat (pre.length:Int)*6+4) fun d_4=>bC IntKind.i64 d_4 fun x_2=>bi ((pre++x::r).flatMap bp) (Int.toNat (pre.length:Int)*6+5) fun d_5=>bQ d_5 fun s_2=>c s x0 s_1 x_1 x_2 s_2)=c x.1 x.2.1 x.2.2.1 x.2.2.2.1 x.2.2.2.2.1 x.2.2.2.2.2:=by
 rw[g0,gr,g1,bw,g2,gr,g3,bw,g4,bw,g5,gr]
end
theorem sk(x y:Int):cN [x,y]=bB (x !=0) x y:=by
 show bB (x !=0) x (bB (y !=0) y 0)=_
 congr 1
 cases h:y !=0 with
 |true=>rfl
 |false=>simp at h;rw[h];rfl
theorem Jj(s:ByteArray):bV 272 [.str s] (.bool false):=
 kX dE Tryz.func272 (ord:=O0) (N:=N0) (by kernel_rfl) ((DC _ _ _ s).trans (by rw[show(ByteArray.toList s==ByteArray.toList s)=true by simp];rfl))
theorem Jk(a b:ByteArray):bV 217 [.str a,.str b] (.int .i64 (yS a b)):=by
 obtain⟨B,hB,hF⟩:=uR [⟨272,ByteArray,fun s=>[.str s],fun _=> .bool false⟩] ⟨⟨Jj,fun _ _ _=>rfl⟩,trivial⟩ rfl;have e:∀s:ByteArray,B 272 [.str s]=some (.bool false):=hF.1;refine kX hB Tryz.func217 (ord:=O0) (N:=N0) (by kernel_rfl) ((DB _ _ _ a b).trans ?_);rw[e,bn,bO,e,bn,bO,bj,bj];show bB (j8 a b) _ (bB (!(j8 a b||dL a b)) _ _)=some (D.int .i64 (bB (j8 a b) _ (bB (!(j8 a b||dL a b)) _ _)));cases j8 a b<;>cases dL a b<;>rfl
theorem Jl(a b:MsgV):bV 146 [.agg (bp a),.agg (bp b)] (.int .i64 (lT a b)):=by
 obtain⟨B,hB,hF⟩:=uR [one 217 [.str a.1,.str b.1] (.int .i64 (yS a.1 b.1)),fa101,fa163] ⟨eh (Jk a.1 b.1),wH,wI,trivial⟩ rfl;have e0:B 217 [.str a.1,.str b.1]=some (.int .i64 (yS a.1 b.1)):=hF.1 ();have e1:∀x y:Int,B 101 [.int .i64 x,.int .i64 y]=some (.int .i64 (uA x y)):=fun x y=>hF.2.1 (x,y);have e2:∀x y:Int,B 163 [.slc true 2 [.int .i64 x,.int .i64 y]]=some (.int .i64 (cN [x,y])):=fun x y=>hF.2.2.1 (x,y);refine kX hB Tryz.func146 (ord:=O0) (N:=N0) (by kernel_rfl) ((DA _ _ _ a.1 a.2.1 a.2.2.1 a.2.2.2.1 a.2.2.2.2.1 a.2.2.2.2.2 b.1 b.2.1 b.2.2.1 b.2.2.2.1 b.2.2.2.2.1 b.2.2.2.2.2).trans ?_);rw[e0,bn,bw,e1,bn,bw,e2,bn,bw,sk];rfl
theorem uL{x y:MsgV×MsgV}(h:[D.agg (bp x.1),D.agg (bp x.2)]=[D.agg (bp y.1),D.agg (bp y.2)]):x=y:=by
 simp only[zc3,and_true,D.agg.injEq] at h;exact Prod.ext (gv h.1) (gv h.2)
def fa146:Fam:=⟨146,MsgV×MsgV,fun x=>[.agg (bp x.1),.agg (bp x.2)],fun x=> .int .i64 (lT x.1 x.2)⟩
theorem pz:fa146.Good:=⟨fun x=>Jl x.1 x.2,fun i j h=>by rw[uL h]⟩
theorem Jm(a b:MsgV):bV 104 [.agg (bp a),.agg (bp b)] (.bool (cO a b)):=by
 refine kX dE Tryz.func104 (ord:=O0) (N:=N0) (by kernel_rfl) ((Dz _ _ _ a.1 a.2.1 a.2.2.1 a.2.2.2.1 a.2.2.2.2.1 a.2.2.2.2.2 b.1 b.2.1 b.2.2.1 b.2.2.2.1 b.2.2.2.2.1 b.2.2.2.2.2).trans ?_);show bB (j8 a.1 b.1) _ (bB (dL a.1 b.1) _ _)=some (D.bool (j8 a.1 b.1||(dL a.1 b.1&&decide (a.2.1<b.2.1))));cases j8 a.1 b.1<;>cases dL a.1 b.1<;>rfl
def fa104:Fam:=⟨104,MsgV×MsgV,fun x=>[.agg (bp x.1),.agg (bp x.2)],fun x=> .bool (cO x.1 x.2)⟩
theorem wM:fa104.Good:=⟨fun x=>Jm x.1 x.2,fun i j h=>by rw[uL h]⟩
def MsgV.Fit(m:MsgV):Prop:=m.1.size≤1000∧m.2.2.1.size≤1000
theorem KR(m:MsgV)(hm:m.Fit):bV 66 [.agg (bp m)] (.int .i64 (dF m)):=by
 obtain⟨B,hB,hF⟩:=uR [fa111,fa119,fa118,fa147,fa87] ⟨wE,iZ,ph,wC,iu,trivial⟩ rfl;obtain⟨a1,a2,a3,a4,a5,_⟩:=hF;have e1:B 111 [.str m.1]=some (.bool (eZ m.1)):=a1 ⟨m.1,by have:=hm.1;omega⟩;have e1':B 111 [.str m.2.2.1]=some (.bool (eZ m.2.2.1)):=a1 ⟨m.2.2.1,by have:=hm.2;omega⟩;have e2:∀(b:Bool) (e:Int),B 119 [.bool b,.int .i64 e]=some (.int .i64 (bB b e 0)):=fun b e=>a2 (b,e);have e3:∀n a b:Int,B 118 [.int .i64 n,.int .i64 a,.int .i64 b]=some (.bool (pQ n a b)):=fun n a b=>a3 (n,a,b);have e4:B 147 [.agg [.int .i64 m.2.2.2.2.1,.str m.2.2.2.2.2]]=some (.int .i64 (m9 m.2.2.2.2)):=a4 m.2.2.2.2;have e5:∀l:List Int,l.length≤100→B 87 [.slc true l.length (iX l)]=some (.int .i64 (cN l)):=fun l hl=>a5 ⟨l,hl⟩;have e6:∀a b c d e:Int,B 87 [.slc true 5 [.int .i64 a,.int .i64 b,.int .i64 c,.int .i64 d,.int .i64 e]]=some (.int .i64 (cN [a,b,c,d,e])):=fun a b c d e=>e5 [a,b,c,d,e] (by simp);refine kX hB Tryz.func66 (ord:=O0) (N:=N0) (by kernel_rfl) ((Gc _ _ _ m.1 m.2.1 m.2.2.1 m.2.2.2.1 m.2.2.2.2.1 m.2.2.2.2.2).trans ?_);rw[e1,bn,bO,e2,bn,bw,e3,bn,bO,e2,bn,bw,e1',bn,bO,e2,bn,bw,e3,bn,bO,e2,bn,bw,e4,bn,bw,e6,bn,bw];rfl
def Jn:={m:MsgV//m.Fit}
def fa66:Fam:=⟨66,Jn,fun m=>[.agg (bp m.1)],fun m=> .int .i64 (dF m.1)⟩
theorem qW:fa66.Good:=⟨fun m=>KR m.1 m.2,fun i j h=>by
 have h:[D.agg (bp i.1)]=[D.agg (bp j.1)]:=h;simp only[zc3,and_true,D.agg.injEq] at h;show D.int .i64 (dF i.1)= .int .i64 (dF j.1);rw[gv h]⟩
theorem KS(m:MsgV):bV 64 [.agg (bp m)] (.int .i64 (dF m)):=by
 obtain⟨B,hB,hF⟩:=uR [fa80,fa145] ⟨yO,wD,trivial⟩ rfl;have e1:∀s:ByteArray,B 80 [.str s]=some (.bool (eZ s)):=hF.1;have e2:B 145 [.agg [.int .i64 m.2.2.2.2.1,.str m.2.2.2.2.2]]=some (.int .i64 (m9 m.2.2.2.2)):=hF.2.1 m.2.2.2.2;refine kX hB Tryz.func64 (ord:=O0) (N:=N0) (by kernel_rfl) ((Gb _ _ _ m.1 m.2.1 m.2.2.1 m.2.2.2.1 m.2.2.2.2.1 m.2.2.2.2.2).trans ?_);rw[e1,bn,bO,e1,bn,bO,e2,bn,bw];unfold dF pQ;have z:∀x:Int,bB (x !=0) x 0=x:=fun x=>by
  by_cases h:x=0
  ·rw[h];rfl
  ·rw[show(x !=0)=true by simpa using h];rfl
 show _=some (D.int .i64 (bB (bB (!eZ m.1) (8:Int) 0 !=0) _ (bB (bB (decide (m.2.1<1)||decide (m.2.1>1000)) (3:Int) 0 !=0) _ (bB (bB (!eZ m.2.2.1) (8:Int) 0 !=0) _ (bB (bB (decide (m.2.2.2.1<1)||decide (m.2.2.2.1>36)) (3:Int) 0 !=0) _ (bB (m9 m.2.2.2.2 !=0) (m9 m.2.2.2.2) 0))))));rw[z];cases eZ m.1<;>cases decide (m.2.1<1)<;>cases decide (m.2.1>1000)<;>cases eZ m.2.2.1<;>cases decide (m.2.2.2.1<1)<;>cases decide (m.2.2.2.1>36)<;>rfl
def fa64:Fam:=⟨64,MsgV,fun m=>[.agg (bp m)],fun m=> .int .i64 (dF m)⟩
theorem yT:fa64.Good:=⟨KS,fun i j h=>by
 have h:[D.agg (bp i)]=[D.agg (bp j)]:=h;simp only[zc3,and_true,D.agg.injEq] at h;rw[gv h]⟩
theorem KT{B:FuncId→List D→Option D}{l:List MsgV}{f:Bool}(hl:l.length≤100000)(h66:∀m:Jn,B 66 [.agg (bp m.1)]=some (.int .i64 (dF m.1)))(h146:∀x:MsgV×MsgV,B 146 [.agg (bp x.1),.agg (bp x.2)]=some (.int .i64 (lT x.1 x.2)))
  (h119:∀(b:Bool) (e:Int),B 119 [.bool b,.int .i64 e]=some (.int .i64 (bB b e 0))) (h87:∀a b:Int,B 87 [.slc true 2 [.int .i64 a,.int .i64 b]]=some (.int .i64 (cN [a,b]))):
  ∀(r pre:List MsgV) (fuel:Nat),l=pre++r→(∀m∈r,m.Fit)→r.length<fuel→my B LL C1 fuel f l.length (l.flatMap bp) l.length (pre.length:Int)=some (.int .i64 (gO pre r)):=by
 intro r
 induction r with
 |nil=>
  intro pre fuel hp _ hf;cases fuel with
  |zero=>exact absurd hf (Nat.not_lt_zero _)
  |succ fuel=>
   rw[zb4] at hp;rw[qS,show decide ((pre.length:Int)<(l.length:Int))=false by rw[hp];simp,bj];rfl
 |cons x r ih=>
  intro pre fuel hp hfit hf;cases fuel with
  |zero=>exact absurd hf (Nat.not_lt_zero _)
  |succ fuel=>
   have ih:=ih (pre++[x]) fuel (by rw[hp];simp) (fun m hm=>hfit m (za5 _ hm)) (by simp at hf;omega);have hpl:pre.length+1≤l.length:=by rw[hp];simp
   have l0:decide ((pre.length:Int)<(l.length:Int))=true:=by simp;omega
   have l1:decide ((0:Int)≤(pre.length:Int)∧(pre.length:Int)<(l.length:Int))=true:=by simp;omega
   have hst:IntKind.wrap .i64 ((pre.length:Int)+1)=((pre++[x]).length:Int):=by rw[cv (by omega)];simp
   have e66:B 66 [.agg [.str x.1,.int .i64 x.2.1,.str x.2.2.1,.int .i64 x.2.2.2.1,.int .i64 x.2.2.2.2.1,.str x.2.2.2.2.2]]=some (.int .i64 (dF x)):=h66 ⟨x,hfit x (za4 ..)⟩;have hg:gO pre (x::r)=bB (d9 pre x !=0) (d9 pre x) (gO (pre++[x]) r):=rfl;rw[qS,l0,bv,l1,bq];subst hp;rw[jQ pre x r,e66,bn,bw];rcases List.eq_nil_or_concat pre with rfl|⟨p,y,rfl⟩
   ·rw[show decide ((([]:List MsgV).length:Int)>0)=false from rfl,bj,h119,bn,bw,h87,bn,bw,hst,ih,hg];show bB (d9 [] x !=0) _ _=_;cases d9 [] x !=0<;>rfl
   ·rw[List.concat_eq_append] at*;have hw:IntKind.wrap .i64 (((p++[y]).length:Int)-1)=(p.length:Int):=by rw[cv (by omega)];simp
    have d0:decide (((p++[y]).length:Int)>0)=true:=by simp only[za6,zc5];simp
    have d1:decide ((0:Int)≤(p.length:Int)∧(p.length:Int)<((p++[y]++x::r).length:Int))=true:=by simp;omega
    have e146:B 146 [.agg [.str y.1,.int .i64 y.2.1,.str y.2.2.1,.int .i64 y.2.2.2.1,.int .i64 y.2.2.2.2.1,.str y.2.2.2.2.2],.agg [.str x.1,.int .i64 x.2.1,.str x.2.2.1,.int .i64 x.2.2.2.1,.int .i64 x.2.2.2.2.1,.str x.2.2.2.2.2]]=some (.int .i64 (lT y x)):=h146 (y,x);have hE:d9 (p++[y]) x=cN [dF x,bB (!cO y x) 11 0]:=by
     unfold d9;rw[List.getLast?_concat]
    rw[d0,bv,hw,d1,bq];rw[show(p++[y]++x::r)=p++y::(x::r) by simp,jQ p y (x::r),e146,bn,bw,BB,h119,bn,bw,h87,bn,bw,hst];rw[show(p++[y]++x::r)=p++y::(x::r) by simp] at ih;rw[ih,hg,hE];cases cN [dF x,bB (!cO y x) 11 0] !=0<;>rfl
theorem Gn{f:Bool}(l:List MsgV)(hl:l.length≤100000)(hf:∀m∈l,m.Fit):bV 65 [.agg [.slc f l.length (l.flatMap bp)]] (.int .i64 (bW l)):=by
 obtain⟨B,hB,hF⟩:=uR [fa66,fa146,fa119,fa87] ⟨qW,pz,iZ,iu,trivial⟩ rfl;obtain⟨a1,a2,a3,a4,_⟩:=hF;refine kX hB Tryz.func65 (ord:=O0) (N:=KL) (by kernel_rfl) ((Gd _ _ _ f _ _).trans ?_);rw[show my B LL C1 LL f l.length (l.flatMap bp) (l.length:Int) 0=_ from KT hl a1 a2 (fun b e=>a3 (b,e)) (fun a b=>a4 ⟨[a,b],by simp⟩) l [] LL rfl hf (by unfold LL;omega)];unfold bW;cases decide ((l.length:Int)>1000)<;>rfl
theorem KU{B:FuncId→List D→Option D}{l:List MsgV}{f:Bool}(hl:l.length≤100000)(h64:∀m:MsgV,B 64 [.agg (bp m)]=some (.int .i64 (dF m)))(h104:∀x:MsgV×MsgV,B 104 [.agg (bp x.1),.agg (bp x.2)]=some (.bool (cO x.1 x.2))):
  ∀(r pre:List MsgV) (fuel:Nat),l=pre++r→r.length<fuel→pp B LL C1 fuel f l.length (l.flatMap bp) (pre.length:Int)=some (.int .i64 (gO pre r)):=by
 intro r
 induction r with
 |nil=>
  intro pre fuel hp hf;cases fuel with
  |zero=>exact absurd hf (Nat.not_lt_zero _)
  |succ fuel=>
   rw[zb4] at hp;rw[qT,show decide ((pre.length:Int)<(l.length:Int))=false by rw[hp];simp,bj];rfl
 |cons x r ih=>
  intro pre fuel hp hf;cases fuel with
  |zero=>exact absurd hf (Nat.not_lt_zero _)
  |succ fuel=>
   have ih:=ih (pre++[x]) fuel (by rw[hp];simp) (by simp at hf;omega);have hpl:pre.length+1≤l.length:=by rw[hp];simp
   have l0:decide ((pre.length:Int)<(l.length:Int))=true:=by simp;omega
   have l1:decide ((0:Int)≤(pre.length:Int)∧(pre.length:Int)<(l.length:Int))=true:=by simp;omega
   have hst:IntKind.wrap .i64 ((pre.length:Int)+1)=((pre++[x]).length:Int):=by rw[cv (by omega)];simp
   have e64:B 64 [.agg [.str x.1,.int .i64 x.2.1,.str x.2.2.1,.int .i64 x.2.2.2.1,.int .i64 x.2.2.2.2.1,.str x.2.2.2.2.2]]=some (.int .i64 (dF x)):=h64 x;have hg:gO pre (x::r)=bB (d9 pre x !=0) (d9 pre x) (gO (pre++[x]) r):=rfl;have fin:∀e:Int,e=d9 pre x→gu B LL C1 fuel f l.length (l.flatMap bp) (pre.length:Int) e=some (.int .i64 (gO pre (x::r))):=fun e he=>by
    rw[uG (hC:=c1),wK (hC:=c1),hst,ih,hg,he];cases d9 pre x !=0<;>rfl
   rw[qT,l0,bv,l1,bq];subst hp;rw[jQ pre x r,e64,bn,bw];by_cases hz:dF x=0
   ·rw[hz,show((0:Int)==0)=true from rfl,bv];rcases List.eq_nil_or_concat pre with rfl|⟨p,y,rfl⟩
    ·rw[show decide ((([]:List MsgV).length:Int)>0)=false from rfl,bj];exact fin 0 (by unfold d9;rw[hz];rfl)
    ·rw[List.concat_eq_append] at*;have hw:IntKind.wrap .i64 (((p++[y]).length:Int)-1)=(p.length:Int):=by rw[cv (by omega)];simp
     have d0:decide (((p++[y]).length:Int)>0)=true:=by simp only[za6,zc5];simp
     have d1:decide ((0:Int)≤(p.length:Int)∧(p.length:Int)<((p++[y]++x::r).length:Int))=true:=by simp;omega
     have e104:B 104 [.agg [.str y.1,.int .i64 y.2.1,.str y.2.2.1,.int .i64 y.2.2.2.1,.int .i64 y.2.2.2.2.1,.str y.2.2.2.2.2],.agg [.str x.1,.int .i64 x.2.1,.str x.2.2.1,.int .i64 x.2.2.2.1,.int .i64 x.2.2.2.2.1,.str x.2.2.2.2.2]]=some (.bool (cO y x)):=h104 (y,x);have hE:d9 (p++[y]) x=bB (!cO y x) 11 0:=by
      unfold d9;rw[List.getLast?_concat,hz];show cN [0,bB (!cO y x) 11 0]=_;rw[sk];rfl
     rw[d0,bv,hw,d1,bq];have cy:=jQ (γ:=D) p y (x::r);have cx:=jQ (γ:=D) (p++[y]) x r;rw[show(p++y::(x::r))=p++[y]++x::r by simp] at cy;rw[cy,bq,cx,e104,bn,bO];cases hb:cO y x with
     |true=>exact fin 0 (by rw[hE,hb];rfl)
     |false=>exact fin 11 (by rw[hE,hb];rfl)
   ·rw[show(dF x==0)=false from beq_eq_false_iff_ne.2 hz,bj];refine fin _ ?_;unfold d9;generalize bB (match pre.getLast? with
     |some y=> !cO y x
     |none=>false) (11:Int) 0=z
    rw[sk,show(dF x !=0)=true by simpa using hz,bv]
theorem KV{f:Bool}(l:List MsgV)(hl:l.length≤100000):bV 35 [.slc f l.length (l.flatMap bp)] (.int .i64 (bW l)):=by
 obtain⟨B,hB,hF⟩:=uR [fa64,fa104] ⟨yT,wM,trivial⟩ rfl;refine kX hB Tryz.func35 (ord:=O0) (N:=Ji) (by kernel_rfl) ((Ge _ _ _ f _ _).trans ?_);rw[show pp B LL C1 LL f l.length (l.flatMap bp) 0=_ from KU hl hF.1 hF.2.1 l [] LL rfl (by unfold LL;omega)];unfold bW;cases decide ((l.length:Int)>1000)<;>rfl
theorem wN{l:List MsgV}{x:MsgV}(hl:gZ l){j:Nat}{y:MsgV}(hj:l[j]?=some y):cO y x=decide (j<(fp l x).length):=by
 have hb:=bb l x;by_cases h:j<(fp l x).length
 ·rw[za1 h];refine px (l:=l) y (List.mem_of_getElem? (i:=j) ?_);rw[←hb,zb7 h] at hj;exact hj
 ·rw[za2 h];rw[←hb,zb6 (by omega)] at hj;have hl2:gZ (fp l x++g6 l x):=by rw[hb];exact hl
  have hr:=(List.pairwise_append.1 hl2).2.1;cases hq:g6 l x with
  |nil=>rw[hq] at hj;simp at hj
  |cons z r=>
   have hz:=qV hq;rw[hq] at hj hr;have hy:=List.mem_of_getElem? hj;rcases List.mem_cons.1 hy with rfl|hy
   ·exact hz
   ·cases hb2:cO y x with
    |false=>rfl
    |true=>rw[ja ((List.pairwise_cons.1 hr).1 y hy) hb2] at hz;cases hz
theorem Jo{B:FuncId→List D→Option D}{l:List MsgV}{f:Bool}{x:MsgV}(hl:l.length≤100000)(ha:gZ l)(h146:∀x:MsgV×MsgV,B 146 [.agg (bp x.1),.agg (bp x.2)]=some (.int .i64 (lT x.1 x.2))):
  ∀(k i j fuel:Nat),j-i≤k→k<fuel→i≤(fp l x).length→(fp l x).length≤j→j≤l.length→
  lR B LL C1 fuel f l.length (l.flatMap bp) x.1 x.2.1 x.2.2.1 x.2.2.2.1 x.2.2.2.2.1 x.2.2.2.2.2 l.length (i:Int) (j:Int)=some (.tup [.int .i64 ((fp l x).length:Int),.bool (match g6 l x with
   |[]=>false
   |y::_=>fN y x)]):=by
 intro k
 induction k with
 |zero=>
  intro i j fuel hk hf h1 h2 h3;cases fuel with
  |zero=>exact absurd hf (Nat.not_lt_zero _)
  |succ fuel=>
   have hi:i=(fp l x).length:=by omega
   have hb:=bb l x;rw[pn,show decide ((i:Int)<(j:Int))=false by simp;omega,bj];cases hq:g6 l x with
   |nil=>
    rw[hq,zb4] at hb;rw[show decide ((i:Int)<(l.length:Int))=false by rw[hi,hb];simp,bj,hi]
   |cons y r=>
    rw[hq] at hb;have hlt:i<l.length:=by have:=congrArg List.length hb;simp at this;omega
    have cy:=jQ (γ:=D) (fp l x) y r;rw[hb,←hi] at cy;have e146:B 146 [.agg [.str y.1,.int .i64 y.2.1,.str y.2.2.1,.int .i64 y.2.2.2.1,.int .i64 y.2.2.2.2.1,.str y.2.2.2.2.2],.agg [.str x.1,.int .i64 x.2.1,.str x.2.2.1,.int .i64 x.2.2.2.1,.int .i64 x.2.2.2.2.1,.str x.2.2.2.2.2]]=some (.int .i64 (lT y x)):=h146 (y,x);rw[show decide ((i:Int)<(l.length:Int))=true by simp;omega,bv,show decide ((0:Int)≤(i:Int)∧(i:Int)<(l.length:Int))=true by simp;omega,bq,cy,e146,bn,bw,DG,hi]
 |succ k ih=>
  intro i j fuel hk hf h1 h2 h3;cases fuel with
  |zero=>exact absurd hf (Nat.not_lt_zero _)
  |succ fuel=>
   by_cases hij:i<j
   ·have hmid:IntKind.wrap .i64 (Int.fdiv (IntKind.wrap .u64 (IntKind.wrap .i64 ((i:Int)+(j:Int)))) (2^1))=(((i+j)/2:Nat):Int):=by
     have e1:IntKind.wrap .i64 ((i:Int)+(j:Int))=((i+j:Nat):Int):=by rw[cv (by omega)];simp
     have e2:IntKind.wrap .u64 ((i+j:Nat):Int)=((i+j:Nat):Int):=by
      show((i+j:Nat):Int)%(2^64)=_;omega
     rw[e1,e2,show(2:Int)^1=2 from rfl,Int.fdiv_eq_ediv_of_nonneg _ (by decide),cv (by omega)];omega
    have hm1:(i+j)/2<l.length:=by omega
    obtain⟨pre,r,hd,hpl⟩:=Bu (zd0 hm1);have hget:=zd0 hm1;generalize l[(i+j)/2]=y at hd hget;have hbf:=wN (x:=x) ha hget;have cy:=jQ (γ:=D) pre y r;rw[←hd,hpl] at cy;have e146:B 146 [.agg [.str y.1,.int .i64 y.2.1,.str y.2.2.1,.int .i64 y.2.2.2.1,.int .i64 y.2.2.2.2.1,.str y.2.2.2.2.2],.agg [.str x.1,.int .i64 x.2.1,.str x.2.2.1,.int .i64 x.2.2.2.1,.int .i64 x.2.2.2.2.1,.str x.2.2.2.2.2]]=some (.int .i64 (lT y x)):=h146 (y,x);rw[pn,show decide ((i:Int)<(j:Int))=true by simp;omega,bv,hmid,show decide ((0:Int)≤(((i+j)/2:Nat):Int)∧(((i+j)/2:Nat):Int)<(l.length:Int))=true by simp;omega,bq,cy,e146,bn,bw,BA,hbf];by_cases hc:(i+j)/2<(fp l x).length
    ·rw[za1 hc,bv,show IntKind.wrap .i64 ((((i+j)/2:Nat):Int)+1)=(((i+j)/2+1:Nat):Int) by rw[cv (by omega)];rfl];exact ih ((i+j)/2+1) j fuel (by omega) (by omega) (by omega) h2 h3
    ·rw[za2 hc,bj];exact ih i ((i+j)/2) fuel (by omega) (by omega) h1 (by omega) (by omega)
   ·have:=ih i j (fuel+1) (by omega) (by omega) h1 h2 h3;exact this
theorem Jp{f:Bool}(l:List MsgV)(x:MsgV)(hl:l.length≤100000)(ha:gZ l):bV 273 [.slc f l.length (l.flatMap bp),.agg (bp x),.fn (.func 146) [] []] (.tup [.int .i64 ((fp l x).length:Int),.bool (match g6 l x with
   |[]=>false
   |y::_=>fN y x)]):=by
 obtain⟨B,hB,hF⟩:=uR [fa146] ⟨pz,trivial⟩ rfl;have hb:=congrArg List.length (bb l x);rw[za6] at hb;exact kX hB Tryz.func273 (ord:=O0) (N:=Ga) (by kernel_rfl) ((DD _ _ _ f _ _ x.1 x.2.1 x.2.2.1 x.2.2.2.1 x.2.2.2.2.1 x.2.2.2.2.2).trans (Jo hl ha hF.1 l.length 0 l.length LL (by omega) (by unfold LL;omega) (Nat.zero_le _) (by omega) (zb0 _)))
end Go.Pd
end
section
namespace Go.Pd
open Go Go.Proofs
set_option maxRecDepth 100000
def Gp:bH:=fun p=>match p with
 |122=>nm [2,8,24,25,26] [10] [10,20]
 |_=>none
noncomputable def jS(h:FuncId→List D→Option D)(mu:FuncId→List D→Option D)(L:Nat)(C:Nat→Nat)(n:Nat)(S:Bool)(U:Nat)(O:List D)(M:Nat)(B K:Int)(z:List D):Option D:=
 ec (Jh h mu L C) O0 Gp FinM.canon Tryz.f219 (bt 6 23) [] n (St.mk (J::J::D.fn (Fn.func 146) [] []::jn 5 (D.own 20 0 M::jn 15 (D.slc S U O::D.int .i64 B::D.int .i64 K::jn 24 []))) (zn 20 ((1,some (Ob.arr 130 6 z false))::zn 30 [])))
theorem mX(M:FuncId→List D→Option D)(mu:FuncId→List D→Option D)(L:Nat)(C:Nat→Nat)(n:Nat)(W:Bool)(S:Nat)(J:List D)(K:Nat)(O z:Int)(h:List D):jS M mu L C (n+1) W S J K O z h=
 (bB (decide (z<O))
 (bT (decide (0≤z∧z<(S:Int)))
 (bi J (Int.toNat z*6+0) fun d=>bQ d fun s=>bi J (Int.toNat z*6+1) fun a0=>bC .i64 a0 fun x=>bi J (Int.toNat z*6+2) fun a5=>bQ a5 fun U=>bi J (Int.toNat z*6+3) fun a6=>bC .i64 a6 fun Y=>bi J (Int.toNat z*6+4) fun a7=>bC .i64 a7 fun Z=>bi J (Int.toNat z*6+5) fun a8=>bQ a8 fun V=>bL (M 273 [D.slc false K h,D.agg [D.str s,D.int .i64 x,D.str U,D.int .i64 Y,D.int .i64 Z,D.str V],D.fn (Fn.func 146) [] []]) fun r=>fA r 2 fun c=>bi c 0 fun a9=>bC .i64 a9 fun B=>bi c 1 fun aa=>cG aa fun b=>bB b
 (bT (decide (0≤B∧B<(K:Int)))
 (bi h (Int.toNat B*6+0) fun ab=>bQ ab fun ad=>bi h (Int.toNat B*6+1) fun ac=>bC .i64 ac fun ag=>bi h (Int.toNat B*6+2) fun a1=>bQ a1 fun ae=>bi h (Int.toNat B*6+3) fun a2=>bC .i64 a2 fun ah=>bi h (Int.toNat B*6+4) fun a3=>bC .i64 a3 fun ai=>bi h (Int.toNat B*6+5) fun a4=>bQ a4 fun af=>bB (!(ByteArray.toList ad==ByteArray.toList s&&(ag==x&&(ByteArray.toList ae==ByteArray.toList U&&(ah==Y&&(ai==Z&&(ByteArray.toList af==ByteArray.toList V&&true)))))))
 (some (D.tup [D.slc true 0 [],D.bool false]))
 (jS M mu L C n W S J K O (IntKind.wrap .i64 (z+1)) h)))
 (bT (decide (0≤B∧B≤(K:Int)))
 (bT (decide ((K+1)*72≤cH))
 (bT (List.all h D.one)
 (jS M mu L C n W S J (K+1) O (IntKind.wrap .i64 (z+1)) (List.take (Int.toNat B*6) h++([D.str s,D.int .i64 x,D.str U,D.int .i64 Y,D.int .i64 Z,D.str V]++List.drop (Int.toNat B*6) h))))))))
 (some (D.tup [D.slc false K h,D.bool true]))):=by kernel_rfl
theorem DI(J:FuncId→List D→Option D)(mu:FuncId→List D→Option D)(L:Nat)(C:Nat→Nat)(O:Bool)(h:Nat)(B:List D)(M:Bool)(z:Nat)(K:List D):ct (Jh J mu L C) O0 Gp FinM.canon Tryz.f219 [D.slc O h B,D.slc M z K,D.fn (Fn.func 146) [] []]=
 (bT (decide (0≤(h:Int)∧(h:Int)≤IntKind.wrap .i64 ((h:Int)+(z:Int))∧IntKind.wrap .i64 ((h:Int)+(z:Int))*(72:Int)≤140737488355328∧IntKind.wrap .i64 ((h:Int)+(z:Int))≤9223372036854775807))
 (bT (decide (List.length B=h*6∧List.all B D.one=true∧0+Int.toNat (h:Int)*6≤List.length (dg (Int.toNat (h:Int)) [D.str (ByteArray.mk #[]),D.int .i64 0,D.str (ByteArray.mk #[]),D.int .i64 0,D.int .i64 0,D.str (ByteArray.mk #[])])))
 (jS J mu L C L M z K (Int.toNat (h:Int)) ((z:Int)) 0 (bS (dg (Int.toNat (h:Int)) [D.str (ByteArray.mk #[]),D.int .i64 0,D.str (ByteArray.mk #[]),D.int .i64 0,D.int .i64 0,D.str (ByteArray.mk #[])]) 0 (List.take (min h (Int.toNat (h:Int))*6) B))))):=by kernel_rfl
def KW:bH:=fun p=>match p with
 |58=>nm [0,1,5] [] []
 |_=>none
noncomputable def sm(h:FuncId→List D→Option D)(L:Nat)(C:Nat→Nat)(n:Nat)(B:Bool)(K:Nat)(z:List D)(O:Bool)(S:Nat)(M:List D)(U:Int):Option D:=
 ec (ed h L C) O0 KW FinM.canon Tryz.f72 (bt 5 11) [] n (St.mk (D.slc B K z::D.slc O S M::J::J::J::D.int .i64 U::jn 20 []) (zn 26 []))
theorem qX(M:FuncId→List D→Option D)(L:Nat)(C:Nat→Nat)(n:Nat)(O:Bool)(J:Nat)(z:List D)(S:Bool)(K:Nat)(B:List D)(h:Int):sm M L C (n+1) O J z S K B h=
 (bB (decide (h<(J:Int)))
 (bT (decide (0≤h∧h<(J:Int)))
 (bi z (Int.toNat h*6+0) fun d=>bQ d fun s=>bi z (Int.toNat h*6+1) fun U=>bC .i64 U fun x=>bi z (Int.toNat h*6+2) fun Y=>bQ Y fun a6=>bi z (Int.toNat h*6+3) fun Z=>bC .i64 Z fun ab=>bi z (Int.toNat h*6+4) fun a0=>bC .i64 a0 fun ac=>bi z (Int.toNat h*6+5) fun a1=>bQ a1 fun a7=>bT (decide (0≤h∧h<(K:Int)))
 (bi B (Int.toNat h*6+0) fun a2=>bQ a2 fun a8=>bi B (Int.toNat h*6+1) fun a3=>bC .i64 a3 fun ad=>bi B (Int.toNat h*6+2) fun a4=>bQ a4 fun a9=>bi B (Int.toNat h*6+3) fun a5=>bC .i64 a5 fun ae=>bi B (Int.toNat h*6+4) fun V=>bC .i64 V fun af=>bi B (Int.toNat h*6+5) fun W=>bQ W fun aa=>bB (!(ByteArray.toList s==ByteArray.toList a8&&(x==ad&&(ByteArray.toList a6==ByteArray.toList a9&&(ab==ae&&(ac==af&&(ByteArray.toList a7==ByteArray.toList aa&&true)))))))
 (some (D.bool false))
 (sm M L C n O J z S K B (IntKind.wrap .i64 (h+1))))))
 (some (D.bool true))):=by kernel_rfl
theorem Gq(B:FuncId→List D→Option D)(L:Nat)(C:Nat→Nat)(K:Bool)(h:Nat)(J:List D)(O:Bool)(z:Nat)(M:List D):ct (ed B L C) O0 KW FinM.canon Tryz.f72 [D.slc K h J,D.slc O z M]=
 (bB ((h:Int) !=(z:Int))
 (some (D.bool false))
 (sm B L C L K h J O z M 0)):=by kernel_rfl
def JT:bH:=fun p=>match p with
 |890=>nm [1,4,5,6,10,11,12] [8] [1,8,45,49]
 |113971=>nm [1,4,5,6,8,10,11,12] [] [1,8,45,49]
 |_=>none
noncomputable def bM(O:FuncId→List D→Option D)(L:Nat)(C:Nat→Nat)(n:Nat)(z:Bool)(B:Nat)(h:List D)(S U:Int)(M:Ow)(K:Ow)(a3:Int)(V:ByteArray)(W:Int)(Y:ByteArray)(a0 a1:Int)(a2:ByteArray):Option D:=
 kw (ed O L C) O0 JT FinM.canon Tryz.f98 (bt 16 52413) [n] (C 113971) (St.mk (J::D.loc 1 0 0::J::J::rJ 49 M::rJ 45 K::D.int .i64 a3::J::D.loc 8 0 0::J::D.slc z B h::D.int .i64 S::D.int .i64 U::jn 42 []) (Z::(1,some (Ob.box [D.slc z B h] false))::zn 6 ((1,some (Ob.box [D.str V,D.int .i64 W,D.str Y,D.int .i64 a0,D.int .i64 a1,D.str a2] false))::zn 36 (Ap 151 2 K::Z::Z::Z::Ap 130 6 M::zn 5 []))))
noncomputable def cA(M:FuncId→List D→Option D)(L:Nat)(C:Nat→Nat)(n:Nat)(z:Bool)(B:Nat)(h:List D)(vl:Ow)(K:Ow)(U O S:Int):Option D:=
 ec (ed M L C) O0 JT FinM.canon Tryz.f98 (bt 9 189) [] n (St.mk (J::D.loc 1 0 0::J::J::rJ 49 vl::rJ 45 K::D.int .i64 U::J::J::J::D.slc z B h::D.int .i64 O::D.int .i64 S::jn 42 []) (Z::(1,some (Ob.box [D.slc z B h] false))::zn 43 (Ap 151 2 K::Z::Z::Z::Ap 130 6 vl::zn 5 [])))
theorem nf(z:FuncId→List D→Option D)(L:Nat)(C:Nat→Nat)(n:Nat)(M:Bool)(O:Nat)(K:List D)(B J h:Int)(S:ByteArray)(U:Int)(V:ByteArray)(W Y:Int)(Z:ByteArray)(hC:∀t,C t=1):bM z L C n M O K B J (Ow.nil) (Ow.nil) h S U V W Y Z=
 (bB (h==0)
 (cA z L C n M O K (Ow.nil) (Ow.nil) h B (IntKind.wrap .i64 (J+1)))
 (bB (U !=h)
 (cA z L C n M O K (Ow.nil) (Ow.own 1 [D.str S,D.int .i64 h]) 0 B (IntKind.wrap .i64 (J+1)))
 (cA z L C n M O K (Ow.own 1 [D.str S,D.int .i64 U,D.str V,D.int .i64 W,D.int .i64 Y,D.str Z]) (Ow.nil) (IntKind.wrap .i64 (h+1)) B (IntKind.wrap .i64 (J+1))))):=by
 unfold bM;rw[hC]
 kernel_rfl
theorem ng(B:FuncId→List D→Option D)(L:Nat)(C:Nat→Nat)(n:Nat)(O:Bool)(S:Nat)(M:List D)(J K:Int)(h:Nat)(U:List D)(z:Int)(V:ByteArray)(W:Int)(Y:ByteArray)(Z a0:Int)(a1:ByteArray)(hC:∀t,C t=1):bM B L C n O S M J K (Ow.nil) (Ow.own h U) z V W Y Z a0 a1=
 (bB (z==0)
 (cA B L C n O S M (Ow.nil) (Ow.own h U) z J (IntKind.wrap .i64 (K+1)))
 (bB (W !=z)
 (bT (decide ((h+1)*24≤cH∧h+1≤9223372036854775807))
 (cA B L C n O S M (Ow.nil) (Ow.own (h+1) (U++[D.str V,D.int .i64 z])) 0 J (IntKind.wrap .i64 (K+1))))
 (cA B L C n O S M (Ow.own 1 [D.str V,D.int .i64 W,D.str Y,D.int .i64 Z,D.int .i64 a0,D.str a1]) (Ow.own h U) (IntKind.wrap .i64 (z+1)) J (IntKind.wrap .i64 (K+1))))):=by
 unfold bM;rw[hC]
 kernel_rfl
theorem nh(B:FuncId→List D→Option D)(L:Nat)(C:Nat→Nat)(n:Nat)(O:Bool)(S:Nat)(M:List D)(J K:Int)(h:Nat)(U:List D)(z:Int)(V:ByteArray)(W:Int)(Y:ByteArray)(Z a0:Int)(a1:ByteArray)(hC:∀t,C t=1):bM B L C n O S M J K (Ow.own h U) (Ow.nil) z V W Y Z a0 a1=
 (bB (z==0)
 (cA B L C n O S M (Ow.own h U) (Ow.nil) z J (IntKind.wrap .i64 (K+1)))
 (bB (W !=z)
 (cA B L C n O S M (Ow.own h U) (Ow.own 1 [D.str V,D.int .i64 z]) 0 J (IntKind.wrap .i64 (K+1)))
 (bT (decide ((h+1)*72≤cH∧h+1≤9223372036854775807))
 (cA B L C n O S M (Ow.own (h+1) (U++[D.str V,D.int .i64 W,D.str Y,D.int .i64 Z,D.int .i64 a0,D.str a1])) (Ow.nil) (IntKind.wrap .i64 (z+1)) J (IntKind.wrap .i64 (K+1)))))):=by
 unfold bM;rw[hC]
 kernel_rfl
theorem ni(J:FuncId→List D→Option D)(L:Nat)(C:Nat→Nat)(n:Nat)(S:Bool)(U:Nat)(O:List D)(K M:Int)(z:Nat)(W:List D)(h:Nat)(V:List D)(B:Int)(Y:ByteArray)(Z:Int)(a0:ByteArray)(a1 a2:Int)(a3:ByteArray)(hC:∀t,C t=1):bM J L C n S U O K M (Ow.own z W) (Ow.own h V) B Y Z a0 a1 a2 a3=
 (bB (B==0)
 (cA J L C n S U O (Ow.own z W) (Ow.own h V) B K (IntKind.wrap .i64 (M+1)))
 (bB (Z !=B)
 (bT (decide ((h+1)*24≤cH∧h+1≤9223372036854775807))
 (cA J L C n S U O (Ow.own z W) (Ow.own (h+1) (V++[D.str Y,D.int .i64 B])) 0 K (IntKind.wrap .i64 (M+1))))
 (bT (decide ((z+1)*72≤cH∧z+1≤9223372036854775807))
 (cA J L C n S U O (Ow.own (z+1) (W++[D.str Y,D.int .i64 Z,D.str a0,D.int .i64 a1,D.int .i64 a2,D.str a3])) (Ow.own h V) (IntKind.wrap .i64 (B+1)) K (IntKind.wrap .i64 (M+1)))))):=by
 unfold bM;rw[hC]
 kernel_rfl
theorem sn(K:FuncId→List D→Option D)(L:Nat)(C:Nat→Nat)(n:Nat)(M:Bool)(B:Nat)(z:List D)(W J h:Int):cA K L C (n+1) M B z (Ow.nil) (Ow.nil) W J h=
 (bB (decide (h<J))
 (bT (decide (0≤h∧h<(B:Int)))
 (bi z (Int.toNat h*6+0) fun d=>bQ d fun s=>bi z (Int.toNat h*6+1) fun Y=>bC .i64 Y fun x=>bi z (Int.toNat h*6+2) fun Z=>bQ Z fun O=>bi z (Int.toNat h*6+3) fun a0=>bC .i64 a0 fun U=>bi z (Int.toNat h*6+4) fun a1=>bC .i64 a1 fun V=>bi z (Int.toNat h*6+5) fun a2=>bQ a2 fun S=>bB (h==0)
 (bM K L C n M B z J h (Ow.nil) (Ow.nil) 1 s x O U V S)
 (bT (decide (0≤IntKind.wrap .i64 (h-1)∧IntKind.wrap .i64 (h-1)<(B:Int)))
 (bi z (Int.toNat (IntKind.wrap .i64 (h-1))*6+0) fun a3=>bQ a3 fun a4=>bB (!ByteArray.toList a4==ByteArray.toList s)
 (bM K L C n M B z J h (Ow.nil) (Ow.nil) 1 s x O U V S)
 (bM K L C n M B z J h (Ow.nil) (Ow.nil) W s x O U V S)))))
 (some (D.tup [D.slc true 0 [],D.slc true 0 []]))):=by kernel_rfl
theorem so(O:FuncId→List D→Option D)(L:Nat)(C:Nat→Nat)(n:Nat)(U:Bool)(B:Nat)(z:List D)(M:Nat)(K:List D)(a1 J h:Int):cA O L C (n+1) U B z (Ow.nil) (Ow.own M K) a1 J h=
 (bB (decide (h<J))
 (bT (decide (0≤h∧h<(B:Int)))
 (bi z (Int.toNat h*6+0) fun a6=>bQ a6 fun S=>bi z (Int.toNat h*6+1) fun a7=>bC .i64 a7 fun Y=>bi z (Int.toNat h*6+2) fun a8=>bQ a8 fun V=>bi z (Int.toNat h*6+3) fun a2=>bC .i64 a2 fun Z=>bi z (Int.toNat h*6+4) fun a3=>bC .i64 a3 fun a0=>bi z (Int.toNat h*6+5) fun a4=>bQ a4 fun W=>bB (h==0)
 (bM O L C n U B z J h (Ow.nil) (Ow.own M K) 1 S Y V Z a0 W)
 (bT (decide (0≤IntKind.wrap .i64 (h-1)∧IntKind.wrap .i64 (h-1)<(B:Int)))
 (bi z (Int.toNat (IntKind.wrap .i64 (h-1))*6+0) fun a5=>bQ a5 fun a9=>bB (!ByteArray.toList a9==ByteArray.toList S)
 (bM O L C n U B z J h (Ow.nil) (Ow.own M K) 1 S Y V Z a0 W)
 (bM O L C n U B z J h (Ow.nil) (Ow.own M K) a1 S Y V Z a0 W)))))
 (some (D.tup [D.slc true 0 [],D.slc false M K]))):=by kernel_rfl
theorem sr(O:FuncId→List D→Option D)(L:Nat)(C:Nat→Nat)(n:Nat)(U:Bool)(B:Nat)(z:List D)(M:Nat)(K:List D)(a1 J h:Int):cA O L C (n+1) U B z (Ow.own M K) (Ow.nil) a1 J h=
 (bB (decide (h<J))
 (bT (decide (0≤h∧h<(B:Int)))
 (bi z (Int.toNat h*6+0) fun a2=>bQ a2 fun S=>bi z (Int.toNat h*6+1) fun a3=>bC .i64 a3 fun Y=>bi z (Int.toNat h*6+2) fun a4=>bQ a4 fun W=>bi z (Int.toNat h*6+3) fun a5=>bC .i64 a5 fun Z=>bi z (Int.toNat h*6+4) fun a6=>bC .i64 a6 fun a0=>bi z (Int.toNat h*6+5) fun a7=>bQ a7 fun V=>bB (h==0)
 (bM O L C n U B z J h (Ow.own M K) (Ow.nil) 1 S Y W Z a0 V)
 (bT (decide (0≤IntKind.wrap .i64 (h-1)∧IntKind.wrap .i64 (h-1)<(B:Int)))
 (bi z (Int.toNat (IntKind.wrap .i64 (h-1))*6+0) fun a8=>bQ a8 fun a9=>bB (!ByteArray.toList a9==ByteArray.toList S)
 (bM O L C n U B z J h (Ow.own M K) (Ow.nil) 1 S Y W Z a0 V)
 (bM O L C n U B z J h (Ow.own M K) (Ow.nil) a1 S Y W Z a0 V)))))
 (some (D.tup [D.slc false M K,D.slc true 0 []]))):=by kernel_rfl
theorem su(U:FuncId→List D→Option D)(L:Nat)(C:Nat→Nat)(n:Nat)(W:Bool)(B:Nat)(z:List D)(S:Nat)(O:List D)(M:Nat)(K:List D)(a3 J h:Int):cA U L C (n+1) W B z (Ow.own S O) (Ow.own M K) a3 J h=
 (bB (decide (h<J))
 (bT (decide (0≤h∧h<(B:Int)))
 (bi z (Int.toNat h*6+0) fun a4=>bQ a4 fun V=>bi z (Int.toNat h*6+1) fun a5=>bC .i64 a5 fun a2=>bi z (Int.toNat h*6+2) fun a6=>bQ a6 fun Y=>bi z (Int.toNat h*6+3) fun a7=>bC .i64 a7 fun a0=>bi z (Int.toNat h*6+4) fun a8=>bC .i64 a8 fun a1=>bi z (Int.toNat h*6+5) fun a9=>bQ a9 fun Z=>bB (h==0)
 (bM U L C n W B z J h (Ow.own S O) (Ow.own M K) 1 V a2 Y a0 a1 Z)
 (bT (decide (0≤IntKind.wrap .i64 (h-1)∧IntKind.wrap .i64 (h-1)<(B:Int)))
 (bi z (Int.toNat (IntKind.wrap .i64 (h-1))*6+0) fun aa=>bQ aa fun ab=>bB (!ByteArray.toList ab==ByteArray.toList V)
 (bM U L C n W B z J h (Ow.own S O) (Ow.own M K) 1 V a2 Y a0 a1 Z)
 (bM U L C n W B z J h (Ow.own S O) (Ow.own M K) a3 V a2 Y a0 a1 Z)))))
 (some (D.tup [D.slc false S O,D.slc false M K]))):=by kernel_rfl
theorem Gr(z:FuncId→List D→Option D)(L:Nat)(C:Nat→Nat)(J:Bool)(h:Nat)(B:List D):ct (ed z L C) O0 JT FinM.canon Tryz.f98 [D.agg [D.slc J h B]]=
 (cA z L C L J h B (Ow.nil) (Ow.nil) 1 ((h:Int)) 0):=by kernel_rfl
end Go.Pd
end
