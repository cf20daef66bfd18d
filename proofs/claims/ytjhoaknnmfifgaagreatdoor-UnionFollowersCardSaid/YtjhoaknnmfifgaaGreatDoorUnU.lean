import Derived.Test.YtjhoaknnmfifgaaGreatDoorUnQ
import Derived.Test.YtjhoaknnmfifgaaGreatDoorUnT
import Derived.Test.YtjhoaknnmfifgaaGreatDoorUnA
import Derived.KernelRfl
section
namespace Go.Pd
open Go Go.Proofs Go.RowKit
abbrev uZ(x y:List UInt8):Bool:=Go.Op.bytesLess x y
theorem lQ:∀x:List UInt8,uZ x x=false
 |[]=>rfl
 |a::x=>by
  show(decide (a<a)||(a==a&&uZ x x))=false;rw[lQ x];simp
theorem xU:∀x:List UInt8,uZ x []=false
 |[]=>rfl
 |_::_=>rfl
theorem xV:∀x y:List UInt8,uZ x y=false→uZ y x=false→x=y
 |[],[],_,_=>rfl
 |[],_::_,h,_=>by cases h
 |_::_,[],_,h=>by cases h
 |a::x,b::y,h1,h2=>by
  replace h1:(decide (a<b)||(a==b&&uZ x y))=false:=h1;replace h2:(decide (b<a)||(b==a&&uZ y x))=false:=h2;rw[zc6,decide_eq_false_iff_not,Bool.and_eq_false_iff,beq_eq_false_iff_ne] at h1 h2;have e:a=b:=UInt8.le_antisymm (UInt8.not_lt.1 h2.1) (UInt8.not_lt.1 h1.1);subst e;have i1:uZ x y=false:=h1.2.resolve_left fun h=>h rfl;have i2:uZ y x=false:=h2.2.resolve_left fun h=>h rfl;rw[xV x y i1 i2]
theorem my:∀x y z:List UInt8,uZ x y=true→uZ y z=true→uZ x z=true
 |x,[],_,h,_=>by rw[xU] at h;cases h
 |_,y::ys,[],_,h=>by rw[xU] at h;cases h
 |[],_::_,_::_,_,_=>rfl
 |a::x,b::y,c::z,h1,h2=>by
  replace h1:(decide (a<b)||(a==b&&uZ x y))=true:=h1;replace h2:(decide (b<c)||(b==c&&uZ y z))=true:=h2;show(decide (a<c)||(a==c&&uZ x z))=true;rw[Bool.or_eq_true,zc4,zc1,zd8] at h1 h2 ⊢;rcases h1 with h1|⟨rfl,h1⟩
  ·rcases h2 with h2|⟨rfl,h2⟩
   ·exact .inl (UInt8.lt_trans h1 h2)
   ·exact .inl h1
  ·rcases h2 with h2|⟨rfl,h2⟩
   ·exact .inl h2
   ·exact .inr ⟨rfl,my x y z h1 h2⟩
def k9(a b:ByteArray):Bool:=uZ (ByteArray.toList a) (ByteArray.toList b)
theorem xW{a b:ByteArray}(h1:k9 a b=false)(h2:k9 b a=false):a=b:=by
 refine sEq_iff.1 ?_;unfold fY;rw[xV _ _ h1 h2];simp
abbrev MsgV:=ByteArray×Int×ByteArray×Int×jv
def bA(m:MsgV):List D:=[.str m.1,.int .i64 m.2.1,.str m.2.2.1,.int .i64 m.2.2.2.1,.int .i64 m.2.2.2.2.1,.str m.2.2.2.2.2]
theorem gD{m m':MsgV}(h:bA m=bA m'):m=m':=by
 obtain⟨a,b,c,d,e,f⟩:=m;obtain⟨a',b',c',d',e',f'⟩:=m';simp[bA] at h;simp[h]
def cK(a b:MsgV):Bool:=k9 a.1 b.1||(fY a.1 b.1&&decide (a.2.1<b.2.1))
theorem befM_iff{a b:MsgV}:cK a b=true↔k9 a.1 b.1=true∨(a.1=b.1∧a.2.1<b.2.1):=by
 unfold cK;rw[Bool.or_eq_true,zc1,sEq_iff,zc4]
theorem Bk(a:MsgV):cK a a=false:=by
 cases h:cK a a with
 |false=>rfl
 |true=>
  rcases befM_iff.1 h with h|⟨_,h⟩
  ·rw[show k9 a.1 a.1=false from lQ _] at h;cases h
  ·omega
theorem jf{a b c:MsgV}(h1:cK a b=true)(h2:cK b c=true):cK a c=true:=by
 rcases befM_iff.1 h1 with h1|⟨e1,h1⟩<;>rcases befM_iff.1 h2 with h2|⟨e2,h2⟩
 ·exact befM_iff.2 (.inl (my _ _ _ h1 h2))
 ·exact befM_iff.2 (.inl (by rw[←e2];exact h1))
 ·exact befM_iff.2 (.inl (by rw[e1];exact h2))
 ·exact befM_iff.2 (.inr ⟨e1.trans e2,by omega⟩)
theorem qY{a b:MsgV}(h:cK a b=true):cK b a=false:=by
 cases h2:cK b a with
 |false=>rfl
 |true=>rw[jf h h2|>fun h=>(Bk a▸h:false=true)]
def fk(a b:MsgV):Bool:=fY a.1 b.1&&a.2.1==b.2.1
theorem keyQ_iff{a b:MsgV}:fk a b=true↔a.1=b.1∧a.2.1=b.2.1:=by
 unfold fk;rw[zc1,sEq_iff,zd8]
theorem xX{a b:MsgV}(h1:cK a b=false)(h2:cK b a=false):fk a b=true:=by
 have h1:¬(k9 a.1 b.1=true∨(a.1=b.1∧a.2.1<b.2.1)):=fun h=>(by rw[befM_iff.2 h] at h1;cases h1);have h2:¬(k9 b.1 a.1=true∨(b.1=a.1∧b.2.1<a.2.1)):=fun h=>(by rw[befM_iff.2 h] at h2;cases h2);have e:a.1=b.1:=xW (by cases h:k9 a.1 b.1 with|false=>rfl|true=>exact absurd (.inl h) h1) (by cases h:k9 b.1 a.1 with|false=>rfl|true=>exact absurd (.inl h) h2);have n1:¬a.2.1<b.2.1:=fun h=>h1 (.inr ⟨e,h⟩);have n2:¬b.2.1<a.2.1:=fun h=>h2 (.inr ⟨e.symm,h⟩);exact keyQ_iff.2 ⟨e,by omega⟩
theorem sy{a b:MsgV}(h:fk a b=true):cK a b=false:=by
 obtain⟨h1,h2⟩:=keyQ_iff.1 h;cases hb:cK a b with
 |false=>rfl
 |true=>
  rcases befM_iff.1 hb with h|⟨_,h⟩
  ·rw[h1,show k9 b.1 b.1=false from lQ _] at h;cases h
  ·omega
theorem uP(a b:MsgV):fk a b=fk b a:=by
 unfold fk;rw[uG,show(a.2.1==b.2.1)=(b.2.1==a.2.1) from Bool.beq_comm ..]
def yR(a b:ByteArray):Int:=bG (k9 a b) (-1) (bG (!(k9 a b||fY a b)) 1 0)
def lR(a b:MsgV):Int:=bG (yR a.1 b.1 !=0) (yR a.1 b.1) (uK a.2.1 b.2.1)
theorem mz(a b:MsgV):(cK a b=true∧lR a b= -1)∨(cK a b=false∧fk a b=true∧lR a b=0)∨(cK b a=true∧lR a b=1):=by
 unfold lR yR;cases h1:k9 a.1 b.1 with
 |true=>exact .inl ⟨befM_iff.2 (.inl h1),rfl⟩
 |false=>
  rw[bu];cases h2:fY a.1 b.1 with
  |false=>
   have:k9 b.1 a.1=true:=by
    cases h:k9 b.1 a.1 with
    |true=>rfl
    |false=>rw[xW h1 h,show fY b.1 b.1=true from sEq_iff.2 rfl] at h2;cases h2
   exact .inr (.inr ⟨befM_iff.2 (.inl this),rfl⟩)
  |true=>
   have e:=sEq_iff.1 h2;show _∨(_∧_∧uK a.2.1 b.2.1=0)∨(_∧uK a.2.1 b.2.1=1);rw[show(bG (!(false||true)) (1:Int) 0 !=0)=false from rfl,bu];unfold uK;by_cases h3:a.2.1<b.2.1
   ·exact .inl ⟨befM_iff.2 (.inr ⟨e,h3⟩),by rw[za1 h3];rfl⟩
   ·by_cases h4:a.2.1>b.2.1
    ·exact .inr (.inr ⟨befM_iff.2 (.inr ⟨e.symm,h4⟩),by rw[za2 h3,za1 h4];rfl⟩)
    ·have hk:fk a b=true:=keyQ_iff.2 ⟨e,by omega⟩;exact .inr (.inl ⟨sy hk,hk,by rw[za2 h3,za2 h4];rfl⟩)
theorem Bl(a b:MsgV):decide (lR a b<0)=cK a b:=by
 rcases mz a b with⟨h,e⟩|⟨h,_,e⟩|⟨h,e⟩
 ·rw[e,h];rfl
 ·rw[e,h];rfl
 ·rw[e,qY h];rfl
theorem Bm(a b:MsgV):decide (lR a b≥0)= !cK a b:=by
 rcases mz a b with⟨h,e⟩|⟨h,_,e⟩|⟨h,e⟩
 ·rw[e,h];rfl
 ·rw[e,h];rfl
 ·rw[e,qY h];rfl
theorem Dc(a b:MsgV):(lR a b==0)=fk a b:=by
 rcases mz a b with⟨h,e⟩|⟨_,h,e⟩|⟨h,e⟩
 ·rw[e];cases hk:fk a b with
  |false=>rfl
  |true=>rw[sy hk] at h;cases h
 ·rw[e,h];rfl
 ·rw[e];cases hk:fk a b with
  |false=>rfl
  |true=>rw[uP] at hk;rw[sy hk] at h;cases h
def dH(m:MsgV):Int:=cw [bG (!fu m.1) 8 0,bG (pR m.2.1 1 1000) 3 0,bG (!fu m.2.2.1) 8 0,bG (pR m.2.2.2.1 1 36) 3 0,ph m.2.2.2.2]
def fv(pre:List MsgV)(m:MsgV):Int:=cw [dH m,bG (match pre.getLast? with
 |some y=> !cK y m
 |none=>false) 11 0]
def jp:List MsgV→List MsgV→Int
 |_,[]=>0
 |pre,m::r=>bG (fv pre m !=0) (fv pre m) (jp (pre++[m]) r)
def bL(l:List MsgV):Int:=bG (decide ((l.length:Int)>1000)) 5 (jp [] l)
abbrev pS(l:List MsgV):Prop:=l.Pairwise fun a b=>cK a b=true
theorem Bn{pre:List MsgV}{m:MsgV}(h:pS pre)(hb:match pre.getLast? with
 |some y=>cK y m=true
 |none=>True):pS (pre++[m]):=by
 refine List.pairwise_append.2 ⟨h,List.pairwise_singleton _ _,fun a ha b hb'=> ?_⟩;rw[zc8.1 hb'];rcases List.eq_nil_or_concat pre with rfl|⟨p,y,rfl⟩
 ·cases ha
 ·rw[List.concat_eq_append] at h ha hb;rw[List.getLast?_concat] at hb;rcases za9.1 ha with ha|ha
  ·exact jf ((List.pairwise_append.1 h).2.2 a ha y (zc8.2 rfl)) hb
  ·rw[zc8.1 ha];exact hb
theorem jg{x:Int}{l:List Int}(h:cw (x::l)=0):x=0∧cw l=0:=by
 rw[show cw (x::l)=bG (x !=0) x (cw l) from rfl] at h;cases hx:x !=0 with
 |true=>rw[hx,bC] at h;rw[h] at hx;cases hx
 |false=>rw[hx,bu] at h;exact⟨by simpa using hx,h⟩
theorem Bo{a b:Int}(h:bG (a !=0) a b=0):a=0∧b=0:=by
 cases hx:a !=0 with
 |true=>rw[hx,bC] at h;rw[h] at hx;cases hx
 |false=>rw[hx,bu] at h;exact⟨by simpa using hx,h⟩
theorem kY{b:Bool}{a c:Int}(hc:c≠0)(h:bG b c a=0):b=false∧a=0:=by
 cases b with
 |true=>exact absurd h hc
 |false=>exact⟨rfl,h⟩
theorem xY:∀(r pre:List MsgV),jp pre r=0→pS pre→pS (pre++r)∧∀m∈r,dH m=0
 |[],pre,_,hp=>⟨by rw[zb3];exact hp,fun _ h=>(by cases h)⟩
 |m::r,pre,h,hp=>by
  obtain⟨h1,h2⟩:=Bo (show bG (fv pre m !=0) (fv pre m) (jp (pre++[m]) r)=0 from h);obtain⟨a1,a2⟩:=jg h1;have a2:=(kY (by decide) (jg a2).1).1;have hb:match pre.getLast? with
    |some y=>cK y m=true
    |none=>True:=by
   cases hg:pre.getLast? with
   |none=>trivial
   |some y=>rw[hg] at a2;simpa using a2
  obtain⟨q1,q2⟩:=xY r (pre++[m]) h2 (Bn hp hb);rw[za8] at q1;exact⟨q1,fun x hx=>by
   rcases List.mem_cons.1 hx with rfl|hx
   ·exact a1
   ·exact q2 x hx⟩
theorem nF{l:List MsgV}(h:bL l=0):l.length≤1000∧pS l∧∀m∈l,dH m=0:=by
 obtain⟨h1,h2⟩:=kY (by decide) (show bG (decide ((l.length:Int)>1000)) 5 (jp [] l)=0 from h);obtain⟨q1,q2⟩:=xY l [] h2 List.Pairwise.nil;exact⟨by simp at h1;omega,q1,q2⟩
theorem uQ{m:MsgV}(h:dH m=0):1≤m.2.1∧m.2.1≤1000∧fu m.1=true∧fu m.2.2.1=true∧1≤m.2.2.2.1∧m.2.2.2.1≤36∧ph m.2.2.2.2=0:=by
 obtain⟨a1,h⟩:=jg h;obtain⟨a2,h⟩:=jg h;obtain⟨a3,h⟩:=jg h;obtain⟨a4,h⟩:=jg h;obtain⟨a5,_⟩:=jg h;have a1:=(kY (by decide) a1).1;have a2:=(kY (by decide) a2).1;have a3:=(kY (by decide) a3).1;have a4:=(kY (by decide) a4).1;unfold pR at a2 a4;simp at a1 a2 a3 a4;exact⟨by omega,by omega,a1,a3,by omega,by omega,a5⟩
def py(a b:MsgV):Bool:=fY a.1 b.1&&(a.2.1==b.2.1&&(fY a.2.2.1 b.2.2.1&&(a.2.2.2.1==b.2.2.2.1&&(a.2.2.2.2.1==b.2.2.2.2.1&&(fY a.2.2.2.2.2 b.2.2.2.2.2&&true)))))
theorem msgQ_iff{a b:MsgV}:py a b=true↔a=b:=by
 obtain⟨a1,a2,a3,a4,a5,a6⟩:=a;obtain⟨b1,b2,b3,b4,b5,b6⟩:=b;unfold py;simp only[zc1,sEq_iff,zd8,zb2,and_true]
def ew(l:List MsgV)(x:MsgV):List MsgV:=l.takeWhile fun y=>cK y x
def fH(l:List MsgV)(x:MsgV):List MsgV:=l.dropWhile fun y=>cK y x
theorem bb(l:List MsgV)(x:MsgV):ew l x++fH l x=l:=List.takeWhile_append_dropWhile
def jh(l:List MsgV)(x:MsgV):Option (List MsgV):=match fH l x with
 |[]=>some (l++[x])
 |y::r=>(match fk y x with
  |true=>(match py y x with
   |true=>some l
   |false=>none)
  |false=>some (ew l x++x::y::r))
def mU:List MsgV→List MsgV→Option (List MsgV)
 |a,[]=>some a
 |a,x::b=>(match jh a x with
  |some a'=>mU a' b
  |none=>none)
theorem qZ{l:List MsgV}{x y:MsgV}{r:List MsgV}(h:fH l x=y::r):cK y x=false:=by
 have:=List.head?_dropWhile_not (fun y=>cK y x) l;unfold fH at h;rw[h] at this;simpa using this
theorem De{l:List MsgV}{x y:MsgV}{r:List MsgV}(hl:pS l)(h:fH l x=y::r)(hk:fk y x=false):∀z∈y::r,cK x z=true:=by
 have h1:=qZ h;have hxy:cK x y=true:=by
  cases hx:cK x y with
  |true=>rfl
  |false=>rw[xX h1 hx] at hk;cases hk
 have hl2:pS (ew l x++fH l x):=by rw[bb];exact hl
 have hr:=(List.pairwise_append.1 hl2).2.1;rw[h] at hr;intro z hz;rcases List.mem_cons.1 hz with rfl|hz
 ·exact hxy
 ·exact jf hxy ((List.pairwise_cons.1 hr).1 z hz)
theorem pz{l:List MsgV}{x:MsgV}:∀z∈ew l x,cK z x=true:=by
 intro z hz;have:∀(l:List MsgV),z∈l.takeWhile (fun y=>cK y x)→cK z x=true:=fun l=>by
  induction l with
  |nil=>intro h;cases h
  |cons y l ih=>
   intro h;rw[List.takeWhile_cons] at h;cases hy:cK y x with
   |false=>rw[hy] at h;cases h
   |true=>
    rw[hy] at h;rcases List.mem_cons.1 h with rfl|h
    ·exact hy
    ·exact ih h
 exact this l hz
theorem Df{l l':List MsgV}{x:MsgV}(hl:pS l)(h:jh l x=some l'):pS l'∧l'.length≤l.length+1∧∀z,z∈l'↔z∈l∨z=x:=by
 unfold jh at h;have hb:=bb l x;split at h
 ·rename_i he;cases h;rw[he,zb3] at hb;refine⟨List.pairwise_append.2 ⟨hl,List.pairwise_singleton _ _,fun a ha b hb'=> ?_⟩,by simp,fun z=>by simp⟩;rw[zc8.1 hb'];exact pz a (by rw[hb];exact ha)
 ·rename_i y r he;split at h
  ·rename_i hk;split at h
   ·rename_i hq;cases h;have e:=msgQ_iff.1 hq;subst e;exact⟨hl,by omega,fun z=>⟨.inl,fun h=>h.elim id fun h=>by rw[h,←hb,he];simp⟩⟩
   ·cases h
  ·rename_i hk;cases h;have hl2:pS (ew l x++fH l x):=by rw[hb];exact hl
   obtain⟨q1,q2,q3⟩:=List.pairwise_append.1 hl2;have hlt:=De hl he hk;rw[he] at q2 q3 hb;refine⟨List.pairwise_append.2 ⟨q1,List.pairwise_cons.2 ⟨hlt,q2⟩,fun a ha b hb'=> ?_⟩,?_,fun z=> ?_⟩
   ·rcases List.mem_cons.1 hb' with rfl|hb'
    ·exact pz a ha
    ·exact q3 a ha b hb'
   ·have:=congrArg List.length hb;simp at this ⊢;omega
   ·have:z∈l↔z∈ew l x++y::r:=by rw[hb]
    rw[this];simp;constructor
    ·rintro (h|h|h|h)
     ·exact .inl (.inl h)
     ·exact .inr h
     ·exact .inl (.inr (.inl h))
     ·exact .inl (.inr (.inr h))
    ·rintro ((h|h|h)|h)
     ·exact .inl h
     ·exact .inr (.inr (.inl h))
     ·exact .inr (.inr (.inr h))
     ·exact .inr (.inl h)
abbrev gn:=ByteArray×Int
def cX(g:gn):List D:=[.str g.1,.int .i64 g.2]
def nx(p:Option MsgV)(k:Int)(m:MsgV):Int:=match p with
 |none=>1
 |some y=>bG (fY y.1 m.1) k 1
def dK:Option MsgV→Int→List MsgV→List MsgV
 |_,_,[]=>[]
 |p,k,m::r=>bG (nx p k m==0) (dK (some m) 0 r) (bG (m.2.1 !=nx p k m) (dK (some m) 0 r) (m::dK (some m) (nx p k m+1) r))
def dC:Option MsgV→Int→List MsgV→List gn
 |_,_,[]=>[]
 |p,k,m::r=>bG (nx p k m==0) (dC (some m) 0 r) (bG (m.2.1 !=nx p k m) ((m.1,nx p k m)::dC (some m) 0 r) (dC (some m) (nx p k m+1) r))
def nG:Option MsgV→Int→List MsgV→List MsgV
 |_,_,[]=>[]
 |p,k,m::r=>bG (m.2.1==nx p k m) (m::nG (some m) (nx p k m+1) r) (nG (some m) (nx p k m) r)
def uR(p:Option MsgV)(m:MsgV):Int:=match p with
 |none=>0
 |some y=>bG (fY y.1 m.1) y.2.1 0
def ji(last:Option gn)(m:MsgV):Bool:=match last with
 |none=>true
 |some g=> !fY g.1 m.1
def pT:Option MsgV→Option gn→List MsgV→List gn
 |_,_,[]=>[]
 |p,last,m::r=>bG (m.2.1 !=uR p m+1&&ji last m) ((m.1,uR p m+1)::pT (some m) (some (m.1,uR p m+1)) r) (pT (some m) last r)
def After(p:Option MsgV)(l:List MsgV):Prop:=pS l∧(∀m∈l,1≤m.2.1)∧match p with
 |none=>True
 |some y=>1≤y.2.1∧∀m∈l,cK y m=true
theorem After.tail{p:Option MsgV}{m:MsgV}{r:List MsgV}(h:After p (m::r)):After (some m) r:=by
 obtain⟨h1,h2,_⟩:=h;exact⟨(List.pairwise_cons.1 h1).2,fun x hx=>h2 x (za5 _ hx),h2 m (za4 ..),(List.pairwise_cons.1 h1).1⟩
theorem Dg{y m:MsgV}(h:cK y m=true)(hd:fY y.1 m.1=true):y.2.1<m.2.1:=by
 rcases befM_iff.1 h with h|⟨_,h⟩
 ·rw[sEq_iff.1 hd,show k9 m.1 m.1=false from lQ _] at h;cases h
 ·exact h
theorem xZ:∀(l:List MsgV) (p:Option MsgV) (k:Int),After p l→(match p with|none=>k=1|some y=>k=y.2.1+1)→dK p k l=nG p k l∧∀k',(match p with|none=>False|some y=>1≤k'∧k'≤y.2.1)→dK p 0 l=nG p k' l
 |[],_,_,_,_=>⟨rfl,fun _ _=>rfl⟩
 |m::r,p,k,ha,hk=>by
  have hm:1≤m.2.1:=ha.2.1 m (za4 ..);have step:∀(q:Int),1≤q→(dK (some m) 0 r=nG (some m) q r∨¬(q≤m.2.1))∧dK (some m) (m.2.1+1) r=nG (some m) (m.2.1+1) r:=fun q hq=>by
   obtain⟨i1,i2⟩:=xZ r (some m) (m.2.1+1) ha.tail rfl;refine⟨?_,i1⟩;by_cases hle:q≤m.2.1
   ·exact .inl (i2 q ⟨hq,hle⟩)
   ·exact .inr hle
  have take:∀(q:Int),1≤q→q≤m.2.1→bG (q==0) (dK (some m) 0 r) (bG (m.2.1 !=q) (dK (some m) 0 r) (m::dK (some m) (q+1) r))=bG (m.2.1==q) (m::nG (some m) (q+1) r) (nG (some m) q r):=fun q hq hle=>by
   rw[show(q==0)=false from beq_eq_false_iff_ne.2 (by omega),bu];obtain⟨s1,s2⟩:=step q hq;by_cases he:m.2.1=q
   ·rw[show(m.2.1 !=q)=false by simp[he],show(m.2.1==q)=true by simp[he],bu,bC,←he,s2]
   ·rw[show(m.2.1 !=q)=true by simp[he],show(m.2.1==q)=false by simp[he],bC,bu];exact s1.resolve_right fun h=>h hle
  cases p with
  |none=>
   refine⟨?_,fun _ h=>h.elim⟩;exact take 1 (by omega) hm
  |some y=>
   obtain⟨hy1,hy2⟩:=ha.2.2;have hb:=hy2 m (za4 ..);cases hd:fY y.1 m.1 with
   |true=>
    have hgt:=Dg hb hd;have e:∀q,nx (some y) q m=q:=fun q=>by show bG (fY y.1 m.1) q 1=q;rw[hd];rfl
    refine⟨?_,fun k' hk'=> ?_⟩
    ·show bG (nx (some y) k m==0) _ (bG (m.2.1 !=nx (some y) k m) _ (m::dK (some m) (nx (some y) k m+1) r))=bG (m.2.1==nx (some y) k m) (m::nG (some m) (nx (some y) k m+1) r) (nG (some m) (nx (some y) k m) r);rw[e];have hk:k=y.2.1+1:=hk;exact take k (by omega) (by omega)
    ·show bG (nx (some y) 0 m==0) _ _=bG (m.2.1==nx (some y) k' m) (m::nG (some m) (nx (some y) k' m+1) r) (nG (some m) (nx (some y) k' m) r);have hk':1≤k'∧k'≤y.2.1:=hk';rw[e,e,show((0:Int)==0)=true from rfl,bC,show(m.2.1==k')=false from beq_eq_false_iff_ne.2 (by omega),bu];exact(step k' hk'.1).1.resolve_right fun h=>h (by omega)
   |false=>
    have e:∀q,nx (some y) q m=1:=fun q=>by show bG (fY y.1 m.1) q 1=1;rw[hd];rfl
    refine⟨?_,fun k' hk'=> ?_⟩
    ·show bG (nx (some y) k m==0) _ (bG (m.2.1 !=nx (some y) k m) _ (m::dK (some m) (nx (some y) k m+1) r))=bG (m.2.1==nx (some y) k m) (m::nG (some m) (nx (some y) k m+1) r) (nG (some m) (nx (some y) k m) r);rw[e];exact take 1 (by omega) hm
    ·show bG (nx (some y) 0 m==0) _ (bG (m.2.1 !=nx (some y) 0 m) _ (m::dK (some m) (nx (some y) 0 m+1) r))=bG (m.2.1==nx (some y) k' m) (m::nG (some m) (nx (some y) k' m+1) r) (nG (some m) (nx (some y) k' m) r);rw[e,e];exact take 1 (by omega) hm
theorem wY{l:List MsgV}(h:pS l)(hn:∀m∈l,1≤m.2.1):dK none 1 l=nG none 1 l:=(xZ l none 1 ⟨h,hn,trivial⟩ rfl).1
theorem Bp{a b:ByteArray}(h:k9 a b=true):fY a b=false:=by
 cases he:fY a b with
 |false=>rfl
 |true=>rw[sEq_iff.1 he,show k9 b b=false from lQ _] at h;cases h
theorem Bq{y m:MsgV}(h:cK y m=true)(hd:fY y.1 m.1=false):k9 y.1 m.1=true:=by
 rcases befM_iff.1 h with h|⟨e,_⟩
 ·exact h
 ·rw[sEq_iff.2 e] at hd;cases hd
def Last(y:MsgV)(last:Option gn):Prop:=match last with
 |none=>True
 |some g=>k9 g.1 y.1=true
theorem Last.new{y m:MsgV}{last:Option gn}(h:Last y last)(hd:fY y.1 m.1=true):ji last m=true∧Last m last:=by
 cases last with
 |none=>exact⟨rfl,trivial⟩
 |some g=>
  have hg:k9 g.1 y.1=true:=h;rw[sEq_iff.1 hd] at hg;exact⟨by show(!fY g.1 m.1)=true;rw[Bp hg];rfl,hg⟩
theorem nH:∀(l:List MsgV) (p:Option MsgV) (last:Option gn),After p l→
  ((match p with|none=>last=none|some y=>Last y last)→dC p (match p with|none=>1|some y=>y.2.1+1) l=pT p last l)∧
  ((match p,last with|some y,some g=>g.1=y.1|_,_=>False)→dC p 0 l=pT p last l)
 |[],_,_,_=>⟨fun _=>rfl,fun _=>rfl⟩
 |m::r,p,last,ha=>by
  have hm:1≤m.2.1:=ha.2.1 m (za4 ..);have take:∀(q:Int) (last:Option gn),1≤q→ji last m=true→Last m last→bG (q==0) (dC (some m) 0 r) (bG (m.2.1 !=q) ((m.1,q)::dC (some m) 0 r) (dC (some m) (q+1) r))=bG (m.2.1 !=(q-1)+1&&ji last m) ((m.1,(q-1)+1)::pT (some m) (some (m.1,(q-1)+1)) r) (pT (some m) last r):=fun q last hq hn hl=>by
   rw[show(q==0)=false from beq_eq_false_iff_ne.2 (by omega),bu,hn,Bool.and_true,show q-1+1=q by omega];cases he:m.2.1 !=q with
   |true=>
    rw[bC,bC]
    congr 1
    exact(nH r (some m) (some (m.1,q)) ha.tail).2 rfl
   |false=>
    rw[bu,bu];have he:m.2.1=q:=by simpa using he
    rw[←he];exact(nH r (some m) last ha.tail).1 hl
  cases p with
  |none=>
   refine⟨fun hl=> ?_,fun h=>(by cases last<;>exact h.elim)⟩;have hl:last=none:=hl;subst hl;exact take 1 none (by omega) rfl trivial
  |some y=>
   obtain⟨hy1,hy2⟩:=ha.2.2;have hb:=hy2 m (za4 ..);cases hd:fY y.1 m.1 with
   |true=>
    have e:∀q,nx (some y) q m=q:=fun q=>by show bG (fY y.1 m.1) q 1=q;rw[hd];rfl
    have eb:uR (some y) m=y.2.1:=by show bG (fY y.1 m.1) y.2.1 0=_;rw[hd];rfl
    refine⟨fun hl=> ?_,fun h=> ?_⟩
    ·obtain⟨n1,n2⟩:=Last.new hl hd;have:=take (y.2.1+1) last (by omega) n1 n2;rw[show y.2.1+1-1=y.2.1 by omega] at this;show bG (nx (some y) (y.2.1+1) m==0) _ (bG (m.2.1 !=nx (some y) (y.2.1+1) m) ((m.1,nx (some y) (y.2.1+1) m)::dC (some m) 0 r) (dC (some m) (nx (some y) (y.2.1+1) m+1) r))=bG (m.2.1 !=uR (some y) m+1&&ji last m) ((m.1,uR (some y) m+1)::pT (some m) (some (m.1,uR (some y) m+1)) r) (pT (some m) last r);rw[e,eb];exact this
    ·cases last with
     |none=>exact h.elim
     |some g=>
      have h:g.1=y.1:=h;have hg:g.1=m.1:=h.trans (sEq_iff.1 hd);show bG (nx (some y) 0 m==0) _ _=bG (m.2.1 !=uR (some y) m+1&& !fY g.1 m.1) _ (pT (some m) (some g) r);rw[e,show((0:Int)==0)=true from rfl,bC,sEq_iff.2 hg,Bool.not_true,Bool.and_false,bu];exact(nH r (some m) (some g) ha.tail).2 hg
   |false=>
    have e:∀q,nx (some y) q m=1:=fun q=>by show bG (fY y.1 m.1) q 1=1;rw[hd];rfl
    have eb:uR (some y) m=0:=by show bG (fY y.1 m.1) y.2.1 0=_;rw[hd];rfl
    have hlt:=Bq hb hd;have fin:∀k,(∀g,last=some g→k9 g.1 m.1=true)→dC (some y) k (m::r)=pT (some y) last (m::r):=fun k hg=>by
     show bG (nx (some y) k m==0) _ (bG (m.2.1 !=nx (some y) k m) ((m.1,nx (some y) k m)::dC (some m) 0 r) (dC (some m) (nx (some y) k m+1) r))=bG (m.2.1 !=uR (some y) m+1&&ji last m) ((m.1,uR (some y) m+1)::pT (some m) (some (m.1,uR (some y) m+1)) r) (pT (some m) last r);rw[e,eb];refine take 1 last (by omega) ?_ ?_
     ·cases last with
      |none=>rfl
      |some g=>show(!fY g.1 m.1)=true;rw[Bp (hg g rfl)];rfl
     ·cases last with
      |none=>trivial
      |some g=>exact hg g rfl
    refine⟨fun hl=>fin _ fun g hg=> ?_,fun h=>fin _ fun g hg=> ?_⟩
    ·subst hg;exact my _ _ _ hl hlt
    ·subst hg;have h:g.1=y.1:=h;rw[h];exact hlt
theorem yS{l:List MsgV}(h:pS l)(hn:∀m∈l,1≤m.2.1):dC none 1 l=pT none none l:=(nH l none none ⟨h,hn,trivial⟩).1 rfl
end Go.Pd
end
section
namespace Go.Pd
open Go Go.Proofs Go.RowKit
set_option maxRecDepth 100000
section
variable {γ:Type}(c:D→Option γ)
theorem g0(pre:List MsgV)(x:MsgV)(r:List MsgV):br ((pre++x::r).flatMap bA) (Int.toNat (pre.length:Int)*6+0) c=c (.str x.1):=ct pre x r bA 6 (fun _=>rfl) 0 (by omega) c
theorem g1(pre:List MsgV)(x:MsgV)(r:List MsgV):br ((pre++x::r).flatMap bA) (Int.toNat (pre.length:Int)*6+1) c=c (.int .i64 x.2.1):=ct pre x r bA 6 (fun _=>rfl) 1 (by omega) c
theorem g2(pre:List MsgV)(x:MsgV)(r:List MsgV):br ((pre++x::r).flatMap bA) (Int.toNat (pre.length:Int)*6+2) c=c (.str x.2.2.1):=ct pre x r bA 6 (fun _=>rfl) 2 (by omega) c
theorem g3(pre:List MsgV)(x:MsgV)(r:List MsgV):br ((pre++x::r).flatMap bA) (Int.toNat (pre.length:Int)*6+3) c=c (.int .i64 x.2.2.2.1):=ct pre x r bA 6 (fun _=>rfl) 3 (by omega) c
theorem g4(pre:List MsgV)(x:MsgV)(r:List MsgV):br ((pre++x::r).flatMap bA) (Int.toNat (pre.length:Int)*6+4) c=c (.int .i64 x.2.2.2.2.1):=ct pre x r bA 6 (fun _=>rfl) 4 (by omega) c
theorem g5(pre:List MsgV)(x:MsgV)(r:List MsgV):br ((pre++x::r).flatMap bA) (Int.toNat (pre.length:Int)*6+5) c=c (.str x.2.2.2.2.2):=ct pre x r bA 6 (fun _=>rfl) 5 (by omega) c
theorem jw(pre:List MsgV)(x:MsgV)(r:List MsgV)(c:ByteArray→Int→ByteArray→Int→Int→ByteArray→Option γ):
  (br ((pre++x::r).flatMap bA) (Int.toNat (pre.length:Int)*6+0) fun d=>bN d fun s=>br ((pre++x::r).flatMap bA) (Int.toNat (pre.length:Int)*6+1) fun d_1=>bH IntKind.i64 d_1 fun x0=>br ((pre++x::r).flatMap bA) (Int.toNat (pre.length:Int)*6+2) fun d_2=>bN d_2 fun s_1=>br ((pre++x::r).flatMap bA) (Int.toNat (pre.length:Int)*6+3) fun d_3=>bH IntKind.i64 d_3 fun x_1=>br ((pre++x::r).flatMap bA) (Int.toNat (pre.length:Int)*6+4) fun d_4=>bH IntKind.i64 d_4 fun x_2=>br ((pre++x::r).flatMap bA) (Int.toNat (pre.length:Int)*6+5) fun d_5=>bN d_5 fun s_2=>c s x0 s_1 x_1 x_2 s_2)=c x.1 x.2.1 x.2.2.1 x.2.2.2.1 x.2.2.2.2.1 x.2.2.2.2.2:=by
 rw[g0,cW,g1,bD,g2,cW,g3,bD,g4,bD,g5,cW]
end
theorem nJ(x y:Int):cw [x,y]=bG (x !=0) x y:=by
 show bG (x !=0) x (bG (y !=0) y 0)=_
 congr 1
 cases h:y !=0 with
 |true=>rfl
 |false=>simp at h;rw[h];rfl
theorem Iw(s:ByteArray):ci 272 [.str s] (.bool false):=
 jY dA Tryz.func272 (ord:=O0) (N:=N0) (by kernel_rfl) ((C9 _ _ _ s).trans (by rw[show(ByteArray.toList s==ByteArray.toList s)=true by simp];rfl))
theorem Ix(a b:ByteArray):ci 217 [.str a,.str b] (.int .i64 (yR a b)):=by
 obtain⟨B,hB,hF⟩:=sr [⟨272,ByteArray,fun s=>[.str s],fun _=> .bool false⟩] ⟨⟨Iw,fun _ _ _=>rfl⟩,trivial⟩ rfl;have e:∀s:ByteArray,B 272 [.str s]=some (.bool false):=hF.1;refine jY hB Tryz.func217 (ord:=O0) (N:=N0) (by kernel_rfl) ((C8 _ _ _ a b).trans ?_);rw[e,bv,bP,e,bv,bP,bu,bu];show bG (k9 a b) _ (bG (!(k9 a b||fY a b)) _ _)=some (D.int .i64 (bG (k9 a b) _ (bG (!(k9 a b||fY a b)) _ _)));cases k9 a b<;>cases fY a b<;>rfl
theorem Iy(a b:MsgV):ci 146 [.agg (bA a),.agg (bA b)] (.int .i64 (lR a b)):=by
 obtain⟨B,hB,hF⟩:=sr [one 217 [.str a.1,.str b.1] (.int .i64 (yR a.1 b.1)),fa101,fa163] ⟨cP (Ix a.1 b.1),wT,wU,trivial⟩ rfl;have e0:B 217 [.str a.1,.str b.1]=some (.int .i64 (yR a.1 b.1)):=hF.1 ();have e1:∀x y:Int,B 101 [.int .i64 x,.int .i64 y]=some (.int .i64 (uK x y)):=fun x y=>hF.2.1 (x,y);have e2:∀x y:Int,B 163 [.slc true 2 [.int .i64 x,.int .i64 y]]=some (.int .i64 (cw [x,y])):=fun x y=>hF.2.2.1 (x,y);refine jY hB Tryz.func146 (ord:=O0) (N:=N0) (by kernel_rfl) ((C7 _ _ _ a.1 a.2.1 a.2.2.1 a.2.2.2.1 a.2.2.2.2.1 a.2.2.2.2.2 b.1 b.2.1 b.2.2.1 b.2.2.2.1 b.2.2.2.2.1 b.2.2.2.2.2).trans ?_);rw[e0,bv,bD,e1,bv,bD,e2,bv,bD,nJ];rfl
theorem uS{x y:MsgV×MsgV}(h:[D.agg (bA x.1),D.agg (bA x.2)]=[D.agg (bA y.1),D.agg (bA y.2)]):x=y:=by
 simp only[zc2,and_true,D.agg.injEq] at h;exact Prod.ext (gD h.1) (gD h.2)
def fa146:Fam:=⟨146,MsgV×MsgV,fun x=>[.agg (bA x.1),.agg (bA x.2)],fun x=> .int .i64 (lR x.1 x.2)⟩
theorem pA:fa146.Good:=⟨fun x=>Iy x.1 x.2,fun i j h=>by rw[uS h]⟩
theorem Iz(a b:MsgV):ci 104 [.agg (bA a),.agg (bA b)] (.bool (cK a b)):=by
 refine jY dA Tryz.func104 (ord:=O0) (N:=N0) (by kernel_rfl) ((C6 _ _ _ a.1 a.2.1 a.2.2.1 a.2.2.2.1 a.2.2.2.2.1 a.2.2.2.2.2 b.1 b.2.1 b.2.2.1 b.2.2.2.1 b.2.2.2.2.1 b.2.2.2.2.2).trans ?_);show bG (k9 a.1 b.1) _ (bG (fY a.1 b.1) _ _)=some (D.bool (k9 a.1 b.1||(fY a.1 b.1&&decide (a.2.1<b.2.1))));cases k9 a.1 b.1<;>cases fY a.1 b.1<;>rfl
def fa104:Fam:=⟨104,MsgV×MsgV,fun x=>[.agg (bA x.1),.agg (bA x.2)],fun x=> .bool (cK x.1 x.2)⟩
theorem pB:fa104.Good:=⟨fun x=>Iz x.1 x.2,fun i j h=>by rw[uS h]⟩
def MsgV.Fit(m:MsgV):Prop:=m.1.size≤1000∧m.2.2.1.size≤1000
theorem J2(m:MsgV)(hm:m.Fit):ci 66 [.agg (bA m)] (.int .i64 (dH m)):=by
 obtain⟨B,hB,hF⟩:=sr [fa111,fa119,fa118,fa147,fa87] ⟨wQ,je,pi,wO,iC,trivial⟩ rfl;obtain⟨a1,a2,a3,a4,a5,_⟩:=hF;have e1:B 111 [.str m.1]=some (.bool (fu m.1)):=a1 ⟨m.1,by have:=hm.1;omega⟩;have e1':B 111 [.str m.2.2.1]=some (.bool (fu m.2.2.1)):=a1 ⟨m.2.2.1,by have:=hm.2;omega⟩;have e2:∀(b:Bool) (e:Int),B 119 [.bool b,.int .i64 e]=some (.int .i64 (bG b e 0)):=fun b e=>a2 (b,e);have e3:∀n a b:Int,B 118 [.int .i64 n,.int .i64 a,.int .i64 b]=some (.bool (pR n a b)):=fun n a b=>a3 (n,a,b);have e4:B 147 [.agg [.int .i64 m.2.2.2.2.1,.str m.2.2.2.2.2]]=some (.int .i64 (ph m.2.2.2.2)):=a4 m.2.2.2.2;have e5:∀l:List Int,l.length≤100→B 87 [.slc true l.length (m7 l)]=some (.int .i64 (cw l)):=fun l hl=>a5 ⟨l,hl⟩;have e6:∀a b c d e:Int,B 87 [.slc true 5 [.int .i64 a,.int .i64 b,.int .i64 c,.int .i64 d,.int .i64 e]]=some (.int .i64 (cw [a,b,c,d,e])):=fun a b c d e=>e5 [a,b,c,d,e] (by simp);refine jY hB Tryz.func66 (ord:=O0) (N:=N0) (by kernel_rfl) ((Fs _ _ _ m.1 m.2.1 m.2.2.1 m.2.2.2.1 m.2.2.2.2.1 m.2.2.2.2.2).trans ?_);rw[e1,bv,bP,e2,bv,bD,e3,bv,bP,e2,bv,bD,e1',bv,bP,e2,bv,bD,e3,bv,bP,e2,bv,bD,e4,bv,bD,e6,bv,bD];rfl
def IA:={m:MsgV//m.Fit}
def fa66:Fam:=⟨66,IA,fun m=>[.agg (bA m.1)],fun m=> .int .i64 (dH m.1)⟩
theorem mA:fa66.Good:=⟨fun m=>J2 m.1 m.2,fun i j h=>by
 have h:[D.agg (bA i.1)]=[D.agg (bA j.1)]:=h;simp only[zc2,and_true,D.agg.injEq] at h;show D.int .i64 (dH i.1)= .int .i64 (dH j.1);rw[gD h]⟩
theorem J3(m:MsgV):ci 64 [.agg (bA m)] (.int .i64 (dH m)):=by
 obtain⟨B,hB,hF⟩:=sr [fa80,fa145] ⟨yN,wP,trivial⟩ rfl;have e1:∀s:ByteArray,B 80 [.str s]=some (.bool (fu s)):=hF.1;have e2:B 145 [.agg [.int .i64 m.2.2.2.2.1,.str m.2.2.2.2.2]]=some (.int .i64 (ph m.2.2.2.2)):=hF.2.1 m.2.2.2.2;refine jY hB Tryz.func64 (ord:=O0) (N:=N0) (by kernel_rfl) ((Fr _ _ _ m.1 m.2.1 m.2.2.1 m.2.2.2.1 m.2.2.2.2.1 m.2.2.2.2.2).trans ?_);rw[e1,bv,bP,e1,bv,bP,e2,bv,bD];unfold dH pR;have z:∀x:Int,bG (x !=0) x 0=x:=fun x=>by
  by_cases h:x=0
  ·rw[h];rfl
  ·rw[show(x !=0)=true by simpa using h];rfl
 show _=some (D.int .i64 (bG (bG (!fu m.1) (8:Int) 0 !=0) _ (bG (bG (decide (m.2.1<1)||decide (m.2.1>1000)) (3:Int) 0 !=0) _ (bG (bG (!fu m.2.2.1) (8:Int) 0 !=0) _ (bG (bG (decide (m.2.2.2.1<1)||decide (m.2.2.2.1>36)) (3:Int) 0 !=0) _ (bG (ph m.2.2.2.2 !=0) (ph m.2.2.2.2) 0))))));rw[z];cases fu m.1<;>cases decide (m.2.1<1)<;>cases decide (m.2.1>1000)<;>cases fu m.2.2.1<;>cases decide (m.2.2.2.1<1)<;>cases decide (m.2.2.2.1>36)<;>rfl
def fa64:Fam:=⟨64,MsgV,fun m=>[.agg (bA m)],fun m=> .int .i64 (dH m)⟩
theorem ra:fa64.Good:=⟨J3,fun i j h=>by
 have h:[D.agg (bA i)]=[D.agg (bA j)]:=h;simp only[zc2,and_true,D.agg.injEq] at h;rw[gD h]⟩
theorem J4{B:FuncId→List D→Option D}{l:List MsgV}{f:Bool}(hl:l.length≤100000)(h66:∀m:IA,B 66 [.agg (bA m.1)]=some (.int .i64 (dH m.1)))(h146:∀x:MsgV×MsgV,B 146 [.agg (bA x.1),.agg (bA x.2)]=some (.int .i64 (lR x.1 x.2)))
  (h119:∀(b:Bool) (e:Int),B 119 [.bool b,.int .i64 e]=some (.int .i64 (bG b e 0))) (h87:∀a b:Int,B 87 [.slc true 2 [.int .i64 a,.int .i64 b]]=some (.int .i64 (cw [a,b]))):
  ∀(r pre:List MsgV) (fuel:Nat),l=pre++r→(∀m∈r,m.Fit)→r.length<fuel→mq B LL C1 fuel f l.length (l.flatMap bA) l.length (pre.length:Int)=some (.int .i64 (jp pre r)):=by
 intro r
 induction r with
 |nil=>
  intro pre fuel hp _ hf;cases fuel with
  |zero=>exact absurd hf (Nat.not_lt_zero _)
  |succ fuel=>
   rw[zb3] at hp;rw[qV,show decide ((pre.length:Int)<(l.length:Int))=false by rw[hp];simp,bu];rfl
 |cons x r ih=>
  intro pre fuel hp hfit hf;cases fuel with
  |zero=>exact absurd hf (Nat.not_lt_zero _)
  |succ fuel=>
   have ih:=ih (pre++[x]) fuel (by rw[hp];simp) (fun m hm=>hfit m (za5 _ hm)) (by simp at hf;omega);have hpl:pre.length+1≤l.length:=by rw[hp];simp
   have l0:decide ((pre.length:Int)<(l.length:Int))=true:=by simp;omega
   have l1:decide ((0:Int)≤(pre.length:Int)∧(pre.length:Int)<(l.length:Int))=true:=by simp;omega
   have hst:IntKind.wrap .i64 ((pre.length:Int)+1)=((pre++[x]).length:Int):=by rw[c6 (by omega)];simp
   have e66:B 66 [.agg [.str x.1,.int .i64 x.2.1,.str x.2.2.1,.int .i64 x.2.2.2.1,.int .i64 x.2.2.2.2.1,.str x.2.2.2.2.2]]=some (.int .i64 (dH x)):=h66 ⟨x,hfit x (za4 ..)⟩;have hg:jp pre (x::r)=bG (fv pre x !=0) (fv pre x) (jp (pre++[x]) r):=rfl;rw[qV,l0,bC,l1,bz];subst hp;rw[jw pre x r,e66,bv,bD];rcases List.eq_nil_or_concat pre with rfl|⟨p,y,rfl⟩
   ·rw[show decide ((([]:List MsgV).length:Int)>0)=false from rfl,bu,h119,bv,bD,h87,bv,bD,hst,ih,hg];show bG (fv [] x !=0) _ _=_;cases fv [] x !=0<;>rfl
   ·rw[List.concat_eq_append] at*;have hw:IntKind.wrap .i64 (((p++[y]).length:Int)-1)=(p.length:Int):=by rw[c6 (by omega)];simp
    have d0:decide (((p++[y]).length:Int)>0)=true:=by simp only[za6,zc4];simp
    have d1:decide ((0:Int)≤(p.length:Int)∧(p.length:Int)<((p++[y]++x::r).length:Int))=true:=by simp;omega
    have e146:B 146 [.agg [.str y.1,.int .i64 y.2.1,.str y.2.2.1,.int .i64 y.2.2.2.1,.int .i64 y.2.2.2.2.1,.str y.2.2.2.2.2],.agg [.str x.1,.int .i64 x.2.1,.str x.2.2.1,.int .i64 x.2.2.2.1,.int .i64 x.2.2.2.2.1,.str x.2.2.2.2.2]]=some (.int .i64 (lR y x)):=h146 (y,x);have hE:fv (p++[y]) x=cw [dH x,bG (!cK y x) 11 0]:=by
     unfold fv;rw[List.getLast?_concat]
    rw[d0,bC,hw,d1,bz];rw[show(p++[y]++x::r)=p++y::(x::r) by simp,jw p y (x::r),e146,bv,bD,Bm,h119,bv,bD,h87,bv,bD,hst];rw[show(p++[y]++x::r)=p++y::(x::r) by simp] at ih;rw[ih,hg,hE];cases cw [dH x,bG (!cK y x) 11 0] !=0<;>rfl
theorem Dh{f:Bool}(l:List MsgV)(hl:l.length≤100000)(hf:∀m∈l,m.Fit):ci 65 [.agg [.slc f l.length (l.flatMap bA)]] (.int .i64 (bL l)):=by
 obtain⟨B,hB,hF⟩:=sr [fa66,fa146,fa119,fa87] ⟨mA,pA,je,iC,trivial⟩ rfl;obtain⟨a1,a2,a3,a4,_⟩:=hF;refine jY hB Tryz.func65 (ord:=O0) (N:=JY) (by kernel_rfl) ((Ft _ _ _ f _ _).trans ?_);rw[show mq B LL C1 LL f l.length (l.flatMap bA) (l.length:Int) 0=_ from J4 hl a1 a2 (fun b e=>a3 (b,e)) (fun a b=>a4 ⟨[a,b],by simp⟩) l [] LL rfl hf (by unfold LL;omega)];unfold bL;cases decide ((l.length:Int)>1000)<;>rfl
theorem J5{B:FuncId→List D→Option D}{l:List MsgV}{f:Bool}(hl:l.length≤100000)(h64:∀m:MsgV,B 64 [.agg (bA m)]=some (.int .i64 (dH m)))(h104:∀x:MsgV×MsgV,B 104 [.agg (bA x.1),.agg (bA x.2)]=some (.bool (cK x.1 x.2))):
  ∀(r pre:List MsgV) (fuel:Nat),l=pre++r→r.length<fuel→pu B LL C1 fuel f l.length (l.flatMap bA) (pre.length:Int)=some (.int .i64 (jp pre r)):=by
 intro r
 induction r with
 |nil=>
  intro pre fuel hp hf;cases fuel with
  |zero=>exact absurd hf (Nat.not_lt_zero _)
  |succ fuel=>
   rw[zb3] at hp;rw[qW,show decide ((pre.length:Int)<(l.length:Int))=false by rw[hp];simp,bu];rfl
 |cons x r ih=>
  intro pre fuel hp hf;cases fuel with
  |zero=>exact absurd hf (Nat.not_lt_zero _)
  |succ fuel=>
   have ih:=ih (pre++[x]) fuel (by rw[hp];simp) (by simp at hf;omega);have hpl:pre.length+1≤l.length:=by rw[hp];simp
   have l0:decide ((pre.length:Int)<(l.length:Int))=true:=by simp;omega
   have l1:decide ((0:Int)≤(pre.length:Int)∧(pre.length:Int)<(l.length:Int))=true:=by simp;omega
   have hst:IntKind.wrap .i64 ((pre.length:Int)+1)=((pre++[x]).length:Int):=by rw[c6 (by omega)];simp
   have e64:B 64 [.agg [.str x.1,.int .i64 x.2.1,.str x.2.2.1,.int .i64 x.2.2.2.1,.int .i64 x.2.2.2.2.1,.str x.2.2.2.2.2]]=some (.int .i64 (dH x)):=h64 x;have hg:jp pre (x::r)=bG (fv pre x !=0) (fv pre x) (jp (pre++[x]) r):=rfl;have fin:∀e:Int,e=fv pre x→gC B LL C1 fuel f l.length (l.flatMap bA) (pre.length:Int) e=some (.int .i64 (jp pre (x::r))):=fun e he=>by
    rw[uO (hC:=c1),wW (hC:=c1),hst,ih,hg,he];cases fv pre x !=0<;>rfl
   rw[qW,l0,bC,l1,bz];subst hp;rw[jw pre x r,e64,bv,bD];by_cases hz:dH x=0
   ·rw[hz,show((0:Int)==0)=true from rfl,bC];rcases List.eq_nil_or_concat pre with rfl|⟨p,y,rfl⟩
    ·rw[show decide ((([]:List MsgV).length:Int)>0)=false from rfl,bu];exact fin 0 (by unfold fv;rw[hz];rfl)
    ·rw[List.concat_eq_append] at*;have hw:IntKind.wrap .i64 (((p++[y]).length:Int)-1)=(p.length:Int):=by rw[c6 (by omega)];simp
     have d0:decide (((p++[y]).length:Int)>0)=true:=by simp only[za6,zc4];simp
     have d1:decide ((0:Int)≤(p.length:Int)∧(p.length:Int)<((p++[y]++x::r).length:Int))=true:=by simp;omega
     have e104:B 104 [.agg [.str y.1,.int .i64 y.2.1,.str y.2.2.1,.int .i64 y.2.2.2.1,.int .i64 y.2.2.2.2.1,.str y.2.2.2.2.2],.agg [.str x.1,.int .i64 x.2.1,.str x.2.2.1,.int .i64 x.2.2.2.1,.int .i64 x.2.2.2.2.1,.str x.2.2.2.2.2]]=some (.bool (cK y x)):=h104 (y,x);have hE:fv (p++[y]) x=bG (!cK y x) 11 0:=by
      unfold fv;rw[List.getLast?_concat,hz];show cw [0,bG (!cK y x) 11 0]=_;rw[nJ];rfl
     rw[d0,bC,hw,d1,bz];have cy:=jw (γ:=D) p y (x::r);have cx:=jw (γ:=D) (p++[y]) x r;rw[show(p++y::(x::r))=p++[y]++x::r by simp] at cy;rw[cy,bz,cx,e104,bv,bP];cases hb:cK y x with
     |true=>exact fin 0 (by rw[hE,hb];rfl)
     |false=>exact fin 11 (by rw[hE,hb];rfl)
   ·rw[show(dH x==0)=false from beq_eq_false_iff_ne.2 hz,bu];refine fin _ ?_;unfold fv;generalize bG (match pre.getLast? with
     |some y=> !cK y x
     |none=>false) (11:Int) 0=z
    rw[nJ,show(dH x !=0)=true by simpa using hz,bC]
theorem J6{f:Bool}(l:List MsgV)(hl:l.length≤100000):ci 35 [.slc f l.length (l.flatMap bA)] (.int .i64 (bL l)):=by
 obtain⟨B,hB,hF⟩:=sr [fa64,fa104] ⟨ra,pB,trivial⟩ rfl;refine jY hB Tryz.func35 (ord:=O0) (N:=Iv) (by kernel_rfl) ((Fv _ _ _ f _ _).trans ?_);rw[show pu B LL C1 LL f l.length (l.flatMap bA) 0=_ from J5 hl hF.1 hF.2.1 l [] LL rfl (by unfold LL;omega)];unfold bL;cases decide ((l.length:Int)>1000)<;>rfl
theorem wZ{l:List MsgV}{x:MsgV}(hl:pS l){j:Nat}{y:MsgV}(hj:l[j]?=some y):cK y x=decide (j<(ew l x).length):=by
 have hb:=bb l x;by_cases h:j<(ew l x).length
 ·rw[za1 h];refine pz (l:=l) y (List.mem_of_getElem? (i:=j) ?_);rw[←hb,zb6 h] at hj;exact hj
 ·rw[za2 h];rw[←hb,zb5 (by omega)] at hj;have hl2:pS (ew l x++fH l x):=by rw[hb];exact hl
  have hr:=(List.pairwise_append.1 hl2).2.1;cases hq:fH l x with
  |nil=>rw[hq] at hj;simp at hj
  |cons z r=>
   have hz:=qZ hq;rw[hq] at hj hr;have hy:=List.mem_of_getElem? hj;rcases List.mem_cons.1 hy with rfl|hy
   ·exact hz
   ·cases hb2:cK y x with
    |false=>rfl
    |true=>rw[jf ((List.pairwise_cons.1 hr).1 y hy) hb2] at hz;cases hz
theorem IB{B:FuncId→List D→Option D}{l:List MsgV}{f:Bool}{x:MsgV}(hl:l.length≤100000)(ha:pS l)(h146:∀x:MsgV×MsgV,B 146 [.agg (bA x.1),.agg (bA x.2)]=some (.int .i64 (lR x.1 x.2))):
  ∀(k i j fuel:Nat),j-i≤k→k<fuel→i≤(ew l x).length→(ew l x).length≤j→j≤l.length→
  lP B LL C1 fuel f l.length (l.flatMap bA) x.1 x.2.1 x.2.2.1 x.2.2.2.1 x.2.2.2.2.1 x.2.2.2.2.2 l.length (i:Int) (j:Int)=some (.tup [.int .i64 ((ew l x).length:Int),.bool (match fH l x with
   |[]=>false
   |y::_=>fk y x)]):=by
 intro k
 induction k with
 |zero=>
  intro i j fuel hk hf h1 h2 h3;cases fuel with
  |zero=>exact absurd hf (Nat.not_lt_zero _)
  |succ fuel=>
   have hi:i=(ew l x).length:=by omega
   have hb:=bb l x;rw[pt,show decide ((i:Int)<(j:Int))=false by simp;omega,bu];cases hq:fH l x with
   |nil=>
    rw[hq,zb3] at hb;rw[show decide ((i:Int)<(l.length:Int))=false by rw[hi,hb];simp,bu,hi]
   |cons y r=>
    rw[hq] at hb;have hlt:i<l.length:=by have:=congrArg List.length hb;simp at this;omega
    have cy:=jw (γ:=D) (ew l x) y r;rw[hb,←hi] at cy;have e146:B 146 [.agg [.str y.1,.int .i64 y.2.1,.str y.2.2.1,.int .i64 y.2.2.2.1,.int .i64 y.2.2.2.2.1,.str y.2.2.2.2.2],.agg [.str x.1,.int .i64 x.2.1,.str x.2.2.1,.int .i64 x.2.2.2.1,.int .i64 x.2.2.2.2.1,.str x.2.2.2.2.2]]=some (.int .i64 (lR y x)):=h146 (y,x);rw[show decide ((i:Int)<(l.length:Int))=true by simp;omega,bC,show decide ((0:Int)≤(i:Int)∧(i:Int)<(l.length:Int))=true by simp;omega,bz,cy,e146,bv,bD,Dc,hi]
 |succ k ih=>
  intro i j fuel hk hf h1 h2 h3;cases fuel with
  |zero=>exact absurd hf (Nat.not_lt_zero _)
  |succ fuel=>
   by_cases hij:i<j
   ·have hmid:IntKind.wrap .i64 (Int.fdiv (IntKind.wrap .u64 (IntKind.wrap .i64 ((i:Int)+(j:Int)))) (2^1))=(((i+j)/2:Nat):Int):=by
     have e1:IntKind.wrap .i64 ((i:Int)+(j:Int))=((i+j:Nat):Int):=by rw[c6 (by omega)];simp
     have e2:IntKind.wrap .u64 ((i+j:Nat):Int)=((i+j:Nat):Int):=by
      show((i+j:Nat):Int)%(2^64)=_;omega
     rw[e1,e2,show(2:Int)^1=2 from rfl,Int.fdiv_eq_ediv_of_nonneg _ (by decide),c6 (by omega)];omega
    have hm1:(i+j)/2<l.length:=by omega
    obtain⟨pre,r,hd,hpl⟩:=Bf (zc9 hm1);have hget:=zc9 hm1;generalize l[(i+j)/2]=y at hd hget;have hbf:=wZ (x:=x) ha hget;have cy:=jw (γ:=D) pre y r;rw[←hd,hpl] at cy;have e146:B 146 [.agg [.str y.1,.int .i64 y.2.1,.str y.2.2.1,.int .i64 y.2.2.2.1,.int .i64 y.2.2.2.2.1,.str y.2.2.2.2.2],.agg [.str x.1,.int .i64 x.2.1,.str x.2.2.1,.int .i64 x.2.2.2.1,.int .i64 x.2.2.2.2.1,.str x.2.2.2.2.2]]=some (.int .i64 (lR y x)):=h146 (y,x);rw[pt,show decide ((i:Int)<(j:Int))=true by simp;omega,bC,hmid,show decide ((0:Int)≤(((i+j)/2:Nat):Int)∧(((i+j)/2:Nat):Int)<(l.length:Int))=true by simp;omega,bz,cy,e146,bv,bD,Bl,hbf];by_cases hc:(i+j)/2<(ew l x).length
    ·rw[za1 hc,bC,show IntKind.wrap .i64 ((((i+j)/2:Nat):Int)+1)=(((i+j)/2+1:Nat):Int) by rw[c6 (by omega)];rfl];exact ih ((i+j)/2+1) j fuel (by omega) (by omega) (by omega) h2 h3
    ·rw[za2 hc,bu];exact ih i ((i+j)/2) fuel (by omega) (by omega) h1 (by omega) (by omega)
   ·have:=ih i j (fuel+1) (by omega) (by omega) h1 h2 h3;exact this
theorem IC{f:Bool}(l:List MsgV)(x:MsgV)(hl:l.length≤100000)(ha:pS l):ci 273 [.slc f l.length (l.flatMap bA),.agg (bA x),.fn (.func 146) [] []] (.tup [.int .i64 ((ew l x).length:Int),.bool (match fH l x with
   |[]=>false
   |y::_=>fk y x)]):=by
 obtain⟨B,hB,hF⟩:=sr [fa146] ⟨pA,trivial⟩ rfl;have hb:=congrArg List.length (bb l x);rw[za6] at hb;exact jY hB Tryz.func273 (ord:=O0) (N:=Fq) (by kernel_rfl) ((Da _ _ _ f _ _ x.1 x.2.1 x.2.2.1 x.2.2.2.1 x.2.2.2.2.1 x.2.2.2.2.2).trans (IB hl ha hF.1 l.length 0 l.length LL (by omega) (by unfold LL;omega) (Nat.zero_le _) (by omega) (zb0 _)))
end Go.Pd
end
section
namespace Go.Pd
open Go Go.Proofs
set_option maxRecDepth 100000
def FH:bR:=fun p=>match p with
 |122=>nm [2,8,24,25,26] [10] [10,20]
 |_=>none
noncomputable def j3(h:FuncId→List D→Option D)(mu:FuncId→List D→Option D)(L:Nat)(C:Nat→Nat)(n:Nat)(S:Bool)(U:Nat)(O:List D)(M:Nat)(B K:Int)(z:List D):Option D:=
 dW (Iu h mu L C) O0 FH FinM.canon Tryz.f219 (bt 6 23) [] n (St.mk (J::J::D.fn (Fn.func 146) [] []::jn 5 (D.own 20 0 M::jn 15 (D.slc S U O::D.int .i64 B::D.int .i64 K::jn 24 []))) (zn 20 ((1,some (Ob.arr 130 6 z false))::zn 30 [])))
theorem mV(M:FuncId→List D→Option D)(mu:FuncId→List D→Option D)(L:Nat)(C:Nat→Nat)(n:Nat)(W:Bool)(S:Nat)(J:List D)(K:Nat)(O z:Int)(h:List D):j3 M mu L C (n+1) W S J K O z h=
 (bG (decide (z<O))
 (bB (decide (0≤z∧z<(S:Int)))
 (br J (Int.toNat z*6+0) fun d=>bN d fun s=>br J (Int.toNat z*6+1) fun a0=>bH .i64 a0 fun x=>br J (Int.toNat z*6+2) fun a5=>bN a5 fun U=>br J (Int.toNat z*6+3) fun a6=>bH .i64 a6 fun Y=>br J (Int.toNat z*6+4) fun a7=>bH .i64 a7 fun Z=>br J (Int.toNat z*6+5) fun a8=>bN a8 fun V=>bV (M 273 [D.slc false K h,D.agg [D.str s,D.int .i64 x,D.str U,D.int .i64 Y,D.int .i64 Z,D.str V],D.fn (Fn.func 146) [] []]) fun r=>fZ r 2 fun c=>br c 0 fun a9=>bH .i64 a9 fun B=>br c 1 fun aa=>cH aa fun b=>bG b
 (bB (decide (0≤B∧B<(K:Int)))
 (br h (Int.toNat B*6+0) fun ab=>bN ab fun ad=>br h (Int.toNat B*6+1) fun ac=>bH .i64 ac fun ag=>br h (Int.toNat B*6+2) fun a1=>bN a1 fun ae=>br h (Int.toNat B*6+3) fun a2=>bH .i64 a2 fun ah=>br h (Int.toNat B*6+4) fun a3=>bH .i64 a3 fun ai=>br h (Int.toNat B*6+5) fun a4=>bN a4 fun af=>bG (!(ByteArray.toList ad==ByteArray.toList s&&(ag==x&&(ByteArray.toList ae==ByteArray.toList U&&(ah==Y&&(ai==Z&&(ByteArray.toList af==ByteArray.toList V&&true)))))))
 (some (D.tup [D.slc true 0 [],D.bool false]))
 (j3 M mu L C n W S J K O (IntKind.wrap .i64 (z+1)) h)))
 (bB (decide (0≤B∧B≤(K:Int)))
 (bB (decide ((K+1)*72≤bS))
 (bB (List.all h D.one)
 (j3 M mu L C n W S J (K+1) O (IntKind.wrap .i64 (z+1)) (List.take (Int.toNat B*6) h++([D.str s,D.int .i64 x,D.str U,D.int .i64 Y,D.int .i64 Z,D.str V]++List.drop (Int.toNat B*6) h))))))))
 (some (D.tup [D.slc false K h,D.bool true]))):=by kernel_rfl
theorem Di(J:FuncId→List D→Option D)(mu:FuncId→List D→Option D)(L:Nat)(C:Nat→Nat)(O:Bool)(h:Nat)(B:List D)(M:Bool)(z:Nat)(K:List D):cv (Iu J mu L C) O0 FH FinM.canon Tryz.f219 [D.slc O h B,D.slc M z K,D.fn (Fn.func 146) [] []]=
 (bB (decide (0≤(h:Int)∧(h:Int)≤IntKind.wrap .i64 ((h:Int)+(z:Int))∧IntKind.wrap .i64 ((h:Int)+(z:Int))*(72:Int)≤140737488355328∧IntKind.wrap .i64 ((h:Int)+(z:Int))≤9223372036854775807))
 (bB (decide (List.length B=h*6∧List.all B D.one=true∧0+Int.toNat (h:Int)*6≤List.length (dJ (Int.toNat (h:Int)) [D.str (ByteArray.mk #[]),D.int .i64 0,D.str (ByteArray.mk #[]),D.int .i64 0,D.int .i64 0,D.str (ByteArray.mk #[])])))
 (j3 J mu L C L M z K (Int.toNat (h:Int)) ((z:Int)) 0 (ch (dJ (Int.toNat (h:Int)) [D.str (ByteArray.mk #[]),D.int .i64 0,D.str (ByteArray.mk #[]),D.int .i64 0,D.int .i64 0,D.str (ByteArray.mk #[])]) 0 (List.take (min h (Int.toNat (h:Int))*6) B))))):=by kernel_rfl
def FI:bR:=fun p=>match p with
 |28=>some {keep:=[0,3,6],kl:=[52,56,60],ren:=[(3,3),(52,52),(56,52),(60,52)]}
 |_=>none
def FJ:ik:=fun id=>match id with
 |9=>some {fs:=[(53,52),(60,56),(59,59)]}
 |_=>none
noncomputable def nK(h:FuncId→List D→Option D)(L:Nat)(C:Nat→Nat)(n:Nat)(K:Bool)(M:Nat)(B:List D)(O:ByteArray)(S:Int)(U:ByteArray)(V W:Int)(Y:ByteArray)(z:Int):Option D:=
 dW (dS h L C) FJ FI FinM.canon Tryz.f149 [true,true,false,false] [] n (St.mk (D.slc K M B::J::J::D.loc 3 0 0::J::J::D.int .i64 z::jn 54 []) (Z::Z::Z::(1,some (Ob.box [D.str O,D.int .i64 S,D.str U,D.int .i64 V,D.int .i64 W,D.str Y] false))::zn 57 []))
theorem pC(V:FuncId→List D→Option D)(L:Nat)(C:Nat→Nat)(n:Nat)(W:Bool)(z:Nat)(B:List D)(J:ByteArray)(K:Int)(M:ByteArray)(O S:Int)(U:ByteArray)(h:Int):nK V L C (n+1) W z B J K M O S U h=
 (bG (decide (h<(z:Int)))
 (bB (decide (0≤h∧h<(z:Int)))
 (br B (Int.toNat h*6+0) fun d=>bN d fun s=>br B (Int.toNat h*6+1) fun a2=>bH .i64 a2 fun x=>br B (Int.toNat h*6+2) fun ad=>bN ad fun aN=>br B (Int.toNat h*6+3) fun ao=>bH .i64 ao fun b7=>br B (Int.toNat h*6+4) fun aB=>bH .i64 aB fun bi=>br B (Int.toNat h*6+5) fun aE=>bN aE fun aY=>bV (V 104 [D.agg [D.str s,D.int .i64 x,D.str aN,D.int .i64 b7,D.int .i64 bi,D.str aY],D.agg [D.str J,D.int .i64 K,D.str M,D.int .i64 O,D.int .i64 S,D.str U]]) fun r=>cH r fun b=>bG b
 (nK V L C n W z B J K M O S U (IntKind.wrap .i64 (h+1)))
 (bG (decide (h<(z:Int)))
 (bB (decide (0≤h∧h<(z:Int)))
 (br B (Int.toNat h*6+0) fun aF=>bN aF fun b0=>br B (Int.toNat h*6+1) fun aG=>bH .i64 aG fun bk=>br B (Int.toNat h*6+2) fun aH=>bN aH fun b1=>br B (Int.toNat h*6+3) fun aI=>bH .i64 aI fun bl=>br B (Int.toNat h*6+4) fun a3=>bH .i64 a3 fun bm=>br B (Int.toNat h*6+5) fun a4=>bN a4 fun b2=>bG (ByteArray.toList b0==ByteArray.toList J&&(bk==K&&(ByteArray.toList b1==ByteArray.toList M&&(bl==O&&(bm==S&&(ByteArray.toList b2==ByteArray.toList U&&true))))))
 (some (D.tup [D.slc W z B,D.int .i64 0]))
 (bG (decide (h<(z:Int)))
 (bB (decide (0≤h∧h<(z:Int)))
 (br B (Int.toNat h*6+0) fun a5=>bN a5 fun b3=>br B (Int.toNat h*6+1) fun a6=>bH .i64 a6 fun bn=>br B (Int.toNat h*6+2) fun a7=>bN a7 fun b4=>br B (Int.toNat h*6+3) fun a8=>bH .i64 a8 fun bo=>br B (Int.toNat h*6+4) fun a9=>bH .i64 a9 fun bp=>br B (Int.toNat h*6+5) fun aa=>bN aa fun b5=>bV (V 104 [D.agg [D.str J,D.int .i64 K,D.str M,D.int .i64 O,D.int .i64 S,D.str U],D.agg [D.str b3,D.int .i64 bn,D.str b4,D.int .i64 bo,D.int .i64 bp,D.str b5]]) fun aJ=>cH aJ fun Y=>bG (!Y)
 (some (D.tup [D.slc true 0 [],D.int .i64 29]))
 (bB (decide (0≤(0:Int)∧(0:Int)≤h∧h≤(z:Int)))
 (bB (decide (List.length (List.take (Int.toNat (h-(0:Int))*6) B)=Int.toNat (h-(0:Int))*6))
 (bB (List.all (List.take (Int.toNat (h-(0:Int))*6) B) D.one)
 (bG (decide (Int.toNat (h-(0:Int))=0))
 (bB (decide (0≤h∧h≤(z:Int)∧(z:Int)≤(z:Int)))
 (bB (decide (List.length (List.take (Int.toNat ((z:Int)-h)*6) (List.drop (Int.toNat h*6) B))=Int.toNat ((z:Int)-h)*6))
 (bB (List.all (List.take (Int.toNat ((z:Int)-h)*6) (List.drop (Int.toNat h*6) B)) D.one)
 (bB (decide ((1+Int.toNat ((z:Int)-h))*72≤bS∧1+Int.toNat ((z:Int)-h)≤9223372036854775807))
 (some (D.tup [D.slc false (1+Int.toNat ((z:Int)-h)) ([D.str J,D.int .i64 K,D.str M,D.int .i64 O,D.int .i64 S,D.str U]++List.take (Int.toNat ((z:Int)-h)*6) (List.drop (Int.toNat h*6) B)),D.int .i64 0]))))))
 (bB (decide (0<Int.toNat (h-(0:Int))∧0=0∧(0+Int.toNat (h-(0:Int)))*72≤bS∧0+Int.toNat (h-(0:Int))≤4611686018427387903))
 (bB (decide ((0+Int.toNat (h-(0:Int))+1)*72≤bS∧0+Int.toNat (h-(0:Int))+1≤9223372036854775807))
 (bB (decide (0≤h∧h≤(z:Int)∧(z:Int)≤(z:Int)))
 (bB (decide (List.length (List.take (Int.toNat ((z:Int)-h)*6) (List.drop (Int.toNat h*6) B))=Int.toNat ((z:Int)-h)*6))
 (bB (List.all (List.take (Int.toNat ((z:Int)-h)*6) (List.drop (Int.toNat h*6) B)) D.one)
 (bB (decide ((0+Int.toNat (h-(0:Int))+1+Int.toNat ((z:Int)-h))*72≤bS∧0+Int.toNat (h-(0:Int))+1+Int.toNat ((z:Int)-h)≤9223372036854775807))
 (some (D.tup [D.slc false (0+Int.toNat (h-(0:Int))+1+Int.toNat ((z:Int)-h)) (List.take (Int.toNat (h-(0:Int))*6) B++[D.str J,D.int .i64 K,D.str M,D.int .i64 O,D.int .i64 S,D.str U]++List.take (Int.toNat ((z:Int)-h)*6) (List.drop (Int.toNat h*6) B)),D.int .i64 0]))))))))))))))
 (bB (decide (0≤(0:Int)∧(0:Int)≤h∧h≤(z:Int)))
 (bB (decide (List.length (List.take (Int.toNat (h-(0:Int))*6) B)=Int.toNat (h-(0:Int))*6))
 (bB (List.all (List.take (Int.toNat (h-(0:Int))*6) B) D.one)
 (bG (decide (Int.toNat (h-(0:Int))=0))
 (bB (decide (0≤h∧h≤(z:Int)∧(z:Int)≤(z:Int)))
 (bB (decide (List.length (List.take (Int.toNat ((z:Int)-h)*6) (List.drop (Int.toNat h*6) B))=Int.toNat ((z:Int)-h)*6))
 (bB (List.all (List.take (Int.toNat ((z:Int)-h)*6) (List.drop (Int.toNat h*6) B)) D.one)
 (bB (decide ((1+Int.toNat ((z:Int)-h))*72≤bS∧1+Int.toNat ((z:Int)-h)≤9223372036854775807))
 (some (D.tup [D.slc false (1+Int.toNat ((z:Int)-h)) ([D.str J,D.int .i64 K,D.str M,D.int .i64 O,D.int .i64 S,D.str U]++List.take (Int.toNat ((z:Int)-h)*6) (List.drop (Int.toNat h*6) B)),D.int .i64 0]))))))
 (bB (decide (0<Int.toNat (h-(0:Int))∧0=0∧(0+Int.toNat (h-(0:Int)))*72≤bS∧0+Int.toNat (h-(0:Int))≤4611686018427387903))
 (bB (decide ((0+Int.toNat (h-(0:Int))+1)*72≤bS∧0+Int.toNat (h-(0:Int))+1≤9223372036854775807))
 (bB (decide (0≤h∧h≤(z:Int)∧(z:Int)≤(z:Int)))
 (bB (decide (List.length (List.take (Int.toNat ((z:Int)-h)*6) (List.drop (Int.toNat h*6) B))=Int.toNat ((z:Int)-h)*6))
 (bB (List.all (List.take (Int.toNat ((z:Int)-h)*6) (List.drop (Int.toNat h*6) B)) D.one)
 (bB (decide ((0+Int.toNat (h-(0:Int))+1+Int.toNat ((z:Int)-h))*72≤bS∧0+Int.toNat (h-(0:Int))+1+Int.toNat ((z:Int)-h)≤9223372036854775807))
 (some (D.tup [D.slc false (0+Int.toNat (h-(0:Int))+1+Int.toNat ((z:Int)-h)) (List.take (Int.toNat (h-(0:Int))*6) B++[D.str J,D.int .i64 K,D.str M,D.int .i64 O,D.int .i64 S,D.str U]++List.take (Int.toNat ((z:Int)-h)*6) (List.drop (Int.toNat h*6) B)),D.int .i64 0])))))))))))))))
 (bG (decide (h<(z:Int)))
 (bB (decide (0≤h∧h<(z:Int)))
 (br B (Int.toNat h*6+0) fun ab=>bN ab fun b6=>br B (Int.toNat h*6+1) fun ac=>bH .i64 ac fun bq=>br B (Int.toNat h*6+2) fun ae=>bN ae fun aO=>br B (Int.toNat h*6+3) fun af=>bH .i64 af fun b8=>br B (Int.toNat h*6+4) fun ag=>bH .i64 ag fun b9=>br B (Int.toNat h*6+5) fun ah=>bN ah fun aP=>bV (V 104 [D.agg [D.str J,D.int .i64 K,D.str M,D.int .i64 O,D.int .i64 S,D.str U],D.agg [D.str b6,D.int .i64 bq,D.str aO,D.int .i64 b8,D.int .i64 b9,D.str aP]]) fun aK=>cH aK fun Z=>bG (!Z)
 (some (D.tup [D.slc true 0 [],D.int .i64 29]))
 (bB (decide (0≤(0:Int)∧(0:Int)≤h∧h≤(z:Int)))
 (bB (decide (List.length (List.take (Int.toNat (h-(0:Int))*6) B)=Int.toNat (h-(0:Int))*6))
 (bB (List.all (List.take (Int.toNat (h-(0:Int))*6) B) D.one)
 (bG (decide (Int.toNat (h-(0:Int))=0))
 (bB (decide (0≤h∧h≤(z:Int)∧(z:Int)≤(z:Int)))
 (bB (decide (List.length (List.take (Int.toNat ((z:Int)-h)*6) (List.drop (Int.toNat h*6) B))=Int.toNat ((z:Int)-h)*6))
 (bB (List.all (List.take (Int.toNat ((z:Int)-h)*6) (List.drop (Int.toNat h*6) B)) D.one)
 (bB (decide ((1+Int.toNat ((z:Int)-h))*72≤bS∧1+Int.toNat ((z:Int)-h)≤9223372036854775807))
 (some (D.tup [D.slc false (1+Int.toNat ((z:Int)-h)) ([D.str J,D.int .i64 K,D.str M,D.int .i64 O,D.int .i64 S,D.str U]++List.take (Int.toNat ((z:Int)-h)*6) (List.drop (Int.toNat h*6) B)),D.int .i64 0]))))))
 (bB (decide (0<Int.toNat (h-(0:Int))∧0=0∧(0+Int.toNat (h-(0:Int)))*72≤bS∧0+Int.toNat (h-(0:Int))≤4611686018427387903))
 (bB (decide ((0+Int.toNat (h-(0:Int))+1)*72≤bS∧0+Int.toNat (h-(0:Int))+1≤9223372036854775807))
 (bB (decide (0≤h∧h≤(z:Int)∧(z:Int)≤(z:Int)))
 (bB (decide (List.length (List.take (Int.toNat ((z:Int)-h)*6) (List.drop (Int.toNat h*6) B))=Int.toNat ((z:Int)-h)*6))
 (bB (List.all (List.take (Int.toNat ((z:Int)-h)*6) (List.drop (Int.toNat h*6) B)) D.one)
 (bB (decide ((0+Int.toNat (h-(0:Int))+1+Int.toNat ((z:Int)-h))*72≤bS∧0+Int.toNat (h-(0:Int))+1+Int.toNat ((z:Int)-h)≤9223372036854775807))
 (some (D.tup [D.slc false (0+Int.toNat (h-(0:Int))+1+Int.toNat ((z:Int)-h)) (List.take (Int.toNat (h-(0:Int))*6) B++[D.str J,D.int .i64 K,D.str M,D.int .i64 O,D.int .i64 S,D.str U]++List.take (Int.toNat ((z:Int)-h)*6) (List.drop (Int.toNat h*6) B)),D.int .i64 0]))))))))))))))
 (bB (decide (0≤(0:Int)∧(0:Int)≤h∧h≤(z:Int)))
 (bB (decide (List.length (List.take (Int.toNat (h-(0:Int))*6) B)=Int.toNat (h-(0:Int))*6))
 (bB (List.all (List.take (Int.toNat (h-(0:Int))*6) B) D.one)
 (bG (decide (Int.toNat (h-(0:Int))=0))
 (bB (decide (0≤h∧h≤(z:Int)∧(z:Int)≤(z:Int)))
 (bB (decide (List.length (List.take (Int.toNat ((z:Int)-h)*6) (List.drop (Int.toNat h*6) B))=Int.toNat ((z:Int)-h)*6))
 (bB (List.all (List.take (Int.toNat ((z:Int)-h)*6) (List.drop (Int.toNat h*6) B)) D.one)
 (bB (decide ((1+Int.toNat ((z:Int)-h))*72≤bS∧1+Int.toNat ((z:Int)-h)≤9223372036854775807))
 (some (D.tup [D.slc false (1+Int.toNat ((z:Int)-h)) ([D.str J,D.int .i64 K,D.str M,D.int .i64 O,D.int .i64 S,D.str U]++List.take (Int.toNat ((z:Int)-h)*6) (List.drop (Int.toNat h*6) B)),D.int .i64 0]))))))
 (bB (decide (0<Int.toNat (h-(0:Int))∧0=0∧(0+Int.toNat (h-(0:Int)))*72≤bS∧0+Int.toNat (h-(0:Int))≤4611686018427387903))
 (bB (decide ((0+Int.toNat (h-(0:Int))+1)*72≤bS∧0+Int.toNat (h-(0:Int))+1≤9223372036854775807))
 (bB (decide (0≤h∧h≤(z:Int)∧(z:Int)≤(z:Int)))
 (bB (decide (List.length (List.take (Int.toNat ((z:Int)-h)*6) (List.drop (Int.toNat h*6) B))=Int.toNat ((z:Int)-h)*6))
 (bB (List.all (List.take (Int.toNat ((z:Int)-h)*6) (List.drop (Int.toNat h*6) B)) D.one)
 (bB (decide ((0+Int.toNat (h-(0:Int))+1+Int.toNat ((z:Int)-h))*72≤bS∧0+Int.toNat (h-(0:Int))+1+Int.toNat ((z:Int)-h)≤9223372036854775807))
 (some (D.tup [D.slc false (0+Int.toNat (h-(0:Int))+1+Int.toNat ((z:Int)-h)) (List.take (Int.toNat (h-(0:Int))*6) B++[D.str J,D.int .i64 K,D.str M,D.int .i64 O,D.int .i64 S,D.str U]++List.take (Int.toNat ((z:Int)-h)*6) (List.drop (Int.toNat h*6) B)),D.int .i64 0]))))))))))))))))
 (bG (decide (h<(z:Int)))
 (bB (decide (0≤h∧h<(z:Int)))
 (br B (Int.toNat h*6+0) fun ai=>bN ai fun aQ=>br B (Int.toNat h*6+1) fun aj=>bH .i64 aj fun ba=>br B (Int.toNat h*6+2) fun ak=>bN ak fun aR=>br B (Int.toNat h*6+3) fun al=>bH .i64 al fun bb=>br B (Int.toNat h*6+4) fun am=>bH .i64 am fun bc=>br B (Int.toNat h*6+5) fun an=>bN an fun aS=>bG (ByteArray.toList aQ==ByteArray.toList J&&(ba==K&&(ByteArray.toList aR==ByteArray.toList M&&(bb==O&&(bc==S&&(ByteArray.toList aS==ByteArray.toList U&&true))))))
 (some (D.tup [D.slc W z B,D.int .i64 0]))
 (bG (decide (h<(z:Int)))
 (bB (decide (0≤h∧h<(z:Int)))
 (br B (Int.toNat h*6+0) fun ap=>bN ap fun aT=>br B (Int.toNat h*6+1) fun aq=>bH .i64 aq fun bd=>br B (Int.toNat h*6+2) fun ar=>bN ar fun aU=>br B (Int.toNat h*6+3) fun au=>bH .i64 au fun be=>br B (Int.toNat h*6+4) fun av=>bH .i64 av fun bf=>br B (Int.toNat h*6+5) fun aw=>bN aw fun aV=>bV (V 104 [D.agg [D.str J,D.int .i64 K,D.str M,D.int .i64 O,D.int .i64 S,D.str U],D.agg [D.str aT,D.int .i64 bd,D.str aU,D.int .i64 be,D.int .i64 bf,D.str aV]]) fun aL=>cH aL fun a0=>bG (!a0)
 (some (D.tup [D.slc true 0 [],D.int .i64 29]))
 (bB (decide (0≤(0:Int)∧(0:Int)≤h∧h≤(z:Int)))
 (bB (decide (List.length (List.take (Int.toNat (h-(0:Int))*6) B)=Int.toNat (h-(0:Int))*6))
 (bB (List.all (List.take (Int.toNat (h-(0:Int))*6) B) D.one)
 (bG (decide (Int.toNat (h-(0:Int))=0))
 (bB (decide (0≤h∧h≤(z:Int)∧(z:Int)≤(z:Int)))
 (bB (decide (List.length (List.take (Int.toNat ((z:Int)-h)*6) (List.drop (Int.toNat h*6) B))=Int.toNat ((z:Int)-h)*6))
 (bB (List.all (List.take (Int.toNat ((z:Int)-h)*6) (List.drop (Int.toNat h*6) B)) D.one)
 (bB (decide ((1+Int.toNat ((z:Int)-h))*72≤bS∧1+Int.toNat ((z:Int)-h)≤9223372036854775807))
 (some (D.tup [D.slc false (1+Int.toNat ((z:Int)-h)) ([D.str J,D.int .i64 K,D.str M,D.int .i64 O,D.int .i64 S,D.str U]++List.take (Int.toNat ((z:Int)-h)*6) (List.drop (Int.toNat h*6) B)),D.int .i64 0]))))))
 (bB (decide (0<Int.toNat (h-(0:Int))∧0=0∧(0+Int.toNat (h-(0:Int)))*72≤bS∧0+Int.toNat (h-(0:Int))≤4611686018427387903))
 (bB (decide ((0+Int.toNat (h-(0:Int))+1)*72≤bS∧0+Int.toNat (h-(0:Int))+1≤9223372036854775807))
 (bB (decide (0≤h∧h≤(z:Int)∧(z:Int)≤(z:Int)))
 (bB (decide (List.length (List.take (Int.toNat ((z:Int)-h)*6) (List.drop (Int.toNat h*6) B))=Int.toNat ((z:Int)-h)*6))
 (bB (List.all (List.take (Int.toNat ((z:Int)-h)*6) (List.drop (Int.toNat h*6) B)) D.one)
 (bB (decide ((0+Int.toNat (h-(0:Int))+1+Int.toNat ((z:Int)-h))*72≤bS∧0+Int.toNat (h-(0:Int))+1+Int.toNat ((z:Int)-h)≤9223372036854775807))
 (some (D.tup [D.slc false (0+Int.toNat (h-(0:Int))+1+Int.toNat ((z:Int)-h)) (List.take (Int.toNat (h-(0:Int))*6) B++[D.str J,D.int .i64 K,D.str M,D.int .i64 O,D.int .i64 S,D.str U]++List.take (Int.toNat ((z:Int)-h)*6) (List.drop (Int.toNat h*6) B)),D.int .i64 0]))))))))))))))
 (bB (decide (0≤(0:Int)∧(0:Int)≤h∧h≤(z:Int)))
 (bB (decide (List.length (List.take (Int.toNat (h-(0:Int))*6) B)=Int.toNat (h-(0:Int))*6))
 (bB (List.all (List.take (Int.toNat (h-(0:Int))*6) B) D.one)
 (bG (decide (Int.toNat (h-(0:Int))=0))
 (bB (decide (0≤h∧h≤(z:Int)∧(z:Int)≤(z:Int)))
 (bB (decide (List.length (List.take (Int.toNat ((z:Int)-h)*6) (List.drop (Int.toNat h*6) B))=Int.toNat ((z:Int)-h)*6))
 (bB (List.all (List.take (Int.toNat ((z:Int)-h)*6) (List.drop (Int.toNat h*6) B)) D.one)
 (bB (decide ((1+Int.toNat ((z:Int)-h))*72≤bS∧1+Int.toNat ((z:Int)-h)≤9223372036854775807))
 (some (D.tup [D.slc false (1+Int.toNat ((z:Int)-h)) ([D.str J,D.int .i64 K,D.str M,D.int .i64 O,D.int .i64 S,D.str U]++List.take (Int.toNat ((z:Int)-h)*6) (List.drop (Int.toNat h*6) B)),D.int .i64 0]))))))
 (bB (decide (0<Int.toNat (h-(0:Int))∧0=0∧(0+Int.toNat (h-(0:Int)))*72≤bS∧0+Int.toNat (h-(0:Int))≤4611686018427387903))
 (bB (decide ((0+Int.toNat (h-(0:Int))+1)*72≤bS∧0+Int.toNat (h-(0:Int))+1≤9223372036854775807))
 (bB (decide (0≤h∧h≤(z:Int)∧(z:Int)≤(z:Int)))
 (bB (decide (List.length (List.take (Int.toNat ((z:Int)-h)*6) (List.drop (Int.toNat h*6) B))=Int.toNat ((z:Int)-h)*6))
 (bB (List.all (List.take (Int.toNat ((z:Int)-h)*6) (List.drop (Int.toNat h*6) B)) D.one)
 (bB (decide ((0+Int.toNat (h-(0:Int))+1+Int.toNat ((z:Int)-h))*72≤bS∧0+Int.toNat (h-(0:Int))+1+Int.toNat ((z:Int)-h)≤9223372036854775807))
 (some (D.tup [D.slc false (0+Int.toNat (h-(0:Int))+1+Int.toNat ((z:Int)-h)) (List.take (Int.toNat (h-(0:Int))*6) B++[D.str J,D.int .i64 K,D.str M,D.int .i64 O,D.int .i64 S,D.str U]++List.take (Int.toNat ((z:Int)-h)*6) (List.drop (Int.toNat h*6) B)),D.int .i64 0])))))))))))))))
 (bG (decide (h<(z:Int)))
 (bB (decide (0≤h∧h<(z:Int)))
 (br B (Int.toNat h*6+0) fun ax=>bN ax fun aW=>br B (Int.toNat h*6+1) fun ay=>bH .i64 ay fun bg=>br B (Int.toNat h*6+2) fun az=>bN az fun aX=>br B (Int.toNat h*6+3) fun aA=>bH .i64 aA fun bh=>br B (Int.toNat h*6+4) fun aC=>bH .i64 aC fun bj=>br B (Int.toNat h*6+5) fun aD=>bN aD fun aZ=>bV (V 104 [D.agg [D.str J,D.int .i64 K,D.str M,D.int .i64 O,D.int .i64 S,D.str U],D.agg [D.str aW,D.int .i64 bg,D.str aX,D.int .i64 bh,D.int .i64 bj,D.str aZ]]) fun aM=>cH aM fun a1=>bG (!a1)
 (some (D.tup [D.slc true 0 [],D.int .i64 29]))
 (bB (decide (0≤(0:Int)∧(0:Int)≤h∧h≤(z:Int)))
 (bB (decide (List.length (List.take (Int.toNat (h-(0:Int))*6) B)=Int.toNat (h-(0:Int))*6))
 (bB (List.all (List.take (Int.toNat (h-(0:Int))*6) B) D.one)
 (bG (decide (Int.toNat (h-(0:Int))=0))
 (bB (decide (0≤h∧h≤(z:Int)∧(z:Int)≤(z:Int)))
 (bB (decide (List.length (List.take (Int.toNat ((z:Int)-h)*6) (List.drop (Int.toNat h*6) B))=Int.toNat ((z:Int)-h)*6))
 (bB (List.all (List.take (Int.toNat ((z:Int)-h)*6) (List.drop (Int.toNat h*6) B)) D.one)
 (bB (decide ((1+Int.toNat ((z:Int)-h))*72≤bS∧1+Int.toNat ((z:Int)-h)≤9223372036854775807))
 (some (D.tup [D.slc false (1+Int.toNat ((z:Int)-h)) ([D.str J,D.int .i64 K,D.str M,D.int .i64 O,D.int .i64 S,D.str U]++List.take (Int.toNat ((z:Int)-h)*6) (List.drop (Int.toNat h*6) B)),D.int .i64 0]))))))
 (bB (decide (0<Int.toNat (h-(0:Int))∧0=0∧(0+Int.toNat (h-(0:Int)))*72≤bS∧0+Int.toNat (h-(0:Int))≤4611686018427387903))
 (bB (decide ((0+Int.toNat (h-(0:Int))+1)*72≤bS∧0+Int.toNat (h-(0:Int))+1≤9223372036854775807))
 (bB (decide (0≤h∧h≤(z:Int)∧(z:Int)≤(z:Int)))
 (bB (decide (List.length (List.take (Int.toNat ((z:Int)-h)*6) (List.drop (Int.toNat h*6) B))=Int.toNat ((z:Int)-h)*6))
 (bB (List.all (List.take (Int.toNat ((z:Int)-h)*6) (List.drop (Int.toNat h*6) B)) D.one)
 (bB (decide ((0+Int.toNat (h-(0:Int))+1+Int.toNat ((z:Int)-h))*72≤bS∧0+Int.toNat (h-(0:Int))+1+Int.toNat ((z:Int)-h)≤9223372036854775807))
 (some (D.tup [D.slc false (0+Int.toNat (h-(0:Int))+1+Int.toNat ((z:Int)-h)) (List.take (Int.toNat (h-(0:Int))*6) B++[D.str J,D.int .i64 K,D.str M,D.int .i64 O,D.int .i64 S,D.str U]++List.take (Int.toNat ((z:Int)-h)*6) (List.drop (Int.toNat h*6) B)),D.int .i64 0]))))))))))))))
 (bB (decide (0≤(0:Int)∧(0:Int)≤h∧h≤(z:Int)))
 (bB (decide (List.length (List.take (Int.toNat (h-(0:Int))*6) B)=Int.toNat (h-(0:Int))*6))
 (bB (List.all (List.take (Int.toNat (h-(0:Int))*6) B) D.one)
 (bG (decide (Int.toNat (h-(0:Int))=0))
 (bB (decide (0≤h∧h≤(z:Int)∧(z:Int)≤(z:Int)))
 (bB (decide (List.length (List.take (Int.toNat ((z:Int)-h)*6) (List.drop (Int.toNat h*6) B))=Int.toNat ((z:Int)-h)*6))
 (bB (List.all (List.take (Int.toNat ((z:Int)-h)*6) (List.drop (Int.toNat h*6) B)) D.one)
 (bB (decide ((1+Int.toNat ((z:Int)-h))*72≤bS∧1+Int.toNat ((z:Int)-h)≤9223372036854775807))
 (some (D.tup [D.slc false (1+Int.toNat ((z:Int)-h)) ([D.str J,D.int .i64 K,D.str M,D.int .i64 O,D.int .i64 S,D.str U]++List.take (Int.toNat ((z:Int)-h)*6) (List.drop (Int.toNat h*6) B)),D.int .i64 0]))))))
 (bB (decide (0<Int.toNat (h-(0:Int))∧0=0∧(0+Int.toNat (h-(0:Int)))*72≤bS∧0+Int.toNat (h-(0:Int))≤4611686018427387903))
 (bB (decide ((0+Int.toNat (h-(0:Int))+1)*72≤bS∧0+Int.toNat (h-(0:Int))+1≤9223372036854775807))
 (bB (decide (0≤h∧h≤(z:Int)∧(z:Int)≤(z:Int)))
 (bB (decide (List.length (List.take (Int.toNat ((z:Int)-h)*6) (List.drop (Int.toNat h*6) B))=Int.toNat ((z:Int)-h)*6))
 (bB (List.all (List.take (Int.toNat ((z:Int)-h)*6) (List.drop (Int.toNat h*6) B)) D.one)
 (bB (decide ((0+Int.toNat (h-(0:Int))+1+Int.toNat ((z:Int)-h))*72≤bS∧0+Int.toNat (h-(0:Int))+1+Int.toNat ((z:Int)-h)≤9223372036854775807))
 (some (D.tup [D.slc false (0+Int.toNat (h-(0:Int))+1+Int.toNat ((z:Int)-h)) (List.take (Int.toNat (h-(0:Int))*6) B++[D.str J,D.int .i64 K,D.str M,D.int .i64 O,D.int .i64 S,D.str U]++List.take (Int.toNat ((z:Int)-h)*6) (List.drop (Int.toNat h*6) B)),D.int .i64 0]))))))))))))))):=by kernel_rfl
theorem Dj(h:FuncId→List D→Option D)(L:Nat)(C:Nat→Nat)(B:Bool)(J:Nat)(z:List D)(K:ByteArray)(M:Int)(O:ByteArray)(S U:Int)(V:ByteArray):cv (dS h L C) FJ FI FinM.canon Tryz.f149 [D.slc B J z,D.agg [D.str K,D.int .i64 M,D.str O,D.int .i64 S,D.int .i64 U,D.str V]]=
 (nK h L C L B J z K M O S U V 0):=by kernel_rfl
def J7:bR:=fun p=>match p with
 |58=>nm [0,1,5] [] []
 |_=>none
noncomputable def sA(h:FuncId→List D→Option D)(L:Nat)(C:Nat→Nat)(n:Nat)(B:Bool)(K:Nat)(z:List D)(O:Bool)(S:Nat)(M:List D)(U:Int):Option D:=
 dW (dS h L C) O0 J7 FinM.canon Tryz.f72 (bt 5 11) [] n (St.mk (D.slc B K z::D.slc O S M::J::J::J::D.int .i64 U::jn 20 []) (zn 26 []))
theorem rb(M:FuncId→List D→Option D)(L:Nat)(C:Nat→Nat)(n:Nat)(O:Bool)(J:Nat)(z:List D)(S:Bool)(K:Nat)(B:List D)(h:Int):sA M L C (n+1) O J z S K B h=
 (bG (decide (h<(J:Int)))
 (bB (decide (0≤h∧h<(J:Int)))
 (br z (Int.toNat h*6+0) fun d=>bN d fun s=>br z (Int.toNat h*6+1) fun U=>bH .i64 U fun x=>br z (Int.toNat h*6+2) fun Y=>bN Y fun a6=>br z (Int.toNat h*6+3) fun Z=>bH .i64 Z fun ab=>br z (Int.toNat h*6+4) fun a0=>bH .i64 a0 fun ac=>br z (Int.toNat h*6+5) fun a1=>bN a1 fun a7=>bB (decide (0≤h∧h<(K:Int)))
 (br B (Int.toNat h*6+0) fun a2=>bN a2 fun a8=>br B (Int.toNat h*6+1) fun a3=>bH .i64 a3 fun ad=>br B (Int.toNat h*6+2) fun a4=>bN a4 fun a9=>br B (Int.toNat h*6+3) fun a5=>bH .i64 a5 fun ae=>br B (Int.toNat h*6+4) fun V=>bH .i64 V fun af=>br B (Int.toNat h*6+5) fun W=>bN W fun aa=>bG (!(ByteArray.toList s==ByteArray.toList a8&&(x==ad&&(ByteArray.toList a6==ByteArray.toList a9&&(ab==ae&&(ac==af&&(ByteArray.toList a7==ByteArray.toList aa&&true)))))))
 (some (D.bool false))
 (sA M L C n O J z S K B (IntKind.wrap .i64 (h+1))))))
 (some (D.bool true))):=by kernel_rfl
theorem FK(B:FuncId→List D→Option D)(L:Nat)(C:Nat→Nat)(K:Bool)(h:Nat)(J:List D)(O:Bool)(z:Nat)(M:List D):cv (dS B L C) O0 J7 FinM.canon Tryz.f72 [D.slc K h J,D.slc O z M]=
 (bG ((h:Int) !=(z:Int))
 (some (D.bool false))
 (sA B L C L K h J O z M 0)):=by kernel_rfl
def I7:bR:=fun p=>match p with
 |58=>nm [0,3,4] [] [72]
 |3731=>nm [0,3,4,5] [] [72]
 |_=>none
noncomputable def dr(z:FuncId→List D→Option D)(L:Nat)(C:Nat→Nat)(n:Nat)(O:Bool)(S:Nat)(M:List D)(K:Int)(h:Ow)(B:Int):Option D:=
 gA (dS z L C) O0 I7 FinM.canon Tryz.f73 (bt 11 1611) [n] (C 3731) (St.mk (D.slc O S M::J::J::oF 72 h::D.int .i64 K::D.int .i64 B::jn 68 []) (zn 72 [rO 150 2 h,Z]))
noncomputable def fI(z:FuncId→List D→Option D)(L:Nat)(C:Nat→Nat)(n:Nat)(M:Bool)(O:Nat)(K:List D)(h:Ow)(B:Int):Option D:=
 dW (dS z L C) O0 I7 FinM.canon Tryz.f73 (bt 5 11) [] n (St.mk (D.slc M O K::J::J::oF 72 h::D.int .i64 B::jn 69 []) (zn 72 [rO 150 2 h,Z]))
theorem sB(J:FuncId→List D→Option D)(L:Nat)(C:Nat→Nat)(n:Nat)(M:Bool)(B:Nat)(z:List D)(h K:Int)(hC:∀t,C t=1):dr J L C n M B z h (Ow.nil) K=
 (bB (decide (0≤h∧h<(B:Int)))
 (br z (Int.toNat h*6+1) fun O=>bH .i64 O fun V=>bG (V !=IntKind.wrap .i64 (K+1))
 (bB (decide (0≤h∧h<(B:Int)))
 (br z (Int.toNat h*6+0) fun S=>bN S fun U=>fI J L C n M B z (Ow.own 1 [D.str U,D.int .i64 (IntKind.wrap .i64 (K+1))]) (IntKind.wrap .i64 (h+1))))
 (fI J L C n M B z (Ow.nil) (IntKind.wrap .i64 (h+1))))):=by
 unfold dr;rw[hC]
 kernel_rfl
theorem sC(M:FuncId→List D→Option D)(L:Nat)(C:Nat→Nat)(n:Nat)(O:Bool)(J:Nat)(B:List D)(h:Int)(z:Nat)(K:List D)(S:Int)(hC:∀t,C t=1):dr M L C n O J B h (Ow.own z K) S=
 (bB (decide (0≤h∧h<(J:Int)))
 (br B (Int.toNat h*6+1) fun U=>bH .i64 U fun a4=>bG (a4 !=IntKind.wrap .i64 (S+1))
 (bG ((z:Int)==0)
 (bB (decide (0≤h∧h<(J:Int)))
 (br B (Int.toNat h*6+0) fun V=>bN V fun a0=>bB (decide ((z+1)*24≤bS∧z+1≤9223372036854775807))
 (fI M L C n O J B (Ow.own (z+1) (K++[D.str a0,D.int .i64 (IntKind.wrap .i64 (S+1))])) (IntKind.wrap .i64 (h+1)))))
 (bB (decide (0≤IntKind.wrap .i64 ((z:Int)-1)∧IntKind.wrap .i64 ((z:Int)-1)<(z:Int)))
 (br K (Int.toNat (IntKind.wrap .i64 ((z:Int)-1))*2+0) fun W=>bN W fun a1=>bB (decide (0≤h∧h<(J:Int)))
 (br B (Int.toNat h*6+0) fun Y=>bN Y fun a2=>bG (!ByteArray.toList a1==ByteArray.toList a2)
 (bB (decide (0≤h∧h<(J:Int)))
 (br B (Int.toNat h*6+0) fun Z=>bN Z fun a3=>bB (decide ((z+1)*24≤bS∧z+1≤9223372036854775807))
 (fI M L C n O J B (Ow.own (z+1) (K++[D.str a3,D.int .i64 (IntKind.wrap .i64 (S+1))])) (IntKind.wrap .i64 (h+1)))))
 (fI M L C n O J B (Ow.own z K) (IntKind.wrap .i64 (h+1)))))))
 (fI M L C n O J B (Ow.own z K) (IntKind.wrap .i64 (h+1))))):=by
 unfold dr;rw[hC]
 kernel_rfl
theorem w6(J:FuncId→List D→Option D)(L:Nat)(C:Nat→Nat)(n:Nat)(K:Bool)(z:Nat)(B:List D)(h:Int):fI J L C (n+1) K z B (Ow.nil) h=
 (bG (decide (h<(z:Int)))
 (bG (decide (h>0))
 (bB (decide (0≤IntKind.wrap .i64 (h-1)∧IntKind.wrap .i64 (h-1)<(z:Int)))
 (br B (Int.toNat (IntKind.wrap .i64 (h-1))*6+0) fun d=>bN d fun s=>bB (decide (0≤h∧h<(z:Int)))
 (br B (Int.toNat h*6+0) fun M=>bN M fun S=>bG (ByteArray.toList s==ByteArray.toList S)
 (bB (decide (0≤IntKind.wrap .i64 (h-1)∧IntKind.wrap .i64 (h-1)<(z:Int)))
 (br B (Int.toNat (IntKind.wrap .i64 (h-1))*6+1) fun O=>bH .i64 O fun x=>dr J L C n K z B h (Ow.nil) x))
 (dr J L C n K z B h (Ow.nil) 0))))
 (dr J L C n K z B h (Ow.nil) 0))
 (some (D.slc true 0 []))):=by kernel_rfl
theorem w7(M:FuncId→List D→Option D)(L:Nat)(C:Nat→Nat)(n:Nat)(O:Bool)(z:Nat)(B:List D)(K:Nat)(J:List D)(h:Int):fI M L C (n+1) O z B (Ow.own K J) h=
 (bG (decide (h<(z:Int)))
 (bG (decide (h>0))
 (bB (decide (0≤IntKind.wrap .i64 (h-1)∧IntKind.wrap .i64 (h-1)<(z:Int)))
 (br B (Int.toNat (IntKind.wrap .i64 (h-1))*6+0) fun S=>bN S fun W=>bB (decide (0≤h∧h<(z:Int)))
 (br B (Int.toNat h*6+0) fun U=>bN U fun Y=>bG (ByteArray.toList W==ByteArray.toList Y)
 (bB (decide (0≤IntKind.wrap .i64 (h-1)∧IntKind.wrap .i64 (h-1)<(z:Int)))
 (br B (Int.toNat (IntKind.wrap .i64 (h-1))*6+1) fun V=>bH .i64 V fun Z=>dr M L C n O z B h (Ow.own K J) Z))
 (dr M L C n O z B h (Ow.own K J) 0))))
 (dr M L C n O z B h (Ow.own K J) 0))
 (some (D.slc false K J))):=by kernel_rfl
theorem FL(h:FuncId→List D→Option D)(L:Nat)(C:Nat→Nat)(B:Bool)(J:Nat)(z:List D):cv (dS h L C) O0 I7 FinM.canon Tryz.f73 [D.slc B J z]=
 (fI h L C L B J z (Ow.nil) 0):=by kernel_rfl
def I8:bR:=fun p=>match p with
 |122=>nm [0,3,4,5] [] [41]
 |3913=>nm [0,3,4,5] [] [41]
 |_=>none
noncomputable def du(z:FuncId→List D→Option D)(L:Nat)(C:Nat→Nat)(n:Nat)(M:Bool)(O:Nat)(K:List D)(B:Int)(h:Ow)(S:Int):Option D:=
 gA (dS z L C) O0 I8 FinM.canon Tryz.f74 (bt 11 1175) [n] (C 3913) (St.mk (D.slc M O K::J::J::oF 41 h::D.int .i64 S::D.int .i64 B::jn 39 []) (zn 41 [rO 131 6 h,Z,Z,Z]))
noncomputable def fi(z:FuncId→List D→Option D)(L:Nat)(C:Nat→Nat)(n:Nat)(M:Bool)(O:Nat)(K:List D)(h:Ow)(S B:Int):Option D:=
 dW (dS z L C) O0 I8 FinM.canon Tryz.f74 (bt 6 23) [] n (St.mk (D.slc M O K::J::J::oF 41 h::D.int .i64 S::D.int .i64 B::jn 39 []) (zn 41 [rO 131 6 h,Z,Z,Z]))
theorem sD(K:FuncId→List D→Option D)(L:Nat)(C:Nat→Nat)(n:Nat)(M:Bool)(B:Nat)(z:List D)(h J:Int)(hC:∀t,C t=1):du K L C n M B z h (Ow.nil) J=
 (bB (decide (0≤h∧h<(B:Int)))
 (br z (Int.toNat h*6+1) fun O=>bH .i64 O fun x=>bG (x==J)
 (bB (decide (0≤h∧h<(B:Int)))
 (br z (Int.toNat h*6+0) fun S=>bN S fun a0=>br z (Int.toNat h*6+1) fun U=>bH .i64 U fun a3=>br z (Int.toNat h*6+2) fun V=>bN V fun a1=>br z (Int.toNat h*6+3) fun W=>bH .i64 W fun a4=>br z (Int.toNat h*6+4) fun Y=>bH .i64 Y fun a5=>br z (Int.toNat h*6+5) fun Z=>bN Z fun a2=>fi K L C n M B z (Ow.own 1 [D.str a0,D.int .i64 a3,D.str a1,D.int .i64 a4,D.int .i64 a5,D.str a2]) (IntKind.wrap .i64 (J+1)) (IntKind.wrap .i64 (h+1))))
 (fi K L C n M B z (Ow.nil) J (IntKind.wrap .i64 (h+1))))):=by
 unfold du;rw[hC]
 kernel_rfl
theorem sE(M:FuncId→List D→Option D)(L:Nat)(C:Nat→Nat)(n:Nat)(O:Bool)(B:Nat)(z:List D)(h:Int)(J:Nat)(S:List D)(K:Int)(hC:∀t,C t=1):du M L C n O B z h (Ow.own J S) K=
 (bB (decide (0≤h∧h<(B:Int)))
 (br z (Int.toNat h*6+1) fun a1=>bH .i64 a1 fun a5=>bG (a5==K)
 (bB (decide (0≤h∧h<(B:Int)))
 (br z (Int.toNat h*6+0) fun U=>bN U fun a2=>br z (Int.toNat h*6+1) fun V=>bH .i64 V fun a6=>br z (Int.toNat h*6+2) fun W=>bN W fun a3=>br z (Int.toNat h*6+3) fun Y=>bH .i64 Y fun a7=>br z (Int.toNat h*6+4) fun Z=>bH .i64 Z fun a8=>br z (Int.toNat h*6+5) fun a0=>bN a0 fun a4=>bB (decide ((J+1)*72≤bS∧J+1≤9223372036854775807))
 (fi M L C n O B z (Ow.own (J+1) (S++[D.str a2,D.int .i64 a6,D.str a3,D.int .i64 a7,D.int .i64 a8,D.str a4])) (IntKind.wrap .i64 (K+1)) (IntKind.wrap .i64 (h+1)))))
 (fi M L C n O B z (Ow.own J S) K (IntKind.wrap .i64 (h+1))))):=by
 unfold du;rw[hC]
 kernel_rfl
theorem uT(J:FuncId→List D→Option D)(L:Nat)(C:Nat→Nat)(n:Nat)(K:Bool)(z:Nat)(B:List D)(M h:Int):fi J L C (n+1) K z B (Ow.nil) M h=
 (bG (decide (h<(z:Int)))
 (bG (decide (h>0))
 (bB (decide (0≤h∧h<(z:Int)))
 (br B (Int.toNat h*6+0) fun d=>bN d fun s=>bB (decide (0≤IntKind.wrap .i64 (h-1)∧IntKind.wrap .i64 (h-1)<(z:Int)))
 (br B (Int.toNat (IntKind.wrap .i64 (h-1))*6+0) fun O=>bN O fun S=>bG (!ByteArray.toList s==ByteArray.toList S)
 (du J L C n K z B h (Ow.nil) 1)
 (du J L C n K z B h (Ow.nil) M))))
 (du J L C n K z B h (Ow.nil) M))
 (some (D.slc true 0 []))):=by kernel_rfl
theorem uU(M:FuncId→List D→Option D)(L:Nat)(C:Nat→Nat)(n:Nat)(O:Bool)(z:Nat)(B:List D)(K:Nat)(J:List D)(S h:Int):fi M L C (n+1) O z B (Ow.own K J) S h=
 (bG (decide (h<(z:Int)))
 (bG (decide (h>0))
 (bB (decide (0≤h∧h<(z:Int)))
 (br B (Int.toNat h*6+0) fun U=>bN U fun W=>bB (decide (0≤IntKind.wrap .i64 (h-1)∧IntKind.wrap .i64 (h-1)<(z:Int)))
 (br B (Int.toNat (IntKind.wrap .i64 (h-1))*6+0) fun V=>bN V fun Y=>bG (!ByteArray.toList W==ByteArray.toList Y)
 (du M L C n O z B h (Ow.own K J) 1)
 (du M L C n O z B h (Ow.own K J) S))))
 (du M L C n O z B h (Ow.own K J) S))
 (some (D.slc false K J))):=by kernel_rfl
theorem FM(h:FuncId→List D→Option D)(L:Nat)(C:Nat→Nat)(B:Bool)(J:Nat)(z:List D):cv (dS h L C) O0 I8 FinM.canon Tryz.f74 [D.slc B J z]=
 (fi h L C L B J z (Ow.nil) 1 0):=by kernel_rfl
def Ja:bR:=fun p=>match p with
 |890=>nm [1,4,5,6,10,11,12] [8] [1,8,45,49]
 |113971=>nm [1,4,5,6,8,10,11,12] [] [1,8,45,49]
 |_=>none
noncomputable def bY(O:FuncId→List D→Option D)(L:Nat)(C:Nat→Nat)(n:Nat)(z:Bool)(B:Nat)(h:List D)(S U:Int)(M:Ow)(K:Ow)(a3:Int)(V:ByteArray)(W:Int)(Y:ByteArray)(a0 a1:Int)(a2:ByteArray):Option D:=
 gA (dS O L C) O0 Ja FinM.canon Tryz.f98 (bt 16 52413) [n] (C 113971) (St.mk (J::D.loc 1 0 0::J::J::oF 49 M::oF 45 K::D.int .i64 a3::J::D.loc 8 0 0::J::D.slc z B h::D.int .i64 S::D.int .i64 U::jn 42 []) (Z::(1,some (Ob.box [D.slc z B h] false))::zn 6 ((1,some (Ob.box [D.str V,D.int .i64 W,D.str Y,D.int .i64 a0,D.int .i64 a1,D.str a2] false))::zn 36 (rO 151 2 K::Z::Z::Z::rO 130 6 M::zn 5 []))))
noncomputable def cM(M:FuncId→List D→Option D)(L:Nat)(C:Nat→Nat)(n:Nat)(z:Bool)(B:Nat)(h:List D)(vl:Ow)(K:Ow)(U O S:Int):Option D:=
 dW (dS M L C) O0 Ja FinM.canon Tryz.f98 (bt 9 189) [] n (St.mk (J::D.loc 1 0 0::J::J::oF 49 vl::oF 45 K::D.int .i64 U::J::J::J::D.slc z B h::D.int .i64 O::D.int .i64 S::jn 42 []) (Z::(1,some (Ob.box [D.slc z B h] false))::zn 43 (rO 151 2 K::Z::Z::Z::rO 130 6 vl::zn 5 [])))
theorem m8(z:FuncId→List D→Option D)(L:Nat)(C:Nat→Nat)(n:Nat)(M:Bool)(O:Nat)(K:List D)(B J h:Int)(S:ByteArray)(U:Int)(V:ByteArray)(W Y:Int)(Z:ByteArray)(hC:∀t,C t=1):bY z L C n M O K B J (Ow.nil) (Ow.nil) h S U V W Y Z=
 (bG (h==0)
 (cM z L C n M O K (Ow.nil) (Ow.nil) h B (IntKind.wrap .i64 (J+1)))
 (bG (U !=h)
 (cM z L C n M O K (Ow.nil) (Ow.own 1 [D.str S,D.int .i64 h]) 0 B (IntKind.wrap .i64 (J+1)))
 (cM z L C n M O K (Ow.own 1 [D.str S,D.int .i64 U,D.str V,D.int .i64 W,D.int .i64 Y,D.str Z]) (Ow.nil) (IntKind.wrap .i64 (h+1)) B (IntKind.wrap .i64 (J+1))))):=by
 unfold bY;rw[hC]
 kernel_rfl
theorem m9(B:FuncId→List D→Option D)(L:Nat)(C:Nat→Nat)(n:Nat)(O:Bool)(S:Nat)(M:List D)(J K:Int)(h:Nat)(U:List D)(z:Int)(V:ByteArray)(W:Int)(Y:ByteArray)(Z a0:Int)(a1:ByteArray)(hC:∀t,C t=1):bY B L C n O S M J K (Ow.nil) (Ow.own h U) z V W Y Z a0 a1=
 (bG (z==0)
 (cM B L C n O S M (Ow.nil) (Ow.own h U) z J (IntKind.wrap .i64 (K+1)))
 (bG (W !=z)
 (bB (decide ((h+1)*24≤bS∧h+1≤9223372036854775807))
 (cM B L C n O S M (Ow.nil) (Ow.own (h+1) (U++[D.str V,D.int .i64 z])) 0 J (IntKind.wrap .i64 (K+1))))
 (cM B L C n O S M (Ow.own 1 [D.str V,D.int .i64 W,D.str Y,D.int .i64 Z,D.int .i64 a0,D.str a1]) (Ow.own h U) (IntKind.wrap .i64 (z+1)) J (IntKind.wrap .i64 (K+1))))):=by
 unfold bY;rw[hC]
 kernel_rfl
theorem na(B:FuncId→List D→Option D)(L:Nat)(C:Nat→Nat)(n:Nat)(O:Bool)(S:Nat)(M:List D)(J K:Int)(h:Nat)(U:List D)(z:Int)(V:ByteArray)(W:Int)(Y:ByteArray)(Z a0:Int)(a1:ByteArray)(hC:∀t,C t=1):bY B L C n O S M J K (Ow.own h U) (Ow.nil) z V W Y Z a0 a1=
 (bG (z==0)
 (cM B L C n O S M (Ow.own h U) (Ow.nil) z J (IntKind.wrap .i64 (K+1)))
 (bG (W !=z)
 (cM B L C n O S M (Ow.own h U) (Ow.own 1 [D.str V,D.int .i64 z]) 0 J (IntKind.wrap .i64 (K+1)))
 (bB (decide ((h+1)*72≤bS∧h+1≤9223372036854775807))
 (cM B L C n O S M (Ow.own (h+1) (U++[D.str V,D.int .i64 W,D.str Y,D.int .i64 Z,D.int .i64 a0,D.str a1])) (Ow.nil) (IntKind.wrap .i64 (z+1)) J (IntKind.wrap .i64 (K+1)))))):=by
 unfold bY;rw[hC]
 kernel_rfl
theorem nb(J:FuncId→List D→Option D)(L:Nat)(C:Nat→Nat)(n:Nat)(S:Bool)(U:Nat)(O:List D)(K M:Int)(z:Nat)(W:List D)(h:Nat)(V:List D)(B:Int)(Y:ByteArray)(Z:Int)(a0:ByteArray)(a1 a2:Int)(a3:ByteArray)(hC:∀t,C t=1):bY J L C n S U O K M (Ow.own z W) (Ow.own h V) B Y Z a0 a1 a2 a3=
 (bG (B==0)
 (cM J L C n S U O (Ow.own z W) (Ow.own h V) B K (IntKind.wrap .i64 (M+1)))
 (bG (Z !=B)
 (bB (decide ((h+1)*24≤bS∧h+1≤9223372036854775807))
 (cM J L C n S U O (Ow.own z W) (Ow.own (h+1) (V++[D.str Y,D.int .i64 B])) 0 K (IntKind.wrap .i64 (M+1))))
 (bB (decide ((z+1)*72≤bS∧z+1≤9223372036854775807))
 (cM J L C n S U O (Ow.own (z+1) (W++[D.str Y,D.int .i64 Z,D.str a0,D.int .i64 a1,D.int .i64 a2,D.str a3])) (Ow.own h V) (IntKind.wrap .i64 (B+1)) K (IntKind.wrap .i64 (M+1)))))):=by
 unfold bY;rw[hC]
 kernel_rfl
theorem sF(K:FuncId→List D→Option D)(L:Nat)(C:Nat→Nat)(n:Nat)(M:Bool)(B:Nat)(z:List D)(W J h:Int):cM K L C (n+1) M B z (Ow.nil) (Ow.nil) W J h=
 (bG (decide (h<J))
 (bB (decide (0≤h∧h<(B:Int)))
 (br z (Int.toNat h*6+0) fun d=>bN d fun s=>br z (Int.toNat h*6+1) fun Y=>bH .i64 Y fun x=>br z (Int.toNat h*6+2) fun Z=>bN Z fun O=>br z (Int.toNat h*6+3) fun a0=>bH .i64 a0 fun U=>br z (Int.toNat h*6+4) fun a1=>bH .i64 a1 fun V=>br z (Int.toNat h*6+5) fun a2=>bN a2 fun S=>bG (h==0)
 (bY K L C n M B z J h (Ow.nil) (Ow.nil) 1 s x O U V S)
 (bB (decide (0≤IntKind.wrap .i64 (h-1)∧IntKind.wrap .i64 (h-1)<(B:Int)))
 (br z (Int.toNat (IntKind.wrap .i64 (h-1))*6+0) fun a3=>bN a3 fun a4=>bG (!ByteArray.toList a4==ByteArray.toList s)
 (bY K L C n M B z J h (Ow.nil) (Ow.nil) 1 s x O U V S)
 (bY K L C n M B z J h (Ow.nil) (Ow.nil) W s x O U V S)))))
 (some (D.tup [D.slc true 0 [],D.slc true 0 []]))):=by kernel_rfl
theorem sG(O:FuncId→List D→Option D)(L:Nat)(C:Nat→Nat)(n:Nat)(U:Bool)(B:Nat)(z:List D)(M:Nat)(K:List D)(a1 J h:Int):cM O L C (n+1) U B z (Ow.nil) (Ow.own M K) a1 J h=
 (bG (decide (h<J))
 (bB (decide (0≤h∧h<(B:Int)))
 (br z (Int.toNat h*6+0) fun a6=>bN a6 fun S=>br z (Int.toNat h*6+1) fun a7=>bH .i64 a7 fun Y=>br z (Int.toNat h*6+2) fun a8=>bN a8 fun V=>br z (Int.toNat h*6+3) fun a2=>bH .i64 a2 fun Z=>br z (Int.toNat h*6+4) fun a3=>bH .i64 a3 fun a0=>br z (Int.toNat h*6+5) fun a4=>bN a4 fun W=>bG (h==0)
 (bY O L C n U B z J h (Ow.nil) (Ow.own M K) 1 S Y V Z a0 W)
 (bB (decide (0≤IntKind.wrap .i64 (h-1)∧IntKind.wrap .i64 (h-1)<(B:Int)))
 (br z (Int.toNat (IntKind.wrap .i64 (h-1))*6+0) fun a5=>bN a5 fun a9=>bG (!ByteArray.toList a9==ByteArray.toList S)
 (bY O L C n U B z J h (Ow.nil) (Ow.own M K) 1 S Y V Z a0 W)
 (bY O L C n U B z J h (Ow.nil) (Ow.own M K) a1 S Y V Z a0 W)))))
 (some (D.tup [D.slc true 0 [],D.slc false M K]))):=by kernel_rfl
theorem sH(O:FuncId→List D→Option D)(L:Nat)(C:Nat→Nat)(n:Nat)(U:Bool)(B:Nat)(z:List D)(M:Nat)(K:List D)(a1 J h:Int):cM O L C (n+1) U B z (Ow.own M K) (Ow.nil) a1 J h=
 (bG (decide (h<J))
 (bB (decide (0≤h∧h<(B:Int)))
 (br z (Int.toNat h*6+0) fun a2=>bN a2 fun S=>br z (Int.toNat h*6+1) fun a3=>bH .i64 a3 fun Y=>br z (Int.toNat h*6+2) fun a4=>bN a4 fun W=>br z (Int.toNat h*6+3) fun a5=>bH .i64 a5 fun Z=>br z (Int.toNat h*6+4) fun a6=>bH .i64 a6 fun a0=>br z (Int.toNat h*6+5) fun a7=>bN a7 fun V=>bG (h==0)
 (bY O L C n U B z J h (Ow.own M K) (Ow.nil) 1 S Y W Z a0 V)
 (bB (decide (0≤IntKind.wrap .i64 (h-1)∧IntKind.wrap .i64 (h-1)<(B:Int)))
 (br z (Int.toNat (IntKind.wrap .i64 (h-1))*6+0) fun a8=>bN a8 fun a9=>bG (!ByteArray.toList a9==ByteArray.toList S)
 (bY O L C n U B z J h (Ow.own M K) (Ow.nil) 1 S Y W Z a0 V)
 (bY O L C n U B z J h (Ow.own M K) (Ow.nil) a1 S Y W Z a0 V)))))
 (some (D.tup [D.slc false M K,D.slc true 0 []]))):=by kernel_rfl
theorem sI(U:FuncId→List D→Option D)(L:Nat)(C:Nat→Nat)(n:Nat)(W:Bool)(B:Nat)(z:List D)(S:Nat)(O:List D)(M:Nat)(K:List D)(a3 J h:Int):cM U L C (n+1) W B z (Ow.own S O) (Ow.own M K) a3 J h=
 (bG (decide (h<J))
 (bB (decide (0≤h∧h<(B:Int)))
 (br z (Int.toNat h*6+0) fun a4=>bN a4 fun V=>br z (Int.toNat h*6+1) fun a5=>bH .i64 a5 fun a2=>br z (Int.toNat h*6+2) fun a6=>bN a6 fun Y=>br z (Int.toNat h*6+3) fun a7=>bH .i64 a7 fun a0=>br z (Int.toNat h*6+4) fun a8=>bH .i64 a8 fun a1=>br z (Int.toNat h*6+5) fun a9=>bN a9 fun Z=>bG (h==0)
 (bY U L C n W B z J h (Ow.own S O) (Ow.own M K) 1 V a2 Y a0 a1 Z)
 (bB (decide (0≤IntKind.wrap .i64 (h-1)∧IntKind.wrap .i64 (h-1)<(B:Int)))
 (br z (Int.toNat (IntKind.wrap .i64 (h-1))*6+0) fun aa=>bN aa fun ab=>bG (!ByteArray.toList ab==ByteArray.toList V)
 (bY U L C n W B z J h (Ow.own S O) (Ow.own M K) 1 V a2 Y a0 a1 Z)
 (bY U L C n W B z J h (Ow.own S O) (Ow.own M K) a3 V a2 Y a0 a1 Z)))))
 (some (D.tup [D.slc false S O,D.slc false M K]))):=by kernel_rfl
theorem FN(z:FuncId→List D→Option D)(L:Nat)(C:Nat→Nat)(J:Bool)(h:Nat)(B:List D):cv (dS z L C) O0 Ja FinM.canon Tryz.f98 [D.agg [D.slc J h B]]=
 (cM z L C L J h B (Ow.nil) (Ow.nil) 1 ((h:Int)) 0):=by kernel_rfl
end Go.Pd
end
