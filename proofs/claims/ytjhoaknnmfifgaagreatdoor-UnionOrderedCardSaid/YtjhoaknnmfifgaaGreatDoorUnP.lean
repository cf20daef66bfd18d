import Derived.Test.YtjhoaknnmfifgaaGreatDoorUnI
import Derived.Test.YtjhoaknnmfifgaaGreatDoorUnA
import Derived.Test.YtjhoaknnmfifgaaGreatDoorUnG
import Derived.Test.YtjhoaknnmfifgaaGreatDoorPdFf
import Derived.KernelRfl
section
namespace Go.Pd
open Go Go.Proofs Go.RowKit
def jB(v:Nat→Int):Nat→List D
 |0=>[]
 |i+1=>jB v i++[.int .i64 (v i)]
theorem nM(v:Nat→Int):∀n,(jB v n).length=n
 |0=>rfl
 |n+1=>by simp[jB,nM v n]
theorem xT(v:Nat→Int):∀(n i:Nat),i<n→(jB v n)[i]?=some (.int .i64 (v i))
 |n+1,i,h=>by
  unfold jB;by_cases hi:i<n
  ·rw[zb7 (by rw[nM];exact hi)];exact xT v n i hi
  ·have:i=n:=by omega
   subst this;rw[zb6 (by rw[nM];omega),nM];simp
def mB(n:Nat)(S:Nat→Int)(h:Int)(i:Nat):Int:=h/n+bC (decide (S i≤h%n)) 1 0
theorem jC{n:Nat}(hn:0<n)(hn':n≤36){h:Int}(hl: -99≤h)(hr:h≤99): -99≤h/n∧h/n≤99∧(h/n)*n=h-h%n∧0≤h%n∧h%n<n:=by
 have hpos:(0:Int)<n:=by omega
 have h1:=Int.emod_nonneg h (show(n:Int)≠0 by omega);have h2:=Int.emod_lt_of_pos h hpos;have h3:=Int.mul_ediv_add_emod h n;have h4:(h/n)*n=h-h%n:=by rw[ze0];omega
 refine⟨?_,?_,h4,h1,h2⟩
 ·have h0:(-99:Int)*n≤-99*1:=by omega
  exact(Int.le_ediv_iff_mul_le hpos).2 (by omega)
 ·have:=(Int.ediv_le_iff_le_mul hpos (x:=h) (y:=99)).2 (by omega);exact this
theorem El{n:Nat}(hn:0<n)(hn':n≤36)(S:Nat→Int){h:Int}(hl: -99≤h)(hr:h≤99)(i:Nat): -99≤mB n S h i∧mB n S h i≤100:=by
 obtain⟨h1,h2,_⟩:=jC hn hn' hl hr;unfold mB;cases decide (S i≤h%n)
 ·rw[br];omega
 ·rw[bx];omega
abbrev d9:=ByteArray×Int×Int
def bT(s:d9):List D:=[.str s.1,.int .i64 s.2.1,.int .i64 s.2.2]
def vL(x:cM):Int:=bC (eQ x.2) 0 1
def iB(g p:Int)(x:cM):Int:=bC (eQ x.2) 0 (bC (dP x.2||fc x.2) (x.1-g-p) 2)
def oL:List cM→Int
 |[]=>0
 |x::r=>vL x+oL r
def vM(ho:List eT)(h:Int):List cM→Nat→Int
 |[],_=>0
 |x::r,i=>iB (mB ho.length (hS ho) h i) (hP ho i) x+vM ho h r (i+1)
def xU(ho:List eT)(m:cw)(en:List cM):d9:=(m.1,oL en,vM ho m.2.2 en 0)
def sa(ho:List eT)(en:ByteArray→List cM)(me:List cw):List d9:=(me.map fun m=>xU ho m (en m.1)).filter fun s=>decide (s.2.1>0)
theorem Em(ho:List eT)(en:ByteArray→List cM)(me:List cw)(m:cw):sa ho en (me++[m])=sa ho en me++(match decide (oL (en m.1)>0) with
  |true=>[xU ho m (en m.1)]
  |false=>[]):=by
 unfold sa;rw[List.map_append,List.filter_append]
 congr 1
theorem nN(ho:List eT)(en:ByteArray→List cM)(me:List cw):(sa ho en me).length≤me.length:=by
 unfold sa;refine zb1 (List.length_filter_le _ _) ?_;rw[zc0];exact zb0 _
theorem stL_mem{ho:List eT}{en:ByteArray→List cM}{me:List cw}{s:d9}:s∈sa ho en me↔∃m∈me,s=xU ho m (en m.1)∧s.2.1>0:=by
 unfold sa;rw[List.mem_filter,zd4];constructor
 ·rintro ⟨⟨m,hm,rfl⟩,h⟩
  exact⟨m,hm,rfl,by simpa using h⟩
 ·rintro ⟨m,hm,rfl,h⟩
  exact⟨⟨m,hm,rfl⟩,by simpa using h⟩
theorem zM:∀l:List cM,0≤oL l∧oL l≤l.length
 |[]=>⟨Int.le_refl _,Int.le_refl _⟩
 |x::r=>by
  have ih:=zM r;have:vL x=0∨vL x=1:=by
   unfold vL;cases eQ x.2
   ·exact .inr rfl
   ·exact .inl rfl
  show 0≤vL x+oL r∧vL x+oL r≤((r.length+1:Nat):Int);omega
theorem AW{x:cM}(h:dN x=0):0≤x.1∧x.1≤99:=by
 unfold dN at h;cases h1:dP x.2||fc x.2 with
 |true=>
  rw[h1,bx] at h;cases h2:decide (x.1<1)||decide (x.1>99) with
  |true=>rw[h2,bx] at h;cases h
  |false=>simp at h2;omega
 |false=>
  rw[h1,br] at h;cases h2:px x.2||eQ x.2 with
  |false=>rw[h2,br] at h;cases h
  |true=>
   rw[h2,bx] at h;cases h3:x.1 !=0 with
   |true=>rw[h3,bx] at h;cases h
   |false=>simp at h3;omega
theorem En{g p:Int}{x:cM}(hx:0≤x.1∧x.1≤99)(hg: -99≤g∧g≤100)(hp:0≤p∧p≤100): -300≤iB g p x∧iB g p x≤300:=by
 unfold iB;cases eQ x.2
 ·rw[br];cases dP x.2||fc x.2
  ·rw[br];omega
  ·rw[bx];omega
 ·rw[bx];omega
def up(a b:d9):Bool:=decide (a.2.2<b.2.2)||(a.2.2==b.2.2&&decide (a.2.1>b.2.1))
theorem ltS_iff{a b:d9}:up a b=true↔a.2.2<b.2.2∨(a.2.2=b.2.2∧a.2.1>b.2.1):=by
 unfold up;simp
theorem ltS_no{a b:d9}:up a b=false↔¬(a.2.2<b.2.2∨(a.2.2=b.2.2∧a.2.1>b.2.1)):=by
 rw[←ltS_iff];simp
def zN(x:d9)(l:List d9):List d9:=(l.takeWhile fun y=> !up x y)++x::l.dropWhile fun y=> !up x y
def gF(l:List d9):List d9:=l.foldl (fun acc x=>zN x acc) []
theorem sb(l:List d9)(x:d9):gF (l++[x])=zN x (gF l):=by simp[gF]
theorem Eo(x:d9)(l:List d9):(zN x l).Perm (x::l):=by
 unfold zN;refine List.perm_middle.trans ?_;rw[List.takeWhile_append_dropWhile]
theorem AX{α:Type}{P:List α→Prop}(h0:P [])(h1:∀l x,P l→P (l++[x])):∀l,P l:=fun l=>by
 have:∀k:List α,P k.reverse:=fun k=>by
  induction k with
  |nil=>exact h0
  |cons x k ih=>rw[List.reverse_cons];exact h1 _ _ ih
 rw[←l.reverse_reverse];exact this _
theorem sc(l:List d9):(gF l).Perm l:=by
 refine AX (P:=fun l=>(gF l).Perm l) ?_ ?_ l
 ·exact List.Perm.refl _
 ·intro l x ih;rw[sb];exact(Eo x _).trans ((ih.cons x).trans (List.perm_append_singleton x l).symm)
theorem fV(l:List d9):(gF l).length=l.length:=(sc l).length_eq
theorem srt_mem{l:List d9}{s:d9}:s∈gF l↔s∈l:=(sc l).mem_iff
def Rk(key:d9→Int)(a b:d9):Prop:=up a b=true∨(up b a=false∧key a<key b)
theorem vN{key:d9→Int}{x:d9}:∀{l:List d9},l.Pairwise (Rk key)→∀y∈l.dropWhile (fun y=> !up x y),up x y=true
 |[],_,y,hy=>by cases hy
 |z::l,h,y,hy=>by
  obtain⟨h1,h2⟩:=List.pairwise_cons.1 h;rw[List.dropWhile_cons] at hy;cases hz:up x z with
  |false=>
   rw[hz] at hy;exact vN h2 y hy
  |true=>
   rw[hz] at hy;rcases List.mem_cons.1 hy with rfl|hy
   ·exact hz
   ·have hr:=h1 y hy;have hz:=ltS_iff.1 hz;rcases hr with hr|⟨hr,_⟩
    ·have hr:=ltS_iff.1 hr;exact ltS_iff.2 (by omega)
    ·have hr:=ltS_no.1 hr;exact ltS_iff.2 (by omega)
theorem sd{α:Type}{p:α→Bool}:∀{l:List α} {y:α},y∈l.takeWhile p→p y=true∧y∈l
 |[],y,h=>by cases h
 |z::l,y,h=>by
  rw[List.takeWhile_cons] at h;cases hz:p z with
  |false=>rw[hz] at h;cases h
  |true=>
   rw[hz] at h;rcases List.mem_cons.1 h with rfl|h
   ·exact⟨hz,za4 ..⟩
   ·obtain⟨h1,h2⟩:=sd h;exact⟨h1,za5 _ h2⟩
theorem KA{key:d9→Int}{x:d9}{l:List d9}(h:l.Pairwise (Rk key))(hx:∀y∈l,key y<key x):(zN x l).Pairwise (Rk key):=by
 unfold zN;have hd:=vN (x:=x) h;have hsplit:((l.takeWhile fun y=> !up x y)++l.dropWhile fun y=> !up x y).Pairwise (Rk key):=by rw[List.takeWhile_append_dropWhile];exact h
 obtain⟨q1,q2,q3⟩:=List.pairwise_append.1 hsplit;refine List.pairwise_append.2 ⟨q1,List.pairwise_cons.2 ⟨fun y hy=> .inl (hd y hy),q2⟩,fun a ha b hb=> ?_⟩;rcases List.mem_cons.1 hb with rfl|hb
 ·obtain⟨h1,h2⟩:=sd ha;have h1:up b a=false:=by simpa using h1
  exact .inr ⟨h1,hx a h2⟩
 ·exact q3 a ha b hb
theorem Ep{key:d9→Int}:∀l:List d9,l.Pairwise (fun a b=>key a<key b)→(gF l).Pairwise (Rk key):=by
 refine AX ?_ ?_
 ·intro _;exact List.Pairwise.nil
 ·intro l x ih h;obtain⟨h1,_,h3⟩:=List.pairwise_append.1 h;rw[sb];exact KA (ih h1) fun y hy=>h3 y (srt_mem.1 hy) x (zc9.2 rfl)
theorem zk{a b:Int}(h:bC (a !=0) a b=0):a=0∧b=0:=by
 cases ha:a !=0 with
 |true=>rw[ha,bx] at h;rw[h] at ha;cases ha
 |false=>rw[ha,br] at h;exact⟨by simpa using ha,h⟩
theorem zb{b:Bool}{a c:Int}(hc:c≠0)(h:bC b c a=0):b=false∧a=0:=by
 cases b with
 |true=>exact absurd h hc
 |false=>exact⟨rfl,h⟩
theorem fz{x:Int}{l:List Int}(h:dr (x::l)=0):x=0∧dr l=0:=zk h
theorem hasT_iff{l:List ByteArray}{s:ByteArray}:eh l s=true↔s∈l:=by
 unfold eh;rw[List.any_eq_true];constructor
 ·rintro ⟨x,hx,h⟩
  rw[←sEq_iff.1 h];exact hx
 ·exact fun h=>⟨s,h,sEq_iff.2 rfl⟩
theorem mbr_iff{me:List cw}{s:ByteArray}:BY me s=true↔s∈me.map (·.1):=by
 unfold BY;rw[List.any_eq_true,zd4];constructor
 ·rintro ⟨x,hx,h⟩
  exact⟨x,hx,sEq_iff.1 h⟩
 ·rintro ⟨x,hx,rfl⟩
  exact⟨x,hx,sEq_iff.2 rfl⟩
theorem HU(cl:List ByteArray):∀(r pre:List cw),iq cl pre r=0→(∀x∈r,x.1∉pre.map (·.1)∧-99≤x.2.2∧x.2.2≤99∧cZ x.1=true)∧(r.map (·.1)).Nodup
 |[],_,_=>⟨fun _ h=>(by cases h),List.nodup_nil⟩
 |y::r,pre,h=>by
  rw[show iq cl pre (y::r)=bC (zF cl pre y !=0) (zF cl pre y) (iq cl (pre++[y]) r) from rfl] at h;obtain⟨h1,h2⟩:=zk h;unfold zF at h1;obtain⟨a1,h1⟩:=fz h1;obtain⟨a2,h1⟩:=fz h1;obtain⟨_,h1⟩:=fz h1;obtain⟨a3,_⟩:=fz h1;have a1:=(zb (by decide) a1).1;have a2:=(zb (by decide) a2).1;have a3:=(zb (by decide) a3).1;obtain⟨i1,i2⟩:=HU cl r (pre++[y]) h2;have ho: -99≤y.2.2∧y.2.2≤99:=by
   unfold nH at a3;simp at a3;omega
  refine⟨fun x hx=> ?_,?_⟩
  ·rcases List.mem_cons.1 hx with rfl|hx
   ·exact⟨fun hm=>(by rw[hasT_iff.2 hm] at a2;cases a2),ho.1,ho.2,by simpa using a1⟩
   ·obtain⟨b1,b2⟩:=i1 x hx;exact⟨fun hm=>b1 (by rw[List.map_append];exact List.mem_append_left _ hm),b2⟩
  ·rw[List.map_cons,List.nodup_cons];refine⟨fun hm=> ?_,i2⟩;obtain⟨x,hx,he⟩:=zd4.1 hm;exact(i1 x hx).1 (by rw[he];simp)
theorem xV(me:List cw)(n:Nat)(x:bU)(r:List bU):∀(p pre:List bU),jd me n pre (p++x::r)=0→vJ me n (pre++p) x=0
 |[],pre,h=>by
  rw[zb4];exact(zk (show bC (vJ me n pre x !=0) (vJ me n pre x) (jd me n (pre++[x]) r)=0 from h)).1
 |y::p,pre,h=>by
  have h2:=(zk (show bC (vJ me n pre y !=0) (vJ me n pre y) (jd me n (pre++[y]) (p++x::r))=0 from h)).2;have:=xV me n x r p (pre++[y]) h2;rw[za8] at this;exact this
structure MkOk(me:List cw)(n:Nat)(pre:List bU)(x:bU):Prop where
 pl:x.1∈me.map (·.1)
 lo:1≤x.2.2.1
 hi:x.2.2.1≤n
 en:dN x.2.2.2=0
 tw:∀y∈pre,fS x.1 x.2.2.1 (cN x.2.1 x.1) y=false
theorem NX{me:List cw}{n:Nat}{pre:List bU}{x:bU}(h:vJ me n pre x=0):MkOk me n pre x:=by
 unfold vJ at h;obtain⟨a1,h⟩:=fz h;obtain⟨a2,h⟩:=fz h;obtain⟨a3,_⟩:=fz h;have a1:=(zb (by decide) a1).1;have a3:=(zb (by decide) a3).1;unfold qd at a1;rw[zc7,zc7,Bool.not_eq_false',Bool.not_eq_false'] at a1;obtain⟨b1,b2,b3⟩:=a1;unfold nH at b3;simp at b3;unfold BZ at a3;exact⟨mbr_iff.1 b1,by omega,by omega,a2,fun y hy=>by simpa using List.any_eq_false.1 a3 y hy⟩
theorem xW{me:List cw}{n:Nat}{l:List bU}(h:jd me n [] l=0){pre:List bU}{x:bU}{r:List bU}(hl:l=pre++x::r):MkOk me n pre x:=by
 subst hl;exact NX (xV me n x r pre [] h)
theorem Er(x:bU):fS x.1 x.2.2.1 (cN x.2.1 x.1) x=true:=by
 unfold fS;rw[sEq_iff.2 rfl];simp
theorem Es{α:Type}{p:α→Bool}{pre r:List α}{x:α}(h:∀y∈pre,p y=false)(hx:p x=true):(pre++x::r).find? p=some x:=by
 rw[List.find?_append,List.find?_eq_none.2 fun y hy=>by rw[h y hy];decide,List.find?_cons,hx];rfl
theorem NY{me:List cw}{n:Nat}{l:List bU}(h:jd me n [] l=0)(s:ByteArray)(k:Int)(own:Bool):dN (fk l s k own).1=0:=by
 unfold fk;cases hf:l.find? (fS s k own) with
 |none=>decide+kernel
 |some m=>
  obtain⟨pre,r,hl⟩:=List.append_of_mem (List.mem_of_find?_eq_some hf);exact(xW h hl).en
theorem Et{l:List bU}{s:ByteArray}{Q:cM→Prop}(h:∀k,Q (fk l s k false).1):∀(m i:Nat),∀x∈dW l s m i,Q x
 |0,_,x,hx=>by cases hx
 |m+1,i,x,hx=>by
  rcases List.mem_cons.1 (show x∈(fk l s ((i+1:Nat):Int) false).1::dW l s m (i+1) from hx) with rfl|hx
  ·exact h _
  ·exact Et h m (i+1) x hx
theorem AY:∀{l:List cM} {x:cM},x∈l→eQ x.2=false→oL l>0
 |y::l,x,hx,h=>by
  have hb:=zM l;have hy:0≤vL y:=by unfold vL;cases eQ y.2<;>decide
  show vL y+oL l>0;rcases List.mem_cons.1 hx with rfl|hx
  ·have:vL x=1:=by unfold vL;rw[h];rfl
   omega
  ·have:=AY hx h;omega
theorem AZ{l:List bU}{s:ByteArray}:∀(m i:Nat) (j:Nat),i<j→j≤i+m→(fk l s (j:Int) false).1∈dW l s m i
 |0,i,j,h1,h2=>by omega
 |m+1,i,j,h1,h2=>by
  show _∈(fk l s ((i+1:Nat):Int) false).1::dW l s m (i+1);by_cases hj:j=i+1
  ·rw[hj];exact za4 ..
  ·exact za5 _ (AZ m (i+1) j (by omega) (by omega))
def fW(x:bU):bU:=(x.1,x.2.1,x.2.2.1,x.2.2.2.1+1,x.2.2.2.2)
theorem KB(p:ByteArray)(k:Int)(own:Bool)(x:bU):fS p k own (fW x)=fS p k own x:=rfl
section
variable {me:List cw}{n:Nat}{pre r:List bU}{x:bU}
theorem A6(p:ByteArray)(k:Int)(own:Bool):fk (pre++fW x::r) p k own=(match(pre.find? (fS p k own)).isNone&&fS p k own x with
  |true=>((x.2.2.2.1+1,x.2.2.2.2),true)
  |false=>fk (pre++x::r) p k own):=by
 unfold fk;rw[List.find?_append,List.find?_append,List.find?_cons,List.find?_cons,KB];cases pre.find? (fS p k own) with
 |some y=>rfl
 |none=>cases fS p k own x<;>rfl
theorem mkP_false{p:ByteArray}{k:Int}{y:bU}:fS p k false y=true↔y.1=p∧y.2.2.1=k∧cN y.2.1 y.1=false:=by
 unfold fS;rw[zc2,zc2,sEq_iff,ze1,ze1]
theorem Eu:∀(p:ByteArray) (m i:Nat),oL (dW (pre++fW x::r) p m i)=oL (dW (pre++x::r) p m i)
 |p,0,i=>rfl
 |p,m+1,i=>by
  show vL (fk _ p ((i+1:Nat):Int) false).1+oL (dW _ p m (i+1))=vL (fk _ p ((i+1:Nat):Int) false).1+oL (dW _ p m (i+1));rw[Eu p m (i+1),A6]
  congr 1
  cases hc:(pre.find? (fS p ((i+1:Nat):Int) false)).isNone&&fS p ((i+1:Nat):Int) false x with
  |false=>rfl
  |true=>
   rw[zc2,Option.isNone_iff_eq_none] at hc;unfold fk;rw[List.find?_append,hc.1,List.find?_cons,hc.2];rfl
theorem Ev(hx:∀y∈pre,fS x.1 x.2.2.1 false y=false)(hd:eQ x.2.2.2.2=false)(hm:(dP x.2.2.2.2||fc x.2.2.2.2)=true)(ho:cN x.2.1 x.1=false)(hh:List eT)(h:Int)(p:ByteArray):
  ∀(m i:Nat),vM hh h (dW (pre++fW x::r) p m i) i=vM hh h (dW (pre++x::r) p m i) i+bC (cN x.1 p&&(decide ((i:Int)<x.2.2.1)&&decide (x.2.2.1≤((i+m:Nat):Int)))) 1 0
 |0,i=>by
  have:(decide ((i:Int)<x.2.2.1)&&decide (x.2.2.1≤((i+0:Nat):Int)))=false:=by simp
  rw[this,Bool.and_false];rfl
 |m+1,i=>by
  show iB (mB hh.length (hS hh) h i) (hP hh i) (fk _ p ((i+1:Nat):Int) false).1+vM hh h (dW _ p m (i+1)) (i+1)=iB (mB hh.length (hS hh) h i) (hP hh i) (fk _ p ((i+1:Nat):Int) false).1+vM hh h (dW _ p m (i+1)) (i+1)+_;rw[Ev hx hd hm ho hh h p m (i+1),A6];cases hp:cN x.1 p with
  |false=>
   have:fS p ((i+1:Nat):Int) false x=false:=by unfold fS;rw[hp];rfl
   rw[this,Bool.and_false,Bool.false_and,Bool.false_and];show iB _ _ (fk (pre++x::r) p ((i+1:Nat):Int) false).1+(_+(0:Int))=iB _ _ (fk (pre++x::r) p ((i+1:Nat):Int) false).1+_+(0:Int);omega
  |true=>
   have hp':=sEq_iff.1 hp;rw[Bool.true_and,Bool.true_and];by_cases hk:x.2.2.1=((i+1:Nat):Int)
   ·have h1:fS p ((i+1:Nat):Int) false x=true:=mkP_false.2 ⟨hp',hk,ho⟩;have h2:pre.find? (fS p ((i+1:Nat):Int) false)=none:=List.find?_eq_none.2 fun y hy=>by
     have:=hx y hy;rw[hp',hk] at this;rw[this]
     decide
    have h3:fk (pre++x::r) p ((i+1:Nat):Int) false=(x.2.2.2,true):=by
     unfold fk;rw[List.find?_append,h2,List.find?_cons,h1];rfl
    have d1:(decide (((i+1:Nat):Int)<x.2.2.1)&&decide (x.2.2.1≤((i+1+m:Nat):Int)))=false:=by rw[hk];simp
    have d2:(decide ((i:Int)<x.2.2.1)&&decide (x.2.2.1≤((i+(m+1):Nat):Int)))=true:=by rw[hk];simp;omega
    rw[h1,h2,h3,d1,d2];show iB _ _ (x.2.2.2.1+1,x.2.2.2.2)+(_+(0:Int))=iB _ _ x.2.2.2+_+(1:Int);unfold iB;rw[hd,br,br,hm,bx,bx];show x.2.2.2.1+1-_-_+_=_;omega
   ·have h1:fS p ((i+1:Nat):Int) false x=false:=by
     cases hq:fS p ((i+1:Nat):Int) false x with
     |false=>rfl
     |true=>exact absurd (mkP_false.1 hq).2.1 hk
    have d:(decide (((i+1:Nat):Int)<x.2.2.1)&&decide (x.2.2.1≤((i+1+m:Nat):Int)))=(decide ((i:Int)<x.2.2.1)&&decide (x.2.2.1≤((i+(m+1):Nat):Int))):=by
     congr 1
     ·exact decide_eq_decide.2 (by omega)
     ·exact decide_eq_decide.2 (by omega)
    rw[h1,Bool.and_false,d];show iB _ _ (fk (pre++x::r) p ((i+1:Nat):Int) false).1+(_+_)=iB _ _ (fk (pre++x::r) p ((i+1:Nat):Int) false).1+_+_;omega
end
def NZ(mu:FuncId→List D→Option D):FuncId→Option Mu:=fun k=>match k with
 |161=>some (.tab false (mu 161))
 |226=>some (.tab false (mu 226))
 |281=>some (.tab false (mu 281))
 |99=>some (.tab false (mu 99))
 |164=>some (.tab false (mu 164))
 |227=>some (.tab false (mu 227))
 |_=>none
noncomputable def G3(call mu:FuncId→List D→Option D)(L:Nat)(C:Nat→Nat):TE:={E:={P:=Tryz.prog,gl:=iy,call:=call,L:=L,wr:=NZ mu},cst:=fun _ _=>none,C:=C}
noncomputable def vU(call mu:FuncId→List D→Option D)(L:Nat)(C:Nat→Nat)(_:TypeId)(_:Nat):TE:=G3 call mu L C
def se(mu:FuncId→List D→Option D):Prop:=∀k cs len rest f m cs',mu k (.slc false len cs::rest)=some (.slc f m cs')→xa Tryz.prog iy k cs len rest cs' none
theorem lu{mu:FuncId→List D→Option D}(h:se mu){k:FuncId}(hen:∀vs w,(callFunc k vs).run Tryz.prog w= .ok (.enter k vs) w):wv Tryz.prog iy k (ya false (mu k)):=by
 refine qU hen fun cs len rest cs' m hg=> ?_;unfold ya at hg;split at hg
 ·rename_i f m' cs2 hmu;have:=h k cs len rest f m' cs2 hmu;cases hg;exact this
 ·cases hg
theorem KC{mu:FuncId→List D→Option D}(h:se mu):∀k g,NZ mu k=some g→uB Tryz.prog iy k g:=by
 intro k g hg;unfold NZ at hg;split at hg
 ·cases hg;exact lu h (enters_of Tryz.func161 (by kernel_rfl) rfl)
 ·cases hg;exact lu h (enters_of Tryz.func226 (by kernel_rfl) rfl)
 ·cases hg;exact lu h (enters_of Tryz.func281 (by kernel_rfl) rfl)
 ·cases hg;exact lu h (enters_of Tryz.func99 (by kernel_rfl) rfl)
 ·cases hg;exact lu h (enters_of Tryz.func164 (by kernel_rfl) rfl)
 ·cases hg;exact lu h (enters_of Tryz.func227 (by kernel_rfl) rfl)
 ·cases hg
theorem KD{mu:FuncId→List D→Option D}{Q:FuncId→TypeId→Nat→Prop}:∀k e n,NZ mu k=some (.own e n)→Q k e n:=by
 intro k e n h;unfold NZ at h;split at h<;>cases h
theorem N1{base mu:FuncId→List D→Option D}(hb:ep base)(hm:se mu){L:Nat}:EnvOK (G3 base mu L C1).E:=⟨Br hb,KC hm,KD,(fun _ _ hi=>nomatch hi)⟩
theorem Qs{base mu:FuncId→List D→Option D}(hb:ep base)(hm:se mu){f:FuncId}{fn:Func}(hf:Tryz.prog.funcs[f]?=some fn){ord:iG}{N:bP}(hok:jN Tryz.prog ord fn=true){ds:List D}{r:D}
  (he:bS (G3 base mu LL C1) ord N .canon fn ds=some r):ct f ds r:=
 m8 (Te:=G3 base mu LL C1) j0 (N1 hb hm) (fun _ _ _ h=>by cases h) rfl (fun _ _ _ h=>by cases h) hf (by simp) hok he
theorem P8{base mu:FuncId→List D→Option D}(hb:ep base)(hm:se mu){f:FuncId}{fn:Func}(hf:Tryz.prog.funcs[f]?=some fn){ord:iG}{N:bP}(hok:jN Tryz.prog ord fn=true)(h0:vd fn=true){cs rest cs':List D}{len:Nat}
  (he:∀e n,cs.length=len*n→jc (vU base mu LL C1 e n) ord N e n fn len cs rest=some (.slc false len cs')):xa Tryz.prog iy f cs len rest cs' none:=
 tI (Te:=G3 base mu LL C1) j0 (N1 hb hm) (fun _ _ _ h=>by cases h) rfl (fun _ _ _ h=>by cases h) hf hok h0 he
def KE:FuncId→List D→Option D:=fun _ _=>none
theorem A7:se KE:=fun _ _ _ _ _ _ _ h=>by cases h
noncomputable def xX(k:FuncId)(cs:List D)(len:Nat)(rest cs':List D):FuncId→List D→Option D:=fun k0 ds=>by
 classical
 exact if k0=k∧ds= .slc false len cs::rest then some (.slc false len cs') else none
theorem sh{k:FuncId}{cs:List D}{len:Nat}{rest cs':List D}(h:xa Tryz.prog iy k cs len rest cs' none):se (xX k cs len rest cs'):=by
 intro k0 cs0 len0 rest0 f m cs2 hh;unfold xX at hh;split at hh
 ·rename_i hc;obtain⟨rfl,hc⟩:=hc;cases hh;simp only[zc3,D.slc.injEq,true_and] at hc;obtain⟨⟨rfl,rfl⟩,rfl⟩:=hc;exact h
 ·cases hh
theorem sk{k:FuncId}{cs:List D}{len:Nat}{rest cs':List D}:xX k cs len rest cs' k (.slc false len cs::rest)=some (.slc false len cs'):=by
 unfold xX;rw[if_pos ⟨rfl,rfl⟩]
end Go.Pd
end
section
namespace Go.Pd
open Go Go.Proofs
set_option maxRecDepth 100000
theorem Ew(call:CL)(L:Nat)(C:Nat→Nat)(z:Bool)(J:Nat)(q:List D)(M:Bool)(O:Nat)(K:List D)(V:Bool)(W:Nat)(U:List D)(Z:Bool)(a0:Nat)(Y:List D)(a2:Bool)(a3:Nat)(a1:List D)(a5:Bool)(a6:Nat)(a4:List D):bS (cD call L C) O0 N0 FinM.canon Tryz.f32 [D.agg [D.slc z J q,D.slc M O K,D.slc V W U,D.slc Z a0 Y,D.slc a2 a3 a1,D.slc a5 a6 a4]]=
 (bG (call 17 [D.agg [D.slc z J q,D.slc M O K,D.slc V W U,D.slc Z a0 Y,D.slc a2 a3 a1,D.slc a5 a6 a4]]) fun r=>bF .i64 r fun x=>bC (x !=0)
 (some (D.tup [D.slc true 0 [],D.int .i64 x]))
 (bG (call 96 [D.agg [D.slc z J q,D.slc M O K,D.slc V W U,D.slc Z a0 Y,D.slc a2 a3 a1,D.slc a5 a6 a4],D.fn (Fn.func 97) [] [D.snap [D.slc z J q,D.slc M O K,D.slc V W U,D.slc Z a0 Y,D.slc a2 a3 a1,D.slc a5 a6 a4] 0]]) fun a7=>cV a7 fun f n c=>some (D.tup [D.slc f n c,D.int .i64 0]))):=by kernel_rfl
theorem KF(call:CL)(L:Nat)(C:Nat→Nat)(a7:ByteArray)(z:Bool)(J:Nat)(q:List D)(M:Bool)(O:Nat)(K:List D)(V:Bool)(W:Nat)(U:List D)(Z:Bool)(a0:Nat)(Y:List D)(a2:Bool)(a3:Nat)(a1:List D)(a5:Bool)(a6:Nat)(a4:List D):bS (cD call L C) O0 N0 FinM.canon Tryz.f97 [D.str a7,D.snap [D.slc z J q,D.slc M O K,D.slc V W U,D.slc Z a0 Y,D.slc a2 a3 a1,D.slc a5 a6 a4] 0]=
 (bG (call 91 [D.agg [D.slc z J q,D.slc M O K,D.slc V W U,D.slc Z a0 Y,D.slc a2 a3 a1,D.slc a5 a6 a4],D.str a7]) fun r=>gG r 2 fun c=>bu c 0 fun d=>bY d fun _s=>bu c 1 fun a9=>cV a9 fun f n a8=>some (D.slc f n a8)):=by kernel_rfl
def OG:bP:=fun p=>match p with
 |58=>nm [1,2,5,10,11,12] [7,8] [2,7,8,29]
 |_=>none
def OH:iG:=fun id=>match id with
 |5=>some {l:=some [0,1,2,3,4,5,6,7,8],ks:=[8]}
 |_=>none
noncomputable def kT(call:CL)(mu:FuncId→List D→Option D)(L:Nat)(C:Nat→Nat)(n:Nat)(V:Bool)(W:Nat)(U:List D)(a0:Bool)(a1:Nat)(Y:List D)(a3:Bool)(a4:Nat)(a2:List D)(a6:Bool)(a7:Nat)(a5:List D)(a9:Bool)(aa:Nat)(a8:List D)(ac:Bool)(ad:Nat)(ab:List D)(z:Bool)(K:Nat)(q:List D)(af:Bool)(ag:Nat)(ae:List D)(ai:Bool)(aj:Nat)(ah:List D)(al:Bool)(am:Nat)(ak:List D)(ao:Bool)(ap:Nat)(an:List D)(ar:Bool)(au:Nat)(aq:List D)(vl:Ow)(M O:Int):Option D:=
 ch (G3 call mu L C) OH OG FinM.canon Tryz.f96 (bt 5 11) [] n (St.mk (J::D.fn (Fn.func 97) [] [D.snap [D.slc V W U,D.slc a0 a1 Y,D.slc a3 a4 a2,D.slc a6 a7 a5,D.slc a9 aa a8,D.slc ac ad ab] 0]::D.loc 2 0 0::J::J::ol 29 vl::J::J::J::J::D.slc z K q::D.int .i64 M::D.int .i64 O::jn 21 []) (Z::Z::(1,some (Ob.box [D.slc af ag ae,D.slc z K q,D.slc ai aj ah,D.slc al am ak,D.slc ao ap an,D.slc ar au aq] false))::zn 26 [om 87 3 vl,Z,Z,Z,Z]))
theorem sn(call:CL)(mu:FuncId→List D→Option D)(L:Nat)(C:Nat→Nat)(n:Nat)(O:Bool)(U:Nat)(M:List D)(W:Bool)(Y:Nat)(V:List D)(a0:Bool)(a1:Nat)(Z:List D)(a3:Bool)(a4:Nat)(a2:List D)(a6:Bool)(a7:Nat)(a5:List D)(a9:Bool)(aa:Nat)(a8:List D)(ae:Bool)(J:Nat)(z:List D)(ac:Bool)(ad:Nat)(ab:List D)(ag:Bool)(ah:Nat)(af:List D)(aj:Bool)(ak:Nat)(ai:List D)(am:Bool)(an:Nat)(al:List D)(ap:Bool)(aq:Nat)(ao:List D)(K q:Int):kT call mu L C (n+1) O U M W Y V a0 a1 Z a3 a4 a2 a6 a7 a5 a9 aa a8 ae J z ac ad ab ag ah af aj ak ai am an al ap aq ao (Ow.nil) K q=
 (bC (decide (q<K))
 (bL (decide (0≤q∧q<(J:Int)))
 (bu z (Int.toNat q*3+0) fun d=>bY d fun s=>bu z (Int.toNat q*3+1) fun av=>bY av fun aD=>bu z (Int.toNat q*3+2) fun aw=>bF .i64 aw fun x=>bG (call 97 [D.str s,D.snap [D.slc O U M,D.slc W Y V,D.slc a0 a1 Z,D.slc a3 a4 a2,D.slc a6 a7 a5,D.slc a9 aa a8] 0]) fun r=>cV r fun f aA c=>bG (call 160 [D.agg [D.slc ac ad ab,D.slc ae J z,D.slc ag ah af,D.slc aj ak ai,D.slc am an al,D.slc ap aq ao],D.agg [D.str s,D.str aD,D.int .i64 x],D.slc f aA c]) fun aB=>gG aB 3 fun ar=>bu ar 0 fun ax=>bY ax fun aE=>bu ar 1 fun ay=>bF .i64 ay fun au=>bu ar 2 fun az=>bF .i64 az fun aF=>bC (decide (au>0))
 (kT call mu L C n O U M W Y V a0 a1 Z a3 a4 a2 a6 a7 a5 a9 aa a8 ae J z ac ad ab ag ah af aj ak ai am an al ap aq ao (Ow.own 1 [D.str aE,D.int .i64 au,D.int .i64 aF]) K (IntKind.wrap .i64 (q+1)))
 (kT call mu L C n O U M W Y V a0 a1 Z a3 a4 a2 a6 a7 a5 a9 aa a8 ae J z ac ad ab ag ah af aj ak ai am an al ap aq ao (Ow.nil) K (IntKind.wrap .i64 (q+1)))))
 (bG (call 161 [D.nils,D.fn (Fn.func 162) [] []]) fun aC=>fY aC 0 fun _c_2=>some (D.slc true 0 []))):=by kernel_rfl
theorem so(call:CL)(mu:FuncId→List D→Option D)(L:Nat)(C:Nat→Nat)(n:Nat)(V:Bool)(W:Nat)(U:List D)(Z:Bool)(a0:Nat)(Y:List D)(a2:Bool)(a3:Nat)(a1:List D)(a5:Bool)(a6:Nat)(a4:List D)(a8:Bool)(a9:Nat)(a7:List D)(ab:Bool)(ac:Nat)(aa:List D)(ag:Bool)(M:Nat)(J:List D)(ae:Bool)(af:Nat)(ad:List D)(ai:Bool)(aj:Nat)(ah:List D)(al:Bool)(am:Nat)(ak:List D)(ao:Bool)(ap:Nat)(an:List D)(ar:Bool)(au:Nat)(aq:List D)(z:Nat)(K:List D)(O q:Int):kT call mu L C (n+1) V W U Z a0 Y a2 a3 a1 a5 a6 a4 a8 a9 a7 ab ac aa ag M J ae af ad ai aj ah al am ak ao ap an ar au aq (Ow.own z K) O q=
 (bC (decide (q<O))
 (bL (decide (0≤q∧q<(M:Int)))
 (bu J (Int.toNat q*3+0) fun aC=>bY aC fun ax=>bu J (Int.toNat q*3+1) fun aD=>bY aD fun aL=>bu J (Int.toNat q*3+2) fun aE=>bF .i64 aE fun aN=>bG (call 97 [D.str ax,D.snap [D.slc V W U,D.slc Z a0 Y,D.slc a2 a3 a1,D.slc a5 a6 a4,D.slc a8 a9 a7,D.slc ab ac aa] 0]) fun aI=>cV aI fun aG aH az=>bG (call 160 [D.agg [D.slc ae af ad,D.slc ag M J,D.slc ai aj ah,D.slc al am ak,D.slc ao ap an,D.slc ar au aq],D.agg [D.str ax,D.str aL,D.int .i64 aN],D.slc aG aH az]) fun aJ=>gG aJ 3 fun av=>bu av 0 fun aF=>bY aF fun aM=>bu av 1 fun aA=>bF .i64 aA fun ay=>bu av 2 fun aB=>bF .i64 aB fun aO=>bC (decide (ay>0))
 (bL (decide ((z+1)*32≤cB∧z+1≤9223372036854775807))
 (kT call mu L C n V W U Z a0 Y a2 a3 a1 a5 a6 a4 a8 a9 a7 ab ac aa ag M J ae af ad ai aj ah al am ak ao ap an ar au aq (Ow.own (z+1) (K++[D.str aM,D.int .i64 ay,D.int .i64 aO])) O (IntKind.wrap .i64 (q+1))))
 (kT call mu L C n V W U Z a0 Y a2 a3 a1 a5 a6 a4 a8 a9 a7 ab ac aa ag M J ae af ad ai aj ah al am ak ao ap an ar au aq (Ow.own z K) O (IntKind.wrap .i64 (q+1)))))
 (bL (List.all K (pG (Env.osl (TE.E (G3 call mu L C)))))
 (bG (mu 161 [D.slc false z K,D.fn (Fn.func 162) [] []]) fun aK=>cV aK fun _f_2 _n_3 aw=>bL (decide (List.length aw=List.length K))
 (bL (List.all aw (pG (Env.osl (TE.E (G3 call mu L C)))))
 (some (D.slc false z aw)))))):=by kernel_rfl
theorem Ex(call:CL)(mu:FuncId→List D→Option D)(L:Nat)(C:Nat→Nat)(a9:Bool)(aa:Nat)(a8:List D)(ac:Bool)(q:Nat)(ab:List D)(ae:Bool)(af:Nat)(ad:List D)(ah:Bool)(ai:Nat)(ag:List D)(ak:Bool)(al:Nat)(aj:List D)(an:Bool)(ao:Nat)(am:List D)(J:Bool)(K:Nat)(z:List D)(O:Bool)(U:Nat)(M:List D)(W:Bool)(Y:Nat)(V:List D)(a0:Bool)(a1:Nat)(Z:List D)(a3:Bool)(a4:Nat)(a2:List D)(a6:Bool)(a7:Nat)(a5:List D):bS (G3 call mu L C) OH OG FinM.canon Tryz.f96 [D.agg [D.slc a9 aa a8,D.slc ac q ab,D.slc ae af ad,D.slc ah ai ag,D.slc ak al aj,D.slc an ao am],D.fn (Fn.func 97) [] [D.snap [D.slc J K z,D.slc O U M,D.slc W Y V,D.slc a0 a1 Z,D.slc a3 a4 a2,D.slc a6 a7 a5] 0]]=
 (kT call mu L C L J K z O U M W Y V a0 a1 Z a3 a4 a2 a6 a7 a5 ac q ab a9 aa a8 ae af ad ah ai ag ak al aj an ao am (Ow.nil) ((q:Int)) 0):=by kernel_rfl
def KG:bP:=fun p=>match p with
 |122=>nm [3,6,7,8,23,24,25] [4,11] [3,4,6,7,11]
 |_=>none
noncomputable def iv(call:CL)(L:Nat)(C:Nat→Nat)(q:Nat)(O:Bool)(U:Nat)(M:List D)(a4:Bool)(a5:Nat)(a3:List D)(a7:Bool)(a8:Nat)(a6:List D)(aa:Bool)(ab:Nat)(a9:List D)(ad:Bool)(ae:Nat)(ac:List D)(ag:Bool)(ah:Nat)(af:List D)(aj:Bool)(ak:Nat)(ai:List D)(a0:ByteArray)(W:Bool)(Y:Nat)(V:List D)(z K a1 a2:Int):Option D:=
 ch (cD call L C) O0 KG FinM.canon Tryz.f160 (bt 6 23) [] q (St.mk (J::J::J::D.loc 3 0 0::J::J::D.loc 6 0 0::D.loc 7 0 0::D.slc W Y V::jn 14 (D.slc O U M::D.int .i64 z::D.int .i64 K::jn 39 [])) (Z::Z::Z::(1,some (Ob.box [D.slc a4 a5 a3,D.slc a7 a8 a6,D.slc aa ab a9,D.slc ad ae ac,D.slc ag ah af,D.slc aj ak ai] false))::Z::Z::(1,some (Ob.box [D.str (ByteArray.mk #[]),D.int .i64 0,D.int .i64 0] false))::(1,some (Ob.box [D.str a0,D.int .i64 a1,D.int .i64 a2] false))::zn 57 []))
theorem pz(call:CL)(L:Nat)(C:Nat→Nat)(a0:Nat)(a1:Bool)(K:Nat)(z:List D)(a4:Bool)(a5:Nat)(a3:List D)(a7:Bool)(a8:Nat)(a6:List D)(a9:Bool)(Z:Nat)(Y:List D)(ab:Bool)(ac:Nat)(aa:List D)(ae:Bool)(af:Nat)(ad:List D)(ah:Bool)(ai:Nat)(ag:List D)(U:ByteArray)(a2:Bool)(O:Nat)(M:List D)(J q V W:Int):iv call L C (a0+1) a1 K z a4 a5 a3 a7 a8 a6 a9 Z Y ab ac aa ae af ad ah ai ag U a2 O M J q V W=
 (bC (decide (q<J))
 (bL (decide (0≤q∧q<(K:Int)))
 (bu z (Int.toNat q*2+0) fun ak=>bF .i64 ak fun aj=>bu z (Int.toNat q*2+1) fun al=>bY al fun s=>bC (ByteArray.toList s==ByteArray.toList (ByteArray.mk #[45]))
 (iv call L C a0 a1 K z a4 a5 a3 a7 a8 a6 a9 Z Y ab ac aa ae af ad ah ai ag U a2 O M J (IntKind.wrap .i64 (q+1)) V W)
 (bG (call 218 [D.agg [D.int .i64 aj,D.str s]]) fun ao=>bW ao fun b=>bC b
 (bL (decide (0≤q∧q<(O:Int)))
 (bu M (Int.toNat q*1) fun am=>bF .i64 am fun ap=>bL (decide (0≤q∧q<(Z:Int)))
 (bu Y (Int.toNat q*2+0) fun an=>bF .i64 an fun aq=>iv call L C a0 a1 K z a4 a5 a3 a7 a8 a6 a9 Z Y ab ac aa ae af ad ah ai ag U a2 O M J (IntKind.wrap .i64 (q+1)) (IntKind.wrap .i64 (V+1)) (IntKind.wrap .i64 (W+IntKind.wrap .i64 (IntKind.wrap .i64 (aj-ap)-aq))))))
 (iv call L C a0 a1 K z a4 a5 a3 a7 a8 a6 a9 Z Y ab ac aa ae af ad ah ai ag U a2 O M J (IntKind.wrap .i64 (q+1)) (IntKind.wrap .i64 (V+1)) (IntKind.wrap .i64 (W+2))))))
 (some (D.agg [D.str U,D.int .i64 V,D.int .i64 W]))):=by kernel_rfl
theorem G4(call:CL)(L:Nat)(C:Nat→Nat)(Y:Bool)(Z:Nat)(W:List D)(a1:Bool)(a2:Nat)(a0:List D)(J:Bool)(K:Nat)(z:List D)(a4:Bool)(a5:Nat)(a3:List D)(a7:Bool)(a8:Nat)(a6:List D)(aa:Bool)(ab:Nat)(a9:List D)(U ae:ByteArray)(V:Int)(O:Bool)(q:Nat)(M:List D):bS (cD call L C) O0 KG FinM.canon Tryz.f160 [D.agg [D.slc Y Z W,D.slc a1 a2 a0,D.slc J K z,D.slc a4 a5 a3,D.slc a7 a8 a6,D.slc aa ab a9],D.agg [D.str U,D.str ae,D.int .i64 V],D.slc O q M]=
 (bG (call 225 [D.slc J K z,D.int .i64 V]) fun r=>fY r 2 fun c=>bu c 0 fun d=>cV d fun f n ac=>bu c 1 fun ad=>bF .i64 ad fun _x=>iv call L C L O q M Y Z W a1 a2 a0 J K z a4 a5 a3 a7 a8 a6 aa ab a9 U f n ac ((q:Int)) 0 0 0):=by kernel_rfl
theorem A8(call:CL)(L:Nat)(C:Nat→Nat)(z:Bool)(J:Nat)(q:List D)(K:Int):bS (cD call L C) O0 N0 FinM.canon Tryz.f225 [D.slc z J q,D.int .i64 K]=
 (bG (call 109 [D.slc z J q]) fun r=>bF .i64 r fun x=>bG (call 279 [D.int .i64 K,D.int .i64 99]) fun O=>bW O fun b=>bG (call 278 [D.bool b,D.int .i64 3]) fun U=>bF .i64 U fun Y=>bG (call 277 [D.slc true 2 [D.int .i64 x,D.int .i64 Y]]) fun V=>bF .i64 V fun M=>bC (M !=0)
 (some (D.tup [D.slc true 0 [],D.int .i64 M]))
 (bG (call 280 [D.slc z J q,D.int .i64 K]) fun W=>cV W fun f n c=>some (D.tup [D.slc f n c,D.int .i64 0]))):=by kernel_rfl
def KH:bP:=fun p=>match p with
 |26=>nm [5,6,7] [] []
 |_=>none
noncomputable def qf(call:CL)(L:Nat)(C:Nat→Nat)(n:Nat)(K:Bool)(M:Nat)(J:List D)(q z:Int):Option D:=
 ch (cD call L C) O0 KH FinM.canon Tryz.f277 [true,false,true,false] [] n (St.mk (jn 5 (D.slc K M J::D.int .i64 q::D.int .i64 z::jn 7 [])) (zn 15 []))
theorem sr(call:CL)(L:Nat)(C:Nat→Nat)(n:Nat)(M:Bool)(K:Nat)(J:List D)(z q:Int):qf call L C (n+1) M K J z q=
 (bC (decide (q<z))
 (bL (decide (0≤q∧q<(K:Int)))
 (bu J (Int.toNat q*1) fun d=>bF .i64 d fun x=>bC (x !=0)
 (some (D.int .i64 x))
 (qf call L C n M K J z (IntKind.wrap .i64 (q+1)))))
 (some (D.int .i64 0))):=by kernel_rfl
theorem G5(call:CL)(L:Nat)(C:Nat→Nat)(J:Bool)(q:Nat)(z:List D):bS (cD call L C) O0 KH FinM.canon Tryz.f277 [D.slc J q z]=
 (qf call L C L J q z ((q:Int)) 0):=by kernel_rfl
theorem G6(call:CL)(L:Nat)(C:Nat→Nat)(z:Bool)(q:Int):bS (cD call L C) O0 N0 FinM.canon Tryz.f278 [D.bool z,D.int .i64 q]=
 (bC z
 (some (D.int .i64 q))
 (some (D.int .i64 0))):=by kernel_rfl
theorem G7(call:CL)(L:Nat)(C:Nat→Nat)(z q:Int):bS (cD call L C) O0 N0 FinM.canon Tryz.f279 [D.int .i64 z,D.int .i64 q]=
 (bC (decide (z<IntKind.wrap .i64 (0-q)))
 (some (D.bool true))
 (some (D.bool (decide (z>q))))):=by kernel_rfl
def KI:bP:=fun p=>match p with
 |250=>nm [5,6,7,21,22,23] [9] [9,37]
 |_=>none
noncomputable def fX(call:CL)(L:Nat)(C:Nat→Nat)(n:Nat)(M:Bool)(O:Nat)(K:List D)(U vrest:Int)(q:Ow)(z J:Int):Option D:=
 ch (cD call L C) O0 KI FinM.canon Tryz.f280 (bt 7 47) [] n (St.mk (jn 5 (D.int .i64 U::D.int .i64 vrest::ol 37 q::jn 13 (D.slc M O K::D.int .i64 z::D.int .i64 J::jn 16 []))) (zn 37 [om 3 1 q,Z,Z]))
theorem vO(call:CL)(L:Nat)(C:Nat→Nat)(n:Nat)(O:Bool)(M:Nat)(z:List D)(J vrest K q:Int):fX call L C (n+1) O M z J vrest (Ow.nil) K q=
 (bC (decide (q<K))
 (bL (decide (0≤q∧q<(M:Int)))
 (bu z (Int.toNat q*2+0) fun d=>bF .i64 d fun _x_1=>bu z (Int.toNat q*2+1) fun U=>bF .i64 U fun V=>bC (decide (V≤vrest))
 (fX call L C n O M z J vrest (Ow.own 1 [D.int .i64 (IntKind.wrap .i64 (J+1))]) K (IntKind.wrap .i64 (q+1)))
 (fX call L C n O M z J vrest (Ow.own 1 [D.int .i64 J]) K (IntKind.wrap .i64 (q+1)))))
 (some (D.slc true 0 []))):=by kernel_rfl
theorem nO(call:CL)(L:Nat)(C:Nat→Nat)(n:Nat)(V:Bool)(O:Nat)(J:List D)(K vrest:Int)(z:Nat)(U:List D)(M q:Int):fX call L C (n+1) V O J K vrest (Ow.own z U) M q=
 (bC (decide (q<M))
 (bL (decide (0≤q∧q<(O:Int)))
 (bu J (Int.toNat q*2+0) fun W=>bF .i64 W fun _x_3=>bu J (Int.toNat q*2+1) fun Y=>bF .i64 Y fun Z=>bC (decide (Z≤vrest))
 (bL (decide ((z+1)*8≤cB∧z+1≤9223372036854775807))
 (fX call L C n V O J K vrest (Ow.own (z+1) (U++[D.int .i64 (IntKind.wrap .i64 (K+1))])) M (IntKind.wrap .i64 (q+1))))
 (bL (decide ((z+1)*8≤cB∧z+1≤9223372036854775807))
 (fX call L C n V O J K vrest (Ow.own (z+1) (U++[D.int .i64 K])) M (IntKind.wrap .i64 (q+1))))))
 (some (D.slc false z U))):=by kernel_rfl
theorem G8(call:CL)(L:Nat)(C:Nat→Nat)(K:Bool)(q:Nat)(J:List D)(z:Int):bS (cD call L C) O0 KI FinM.canon Tryz.f280 [D.slc K q J,D.int .i64 z]=
 (bG (call 329 [D.int .i64 z,D.int .i64 (q:Int)]) fun r=>bF .i64 r fun x=>fX call L C L K q J x (IntKind.wrap .i64 (z-IntKind.wrap .i64 (x*(q:Int)))) (Ow.nil) ((q:Int)) 0):=by kernel_rfl
theorem G9(call:CL)(L:Nat)(C:Nat→Nat)(z q:Int):bS (cD call L C) O0 N0 FinM.canon Tryz.f329 [D.int .i64 z,D.int .i64 q]=
 (bL (!decide (q=0))
 (bL (!decide (q=0))
 (bC (decide (Int.tmod z q<0))
 (some (D.int .i64 (IntKind.wrap .i64 (IntKind.wrap .i64 (Int.tdiv z q)-1))))
 (some (D.int .i64 (IntKind.wrap .i64 (Int.tdiv z q))))))):=by kernel_rfl
def KJ:bP:=fun p=>match p with
 |58=>nm [3,6,7,8] [] []
 |_=>none
noncomputable def qg(call:CL)(L:Nat)(C:Nat→Nat)(n:Nat)(M:Bool)(O:Nat)(K:List D)(q z:Int):Option D:=
 ch (cD call L C) O0 KJ FinM.canon Tryz.f163 (bt 5 11) [] n (St.mk (J::J::J::D.int .i64 0::J::J::D.slc M O K::D.int .i64 q::D.int .i64 z::jn 9 []) (zn 18 []))
theorem su(call:CL)(L:Nat)(C:Nat→Nat)(n:Nat)(M:Bool)(K:Nat)(J:List D)(z q:Int):qg call L C (n+1) M K J z q=
 (bC (decide (q<z))
 (bL (decide (0≤q∧q<(K:Int)))
 (bu J (Int.toNat q*1) fun d=>bF .i64 d fun x=>bC (x !=0)
 (some (D.int .i64 x))
 (qg call L C n M K J z (IntKind.wrap .i64 (q+1)))))
 (some (D.int .i64 0))):=by kernel_rfl
theorem Ha(call:CL)(L:Nat)(C:Nat→Nat)(J:Bool)(q:Nat)(z:List D):bS (cD call L C) O0 KJ FinM.canon Tryz.f163 [D.slc J q z]=
 (qg call L C L J q z ((q:Int)) 0):=by kernel_rfl
theorem Hb(call:CL)(L:Nat)(C:Nat→Nat)(vx vy:Int):bS (cD call L C) O0 N0 FinM.canon Tryz.f101 [D.int .i64 vx,D.int .i64 vy]=
 (bG (call 165 [D.int .i64 vx]) fun r=>bW r fun b=>bG (call 165 [D.int .i64 vy]) fun z=>bW z fun q=>bC b
 (bC q
 (some (D.int .i64 0))
 (some (D.int .i64 (-1))))
 (bC q
 (some (D.int .i64 1))
 (bC (decide (vx<vy))
 (some (D.int .i64 (-1)))
 (bC (decide (vx>vy))
 (some (D.int .i64 1))
 (some (D.int .i64 0)))))):=by kernel_rfl
theorem Hc(call:CL)(L:Nat)(C:Nat→Nat)(vx:Int):bS (cD call L C) O0 N0 FinM.canon Tryz.f165 [D.int .i64 vx]=
 (some (D.bool (vx !=vx))):=by kernel_rfl
theorem Hd(call:CL)(L:Nat)(C:Nat→Nat)(U:ByteArray)(q z:Int)(V:ByteArray)(J K:Int):bS (cD call L C) O0 N0 FinM.canon Tryz.f162 [D.agg [D.str U,D.int .i64 q,D.int .i64 z],D.agg [D.str V,D.int .i64 J,D.int .i64 K]]=
 (bG (call 101 [D.int .i64 z,D.int .i64 K]) fun r=>bF .i64 r fun x=>bG (call 101 [D.int .i64 J,D.int .i64 q]) fun M=>bF .i64 M fun W=>bG (call 163 [D.slc true 2 [D.int .i64 x,D.int .i64 W]]) fun O=>bF .i64 O fun Y=>some (D.int .i64 Y)):=by kernel_rfl
def B3:bP:=fun p=>match p with
 |6=>nm [0,1,2,3,8] [] []
 |402=>nm [0,1,2,3,8,9] [] []
 |_=>none
noncomputable def nP(call:CL)(mu:FuncId→List D→Option D)(L:Nat)(C:Nat→Nat)(q:TypeId)(z n K V:Nat)(M O vi W:Int)(U:List D):Option D:=
 ch (vU call mu L C q z) O0 B3 (FinM.over q z) Tryz.f281 (bt 8 73) [n] K (St.mk (D.own 0 0 V::D.int .i64 M::D.int .i64 O::D.fn (Fn.func 162) [] []::J::J::J::J::D.int .i64 vi::D.int .i64 W::jn 43 []) ((1,some (Ob.arr q z U false))::zn 52 []))
noncomputable def oM(call:CL)(mu:FuncId→List D→Option D)(L:Nat)(C:Nat→Nat)(q:TypeId)(z n U:Nat)(K M vi:Int)(O:List D):Option D:=
 ch (vU call mu L C q z) O0 B3 (FinM.over q z) Tryz.f281 [true,false] [] n (St.mk (D.own 0 0 U::D.int .i64 K::D.int .i64 M::D.fn (Fn.func 162) [] []::J::J::J::J::D.int .i64 vi::jn 44 []) ((1,some (Ob.arr q z O false))::zn 52 []))
theorem pA(call:CL)(mu:FuncId→List D→Option D)(L:Nat)(C:Nat→Nat)(M:TypeId)(O n V J:Nat)(K U vi q:Int)(z:List D):nP call mu L C M O n (V+1) J K U vi q z=
 (bC (decide (q>K))
 (bL (decide (0≤q∧q<(J:Int)))
 (bu z (Int.toNat q*3+0) fun d=>bY d fun s=>bu z (Int.toNat q*3+1) fun a0=>bF .i64 a0 fun x=>bu z (Int.toNat q*3+2) fun a3=>bF .i64 a3 fun ad=>bL (decide (0≤IntKind.wrap .i64 (q-1)∧IntKind.wrap .i64 (q-1)<(J:Int)))
 (bu z (Int.toNat (IntKind.wrap .i64 (q-1))*3+0) fun a4=>bY a4 fun ab=>bu z (Int.toNat (IntKind.wrap .i64 (q-1))*3+1) fun a5=>bF .i64 a5 fun ae=>bu z (Int.toNat (IntKind.wrap .i64 (q-1))*3+2) fun a6=>bF .i64 a6 fun af=>bG (call 162 [D.agg [D.str s,D.int .i64 x,D.int .i64 ad],D.agg [D.str ab,D.int .i64 ae,D.int .i64 af]]) fun r=>bF .i64 r fun ag=>bC (decide (ag<0))
 (bL (decide (0≤IntKind.wrap .i64 (q-1)∧IntKind.wrap .i64 (q-1)<(J:Int)))
 (bu z (Int.toNat (IntKind.wrap .i64 (q-1))*3+0) fun a7=>bY a7 fun W=>bu z (Int.toNat (IntKind.wrap .i64 (q-1))*3+1) fun a8=>bF .i64 a8 fun Y=>bu z (Int.toNat (IntKind.wrap .i64 (q-1))*3+2) fun a9=>bF .i64 a9 fun Z=>bL (decide (0≤q∧q<(J:Int)))
 (bu z (Int.toNat q*3+0) fun aa=>bY aa fun ac=>bu z (Int.toNat q*3+1) fun a1=>bF .i64 a1 fun ah=>bu z (Int.toNat q*3+2) fun a2=>bF .i64 a2 fun ai=>bL (decide (0≤q∧q<(J:Int)))
 (bL (decide (Int.toNat q*3+3≤List.length z))
 (bL (decide (0≤IntKind.wrap .i64 (q-1)∧IntKind.wrap .i64 (q-1)<(J:Int)))
 (bL (decide (Int.toNat (IntKind.wrap .i64 (q-1))*3+3≤List.length (cr z (Int.toNat q*3) [D.str W,D.int .i64 Y,D.int .i64 Z])))
 (nP call mu L C M O n V J K U vi (IntKind.wrap .i64 (q-1)) (cr (cr z (Int.toNat q*3) [D.str W,D.int .i64 Y,D.int .i64 Z]) (Int.toNat (IntKind.wrap .i64 (q-1))*3) [D.str ac,D.int .i64 ah,D.int .i64 ai]))))))))
 (oM call mu L C M O n J K U (IntKind.wrap .i64 (vi+1)) z))))
 (oM call mu L C M O n J K U (IntKind.wrap .i64 (vi+1)) z)):=by kernel_rfl
theorem uq(call:CL)(mu:FuncId→List D→Option D)(L:Nat)(C:Nat→Nat)(z:TypeId)(q n K:Nat)(O M vi:Int)(J:List D):oM call mu L C z q (n+1) K O M vi J=
 (bC (decide (vi<M))
 (nP call mu L C z q n L K O M vi vi J)
 (bL (decide (z=z))
 (bL (decide (q=q))
 (bL (decide (List.length J=K*q))
 (bL (List.all J (pG (Env.osl (TE.E (vU call mu L C z q)))))
 (some (D.slc false K J))))))):=by kernel_rfl
theorem He(call:CL)(mu:FuncId→List D→Option D)(L:Nat)(C:Nat→Nat)(q:TypeId)(z O:Nat)(M:List D)(J K:Int):jc (vU call mu L C q z) O0 B3 q z Tryz.f281 O M [D.int .i64 J,D.int .i64 K,D.fn (Fn.func 162) [] []]=
 (oM call mu L C q z L O J K (IntKind.wrap .i64 (J+1)) M):=by kernel_rfl
def zO:bP:=fun p=>match p with
 |28=>nm [0,1,2,6,7,8] [] []
 |62=>nm [0,1,2,6] [] []
 |3988=>nm [0,1,2,6,7,8] [] []
 |_=>none
noncomputable def B4(call:CL)(mu:FuncId→List D→Option D)(L:Nat)(C:Nat→Nat)(q:TypeId)(z K M Y:Nat)(Z V:Int)(W:List D)(O U:Int):Option D:=
 ch (vU call mu L C q z) O0 zO (FinM.over q z) Tryz.f226 (bt 11 335) [K] M (St.mk (D.own 0 0 Y::D.int .i64 Z::D.fn (Fn.func 162) [] []::J::J::J::D.int .i64 V::D.int .i64 O::D.int .i64 U::jn 54 []) ((1,some (Ob.arr q z W false))::zn 62 []))
noncomputable def A9(call:CL)(mu:FuncId→List D→Option D)(L:Nat)(C:Nat→Nat)(q:TypeId)(z K U:Nat)(V M:Int)(O:List D):Option D:=
 ch (vU call mu L C q z) O0 zO (FinM.over q z) Tryz.f226 (bt 5 15) [] K (St.mk (D.own 0 0 U::D.int .i64 V::D.fn (Fn.func 162) [] []::J::J::J::D.int .i64 M::jn 56 []) ((1,some (Ob.arr q z O false))::zn 62 []))
noncomputable def vP(call:CL)(mu:FuncId→List D→Option D)(L:Nat)(C:Nat→Nat)(q:TypeId)(z n U:Nat)(V K M:Int)(O:List D):Option D:=
 ch (vU call mu L C q z) O0 zO (FinM.over q z) Tryz.f226 [true,true,false,false] [] n (St.mk (D.own 0 0 U::D.int .i64 V::D.fn (Fn.func 162) [] []::J::J::J::D.int .i64 20::D.int .i64 K::D.int .i64 M::jn 54 []) ((1,some (Ob.arr q z O false))::zn 62 []))
theorem zP(call:CL)(mu:FuncId→List D→Option D)(L:Nat)(C:Nat→Nat)(z:TypeId)(q U M:Nat)(O K:Int)(J:List D):A9 call mu L C z q (U+1) M O K J=
 (bC (decide (K<O))
 (B4 call mu L C z q U L M O K J 0 (IntKind.wrap .i64 (2*K)))
 (bL (decide (z=z))
 (bL (decide (q=q))
 (bL (decide (List.length J=M*q))
 (bL (List.all J (pG (Env.osl (TE.E (vU call mu L C z q)))))
 (some (D.slc false M J))))))):=by kernel_rfl
theorem zQ(call:CL)(mu:FuncId→List D→Option D)(L:Nat)(C:Nat→Nat)(q:TypeId)(z n M:Nat)(O V K:Int)(J:List D):vP call mu L C q z (n+1) M O V K J=
 (bC (decide (K≤O))
 (bL (List.all J (pG (Env.osl (TE.E (vU call mu L C q z)))))
 (bG (mu 281 [D.slc false M J,D.int .i64 V,D.int .i64 K,D.fn (Fn.func 162) [] []]) fun r=>cV r fun _f _n_1 c=>bL (decide (List.length c=List.length J))
 (bL (List.all c (pG (Env.osl (TE.E (vU call mu L C q z)))))
 (vP call mu L C q z n M O K (IntKind.wrap .i64 (K+20)) c))))
 (bL (List.all J (pG (Env.osl (TE.E (vU call mu L C q z)))))
 (bG (mu 281 [D.slc false M J,D.int .i64 V,D.int .i64 O,D.fn (Fn.func 162) [] []]) fun W=>cV W fun _f_1 _n_2 U=>bL (decide (List.length U=List.length J))
 (bL (List.all U (pG (Env.osl (TE.E (vU call mu L C q z)))))
 (A9 call mu L C q z L M O 20 U))))):=by kernel_rfl
theorem Hf(call:CL)(mu:FuncId→List D→Option D)(L:Nat)(C:Nat→Nat)(q:TypeId)(z K:Nat)(J:List D)(M:Int):jc (vU call mu L C q z) O0 zO q z Tryz.f226 K J [D.int .i64 M,D.fn (Fn.func 162) [] []]=
 (vP call mu L C q z L K M 0 20 J):=by kernel_rfl
theorem Hg(call:CL)(mu:FuncId→List D→Option D)(L:Nat)(C:Nat→Nat)(z:TypeId)(q J:Nat)(K:List D):jc (vU call mu L C z q) O0 N0 z q Tryz.f161 J K [D.fn (Fn.func 162) [] []]=
 (bL (List.all K (pG (Env.osl (TE.E (vU call mu L C z q)))))
 (bG (mu 226 [D.slc false J K,D.int .i64 (J:Int),D.fn (Fn.func 162) [] []]) fun r=>cV r fun _f _n c=>bL (decide (List.length c=List.length K))
 (bL (List.all c (pG (Env.osl (TE.E (vU call mu L C z q)))))
 (bL (decide (z=z))
 (bL (decide (q=q))
 (bL (decide (List.length c=J*q))
 (bL (List.all c (pG (Env.osl (TE.E (vU call mu L C z q)))))
 (some (D.slc false J c))))))))):=by kernel_rfl
theorem Ey(call:CL):bS (cD call LL C1) O0 B3 FinM.canon Tryz.f281 [.nils,.int .i64 0,.int .i64 0,.fn (.func 162) [] []]=some (.tup []):=by kernel_rfl
theorem Ez(call:CL):bS (cD call LL C1) O0 zO FinM.canon Tryz.f226 [.nils,.int .i64 0,.fn (.func 162) [] []]=
 (bG (call 281 [.nils,.int .i64 0,.int .i64 0,.fn (.func 162) [] []]) fun r=>fY r 0 fun _=>some (.tup [])):=by kernel_rfl
theorem EA(call:CL):bS (cD call LL C1) O0 N0 FinM.canon Tryz.f161 [.nils,.fn (.func 162) [] []]=
 (bG (call 226 [.nils,.int .i64 0,.fn (.func 162) [] []]) fun r=>fY r 0 fun _=>some (.tup [])):=by kernel_rfl
end Go.Pd
end
