import Derived.Test.YtmhbhlbnlmbhlaaGreatDoorPdFf
import Derived.IntWalk
import Derived.Test.YtmhbhlbnlmbhlaaGreatDoorProg
section
namespace Go.Pd
open Go Go.RowKit
def dE(l:List Int):List D:=l.map (D.int .i64)
def FN(l:List (List Int)):List D:=l.map fun x=>D.slc false x.length (dE x)
section
variable {α β:Type}(pre:List α)(x:α)(r:List α)
theorem pX:decide ((pre.length:Int)<((pre++x::r).length:Int))=true:=by simp;omega
theorem pY:decide ((0:Int)≤(pre.length:Int)∧(pre.length:Int)<((pre++x::r).length:Int))=true:=by simp;omega
theorem mF:decide ((pre.length:Int)<((pre++([]:List α)).length:Int))=false:=by simp
theorem bS{y:Int}(h: -9223372036854775808≤y∧y≤9223372036854775807):IntKind.wrap .i64 y=y:=IntWalk.i64_in y h
theorem j6(h:(pre++x::r).length≤4611686018427387904):IntKind.wrap .i64 ((pre.length:Int)+1)=((pre++[x]).length:Int):=by
 simp at h;rw[bS (by omega)];simp
theorem gb:(pre++[x])++r=pre++x::r:=by simp
theorem FO{γ:Type}(g:α→D)(c:D→Option γ):bu ((pre++x::r).map g) (Int.toNat (pre.length:Int)*1) c=c (g x):=by
 refine cT ?_ c;simp
theorem pZ{γ:Type}(pre:List Int)(x:Int)(r:List Int)(c:D→Option γ):bu (dE (pre++x::r)) (Int.toNat (pre.length:Int)*1) c=c (.int .i64 x):=FO pre x r _ c
theorem yT(g:α→List D)(w:Nat)(hw:∀x,(g x).length=w):∀(pre:List α) (j:Nat),j<w→((pre++x::r).flatMap g)[pre.length*w+j]?=(g x)[j]?
 |[],j,hj=>by
  rw[zb7,List.flatMap_cons,zb5,Nat.zero_mul,Nat.zero_add,zb9 (by rw[hw];exact hj)]
 |y::pre,j,hj=>by
  rw[List.cons_append,List.flatMap_cons,za7,Nat.add_mul,Nat.one_mul,zb8 (by rw[hw];omega),hw];rw[show pre.length*w+w+j-w=pre.length*w+j by omega];exact yT g w hw pre j hj
theorem lT{γ:Type}(g:α→List D)(w:Nat)(hw:∀x,(g x).length=w)(j:Nat)(hj:j<w)(c:D→Option γ):bu ((pre++x::r).flatMap g) (Int.toNat (pre.length:Int)*w+j) c=bu (g x) j c:=by
 unfold bu;rw[za3,yT x r g w hw pre j hj]
end
section
variable {P:Program}{n:Nat}{t:TypeId}{ds:List D}
theorem FQ{k:IntKind}(hu:P.underlying t=some (.int k))(h:Ty P (n+1) t ds):∃x,ds=[.int k x]∧(Lit.int k x).wf=true:=by
 unfold Ty at h;rw[hu] at h;exact h
theorem BI(hu:P.underlying t=some .string)(h:Ty P (n+1) t ds):∃s,ds=[.str s]∧s.size≤maxLen:=by
 unfold Ty at h;rw[hu] at h;exact h
theorem yU{e:TypeId}(hu:P.underlying t=some (.slice e))(h:Ty P (n+1) t ds):∃gs:List (List D),ds=[.slc false gs.length gs.flatten]∧gs.length≤maxLen∧∀g∈gs,Ty P n e g:=by
 unfold Ty at h;rw[hu] at h;exact h
theorem sE{fs:Array Field}{f1 f2:Field}(hu:P.underlying t=some (.struct fs))(hfs:fs.toList=[f1,f2])(h:Ty P (n+1) t ds):∃g1 g2,ds=g1++g2∧Ty P n f1.type g1∧Ty P n f2.type g2:=by
 unfold Ty at h;rw[hu] at h;obtain⟨gs,h1,h2,h3⟩:=h;have hl:gs.length=2:=by rw[h2,←Array.length_toList,hfs];rfl
 match gs,hl with
 |[g1,g2],_=>exact⟨g1,g2,by rw[h1];simp,h3 0 f1 g1 (by rw[hfs];rfl) rfl,h3 1 f2 g2 (by rw[hfs];rfl) rfl⟩
theorem xc{α:Type}(g:α→List D){p:List D→Prop}(hp:∀d,p d→∃x,d=g x):∀gs:List (List D),(∀d∈gs,p d)→∃l:List α,l.length=gs.length∧gs.flatten=l.flatMap g
 |[],_=>⟨[],rfl,rfl⟩
 |d::gs,h=>by
  obtain⟨x,hx⟩:=hp d (h d (by simp));obtain⟨l,h1,h2⟩:=xc g hp gs fun d hd=>h d (za5 _ hd);exact⟨x::l,by simp[h1],by rw[List.flatten_cons,List.flatMap_cons,h2,hx]⟩
end
theorem IN{P:Program}{n:Nat}{t1 t2:TypeId}{cs:List (List D)}(h:BA P n [t1,t2] cs):∃c1 c2,cs=[c1,c2]∧Ty P n t1 c1∧Ty P n t2 c2:=by
 match cs,h with
 |[c1,c2],h=>exact⟨c1,c2,rfl,h.1,h.2.1⟩
end Go.Pd
end
section
namespace Go.Pd
abbrev Pt:=Int×Int
def LB(a b:Pt):Int:=a.1*b.2-a.2*b.1
def dt(a b:Pt):Int:=a.1*b.1+a.2*b.2
def ve(a b:Pt):Pt:=(a.1-b.1,a.2-b.2)
def sg(n:Int):Int:=if n<0 then -1 else if n>0 then 1 else 0
def lF(a b c:Pt):Int:=sg (LB (ve b a) (ve c a))
theorem sF(x:Int):0≤x*x:=by
 rcases Int.le_total 0 x with h|h
 ·exact Int.mul_nonneg h h
 ·exact Int.mul_nonneg_of_nonpos_of_nonpos h h
def fp(a b p:Pt):Bool:=decide (lF a b p=0)&&decide (dt (ve a p) (ve b p)≤0)
def TO(a b p:Pt):Bool:=decide (lF a b p=0)&&(decide (min a.1 b.1≤p.1)&&(decide (p.1≤max a.1 b.1)&&(decide (min a.2 b.2≤p.2)&&decide (p.2≤max a.2 b.2))))
theorem Mn(n:Int):sg (-n)= -sg n:=by unfold sg;split<;>split<;>(try split)<;>(try split)<;>omega
theorem sg_zero{n:Int}:sg n=0↔n=0:=by unfold sg;split<;>(try split)<;>omega
theorem sG(a b c:Pt):lF b a c= -lF a b c:=by
 unfold lF;rw[←Mn]
 congr 1
 unfold LB ve
 grind
theorem Dh{p q:Int}(h:0≤p*q):p+q≤0↔p≤0∧q≤0:=by
 refine⟨fun hs=> ?_,fun hs=>by omega⟩;apply Classical.byContradiction;intro hn;by_cases hp:0<p
 ·have hq:q<0:=by omega
  have:=Int.mul_neg_of_pos_of_neg hp hq;omega
 ·by_cases hq:0<q
  ·have hp:p<0:=by omega
   have:=Int.mul_neg_of_neg_of_pos hp hq;omega
  ·omega
theorem mul_le_zero{x y:Int}:x*y≤0↔(x≤0∧0≤y)∨(0≤x∧y≤0):=by
 rcases Int.lt_trichotomy x 0 with hx|hx|hx<;>rcases Int.lt_trichotomy y 0 with hy|hy|hy
 ·have:=Int.mul_pos_of_neg_of_neg hx hy;omega
 ·subst hy;simp;omega
 ·have:=Int.mul_neg_of_neg_of_pos hx hy;omega
 ·subst hx;simp;omega
 ·subst hx;subst hy;simp
 ·subst hx;simp;omega
 ·have:=Int.mul_neg_of_pos_of_neg hx hy;omega
 ·subst hy;simp;omega
 ·have:=Int.mul_pos hx hy;omega
theorem Mo(a b p:Pt):fp a b p=TO a b p:=by
 unfold fp TO;by_cases ht:lF a b p=0
 ·rw[za1 ht,Bool.true_and,Bool.true_and];have hc:LB (ve b a) (ve p a)=0:=sg_zero.1 ht;have h0:0≤((a.1-p.1)*(b.1-p.1))*((a.2-p.2)*(b.2-p.2)):=by
   have e:(a.1-p.1)*(b.2-p.2)=(a.2-p.2)*(b.1-p.1):=by
    unfold LB ve at hc;simp only at hc
    grind
   have:((a.1-p.1)*(b.1-p.1))*((a.2-p.2)*(b.2-p.2))=((a.1-p.1)*(b.2-p.2))*((a.1-p.1)*(b.2-p.2)):=by
    have e2:((a.1-p.1)*(b.1-p.1))*((a.2-p.2)*(b.2-p.2))=((a.1-p.1)*(b.2-p.2))*((a.2-p.2)*(b.1-p.1)):=by grind
    rw[e2,←e]
   rw[this];exact sF _
  have h1:=Dh h0;have h2:= @mul_le_zero (a.1-p.1) (b.1-p.1);have h3:= @mul_le_zero (a.2-p.2) (b.2-p.2);rw[show decide (dt (ve a p) (ve b p)≤0)=decide ((a.1-p.1)*(b.1-p.1)+(a.2-p.2)*(b.2-p.2)≤0) from rfl,Bool.eq_iff_iff];simp only[zc4,zc7];rw[h1,h2,h3];omega
 ·rw[za2 ht,Bool.false_and,Bool.false_and]
theorem FR(a b p:Pt):fp b a p=fp a b p:=by
 unfold fp;rw[sG a b p]
 congr 1
 ·rw[Bool.eq_iff_iff];simp only[zc7];omega
 ·rw[Bool.eq_iff_iff];simp only[zc7];have:dt (ve b p) (ve a p)=dt (ve a p) (ve b p):=by unfold dt;grind
  rw[this]
def oh(a b c d:Pt):Bool:=fp a b c||(fp a b d||(fp c d a||(fp c d b||(decide (lF a b c*lF a b d<0)&&decide (lF c d a*lF c d b<0)))))
theorem Et(a b c d:Pt):oh c d a b=oh a b c d:=by
 unfold oh;cases fp a b c<;>cases fp a b d<;>cases fp c d a<;>cases fp c d b<;>simp only[Bool.true_or,Bool.or_true,Bool.false_or,Bool.and_comm]
def nz:List Pt→Pt→List (Pt×Pt)
 |[],_=>[]
 |[x],z=>[(x,z)]
 |x::y::r,z=>(x,y)::nz (y::r) z
def ff:List Pt→List (Pt×Pt)
 |[]=>[]
 |x::r=>nz (x::r) x
def gV(f:Pt×Pt→Bool):List (Pt×Pt)→Bool
 |[]=>false
 |s::r=>f s^^gV f r
theorem yV(f:Pt→Bool):∀(l:List Pt) (x z:Pt),gV (fun s=>f s.1^^f s.2) (nz (x::l) z)=(f x^^f z)
 |[],x,z=>by simp[nz,gV]
 |y::l,x,z=>by
  rw[show nz (x::y::l) z=(x,y)::nz (y::l) z from rfl];unfold gV;rw[yV f l y z];cases f x<;>cases f y<;>cases f z<;>rfl
theorem Eu(f:Pt→Bool):∀l:List Pt,gV (fun s=>f s.1^^f s.2) (ff l)=false
 |[]=>rfl
 |x::l=>by
  rw[show ff (x::l)=nz (x::l) x from rfl,yV];simp
theorem Di(f g:Pt×Pt→Bool):∀l,gV (fun s=>f s^^g s) l=(gV f l^^gV g l)
 |[]=>rfl
 |s::l=>by
  unfold gV;rw[Di f g l];cases f s<;>cases g s<;>cases gV f l<;>cases gV g l<;>rfl
theorem vF{f g:Pt×Pt→Bool}:∀l,(∀s∈l,f s=g s)→gV f l=gV g l
 |[],_=>rfl
 |s::l,h=>by
  unfold gV;rw[h s (za4 ..),vF l fun t ht=>h t (za5 _ ht)]
def IO(p:Pt)(s:Pt×Pt):Bool:=(decide (s.1.2>p.2) !=decide (s.2.2>p.2))&&(decide (lF s.1 s.2 p>0)==decide (s.2.2>p.2))
def Ev(p:Pt)(s:Pt×Pt):Bool:=(decide (s.1.2>p.2)&&(decide (s.2.2≤p.2)&&decide (lF s.1 s.2 p>0)))||(decide (s.2.2>p.2)&&(decide (s.1.2≤p.2)&&decide (lF s.2 s.1 p>0)))
theorem sH{a b p:Pt}(h1:a.2>p.2)(h2:b.2≤p.2)(ht:lF a b p=0):fp a b p=true:=by
 have hc:LB (ve b a) (ve p a)=0:=sg_zero.1 ht;unfold fp;rw[za1 ht,Bool.true_and];have e:(a.1-p.1)*(b.2-p.2)=(a.2-p.2)*(b.1-p.1):=by
  unfold LB ve at hc;simp only at hc
  grind
 have h0:0≤((a.1-p.1)*(b.1-p.1))*((a.2-p.2)*(b.2-p.2)):=by
  have e2:((a.1-p.1)*(b.1-p.1))*((a.2-p.2)*(b.2-p.2))=((a.1-p.1)*(b.2-p.2))*((a.2-p.2)*(b.1-p.1)):=by grind
  rw[e2,←e];exact sF _
 have hy:(a.2-p.2)*(b.2-p.2)≤0:=mul_le_zero.2 (.inr ⟨by omega,by omega⟩);refine za1 ?_;show(a.1-p.1)*(b.1-p.1)+(a.2-p.2)*(b.2-p.2)≤0;refine(Dh h0).2 ⟨?_,hy⟩;by_cases hb:b.2-p.2=0
 ·rw[hb,Int.mul_zero] at e;have h3:b.1-p.1=0:=by
   rcases Int.mul_eq_zero.1 e.symm with h|h
   ·omega
   ·exact h
  rw[h3,Int.mul_zero];exact Int.le_refl 0
 ·have hlt:(a.2-p.2)*(b.2-p.2)<0:=Int.mul_neg_of_pos_of_neg (by omega) (by omega);apply Classical.byContradiction;intro hn;have:=Int.mul_neg_of_pos_of_neg (show 0<(a.1-p.1)*(b.1-p.1) by omega) hlt;omega
theorem IP{a b p:Pt}(h:fp a b p=false):(IO p (a,b)^^Ev p (a,b))=(decide (a.2>p.2)^^decide (b.2>p.2)):=by
 unfold IO Ev;simp only;rw[sG a b p];by_cases h1:a.2>p.2<;>by_cases h2:b.2>p.2
 ·rw[za1 h1,za1 h2,za2 (show¬b.2≤p.2 by omega),za2 (show¬a.2≤p.2 by omega)];simp
 ·have hb:b.2≤p.2:=by omega
  have ht:lF a b p≠0:=fun e=>by rw[sH h1 hb e] at h;cases h
  rw[za1 h1,za2 h2,za1 hb];by_cases hp:lF a b p>0
  ·rw[za1 hp];simp
  ·rw[za2 hp];simp
 ·have ha:a.2≤p.2:=by omega
  have ht:lF a b p≠0:=fun e=>by
   have:=sH h2 ha (show lF b a p=0 by rw[sG a b p];omega);rw[FR] at this;rw[this] at h;cases h
  rw[za2 h1,za1 h2,za1 ha];by_cases hp:lF a b p>0
  ·rw[za1 hp,za2 (show¬-lF a b p>0 by omega)];simp
  ·rw[za2 hp,za1 (show -lF a b p>0 by omega)];simp
 ·rw[za2 h1,za2 h2];simp
theorem BJ{l:List Pt}{p:Pt}(h:∀s∈ff l,fp s.1 s.2 p=false):gV (IO p) (ff l)=gV (Ev p) (ff l):=by
 have h1:gV (fun s=>IO p s^^Ev p s) (ff l)=false:=by
  rw[vF (g:=fun s=>decide (s.1.2>p.2)^^decide (s.2.2>p.2)) _ fun s hs=>IP (h s hs)];exact Eu (fun a=>decide (a.2>p.2)) l
 rw[Di] at h1
 revert h1
 cases gV (IO p) (ff l)<;>cases gV (Ev p) (ff l)<;>simp
abbrev Rl:=Nat×Nat×Int
structure BF where
 d:Nat→Int
 b:Nat→Option Nat
 t:Nat→Nat
 last:Option Nat
structure BInv(R:List Rl)(now:Nat)(S:BF):Prop where
 par:∀v i,S.b v=some i→∃u w,R[i]?=some (u,v,w)∧S.d v≤S.d u+w∧(S.t v≤S.t u→S.d v<S.d u+w)∧S.t v≤S.t u+R.length
 root:∀v,S.b v=none→S.d v=0∧S.t v=0
 pos:∀v,0≤S.d v
 tn:∀v,S.t v≤now
 edge:∀i u v w ρ,R[i]?=some (u,v,w)→ρ*R.length+i+1≤now→now<ρ*R.length+i+1+R.length→S.t u<ρ*R.length+i+1→S.d u+w≤S.d v
section
variable {R:List Rl}{now:Nat}{S:BF}
end
section
variable {R:List Rl}{now:Nat}{S:BF}{J:Nat}
end
end Go.Pd
end
section
namespace Go.Pd
open Go Go.Proofs
def ja:Bn:=fun k ds=>match k,ds with
 |109,[.slc f n c]=>some (.fn (.func 176) [] [.snap [.slc f n c] 0])
 |94,[.slc f n c]=>some (.fn (.func 160) [] [.snap [.slc f n c] 0])
 |_,_=>none
def S(l:List UInt8):D:= .str ⟨l.toArray⟩
def FS:List D:=[S [103,114,101,101,110],S [116,101,101],S [98,117,110,107,101,114],S [119,97,116,101,114],S [102,97,105,114,119,97,121],S [114,111,117,103,104]]
def powL:List D:=(List.range 20).map fun i=>D.int .u64 ((10^i:Nat):Int)
def ig:Nat→Option D:=fun g=>match g with
 |0=>some (.snap FS 0)
 |4=>some (.snap powL 0)
 |_=>none
def kQ(n:Nat)(a:List D):Nat→Nat→Option (List (List D))
 |0,_=>some []
 |k+1,i=>bu a (i*2+0) fun d=>bD .i64 d fun x=>bu a (i*2+1) fun d1=>bD .i64 d1 fun y=>
   bu a ((i+1)%n*2+0) fun d2=>bD .i64 d2 fun u=>bu a ((i+1)%n*2+1) fun d3=>bD .i64 d3 fun v=>
    qW [.int .i64 i,.agg [.int .i64 x,.int .i64 y,.int .i64 u,.int .i64 v]] (kQ n a k (i+1)) (some [])
def LL:Nat:=4611686018427387904
def IQ:FuncId→List D→Option (List (List D)):=fun g cs=>match g,cs with
 |176,[.snap [.slc _ n c] 0]=>bH (decide (n<4611686018427387904)) (kQ n c n 0)
 |_,_=>none
def IR(mu:FuncId→List D→Option D):FuncId→Option Mu:=fun k=>match k with
 |146=>some (.tab false (mu 146))
 |148=>some (.tab true (mu 148))
 |177=>some (.tab false (mu 177))
 |196=>some (.tab false (mu 196))
 |238=>some (.tab false (mu 238))
 |_=>none
noncomputable def VS(call mu:FuncId→List D→Option D)(L:Nat)(C:Nat→Nat)(sq:FuncId→List D→Option (List (List D))):TE:={E:={P:=Tryz.prog,gl:=ig,call:=call,L:=L,wr:=IR mu},cst:=ja,C:=C,sq:=sq}
def yW:FuncId→List D→Option D:=fun _ _=>none
noncomputable def IK(call:CL)(L:Nat)(C:Nat→Nat)(sq:FuncId→List D→Option (List (List D))):TE:=VS call yW L C sq
noncomputable def PR(call mu:FuncId→List D→Option D)(L:Nat)(C:Nat→Nat):TE:=VS call mu L C IQ
noncomputable def PB(call mu:FuncId→List D→Option D)(L:Nat)(C:Nat→Nat)(_:TypeId)(_:Nat):TE:=PR call mu L C
noncomputable def cF(call:CL)(L:Nat)(C:Nat→Nat):TE:=IK call L C IQ
noncomputable def LC(call:CL)(L:Nat)(C:Nat→Nat)(l:Nat):TE:={cF call L C with it:=some l}
noncomputable def PS(call:CL)(L:Nat)(C:Nat→Nat):TE:={E:={P:=Tryz.prog,gl:=ig,call:=call,L:=L,wr:=IR yW},cst:=fun _ _=>none,C:=C}
def O0:fX:=fun _=>none
def N0:bY:=fun _=>none
def PT(mu:FuncId→List D→Option D):FuncId→Option Mu:=fun k=>match k with
 |173=>some (.own 3 1)
 |104=>some (.plc 2 (mu 104))
 |_=>none
noncomputable def Ts(call mu:FuncId→List D→Option D)(L:Nat)(C:Nat→Nat)(_:TypeId)(_:Nat):TE:={E:={P:=Tryz.prog,gl:=ig,call:=call,L:=L,wr:=PT mu},cst:=ja,C:=C,sq:=IQ}
end Go.Pd
end
