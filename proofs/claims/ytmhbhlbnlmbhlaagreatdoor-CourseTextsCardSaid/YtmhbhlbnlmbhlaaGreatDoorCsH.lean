import Derived.Test.YtmhbhlbnlmbhlaaGreatDoorCrA
import Derived.KernelRfl
import Derived.Test.YtmhbhlbnlmbhlaaGreatDoorCsG
import Derived.Test.YtmhbhlbnlmbhlaaGreatDoorCsA
import Derived.Test.YtmhbhlbnlmbhlaaGreatDoorCsB
section
namespace Go.Pd
open Go Go.Proofs
set_option maxRecDepth 100000
end Go.Pd
end
section
namespace Go.Pd
open Go Go.Proofs Go.RowKit
set_option maxRecDepth 100000
def dN(N k:Nat):Nat:=jV N k%1000000000
theorem Sd(N k:Nat):dN N k<1000000000:=ze1 _ (by omega)
structure TwoT(U V n:Nat):Prop where
 n2:2≤n
 v:V<1000000000^n
 t:500000000≤dN V (n-1)
 u:U<V*1000000000
theorem tK{N n:Nat}:N/1000000000^n=N/1000000000^(n+1)*1000000000+dN N n:=by
 unfold dN jV;rw[Nat.pow_succ,←Nat.div_div_eq_div_mul];omega
theorem TwoT.laid{U V n:Nat}(h:TwoT U V n):∃P vl ul,V=(dN V (n-1)*1000000000+dN V (n-2))*P+vl∧vl<P∧U=((dN U n*1000000000+dN U (n-1))*1000000000+dN U (n-2))*P+ul∧ul<P:=by
 obtain⟨m,rfl⟩:∃m,n=m+2:=⟨n-2,by have:=h.n2;omega⟩;have hp:0<1000000000^m:=Nat.pow_pos (by omega);refine⟨1000000000^m,V%1000000000^m,U%1000000000^m,?_,ze1 _ hp,?_,ze1 _ hp⟩
 ·have h1:V/1000000000^(m+2)=0:=Nat.div_eq_of_lt h.v;have h2:=tK (N:=V) (n:=m+1);have h3:=tK (N:=V) (n:=m);rw[h1,Nat.zero_mul,Nat.zero_add] at h2;rw[h2] at h3;rw[show m+2-1=m+1 by omega,ze6,←h3,ze3];exact(Nat.div_add_mod _ _).symm
 ·have hU:U<1000000000^(m+3):=by
   rw[Nat.pow_succ];exact zb2 h.u (Nat.mul_le_mul_right _ (zd0 h.v))
  have h1:U/1000000000^(m+3)=0:=Nat.div_eq_of_lt hU;have h2:=tK (N:=U) (n:=m+2);have h3:=tK (N:=U) (n:=m+1);have h4:=tK (N:=U) (n:=m);rw[h1,Nat.zero_mul,Nat.zero_add] at h2;rw[h2] at h3;rw[h3] at h4;rw[show m+2-1=m+1 by omega,ze6,←h4,ze3];exact(Nat.div_add_mod _ _).symm
structure GuT(U V n q R:Nat):Prop where
 e:q*dN V (n-1)+R=dN U n*1000000000+dN U (n-1)
 le:U/V≤q
 lt:q≤1000000001
theorem TwoT.pos{U V n:Nat}(h:TwoT U V n):0<V:=by
 refine Nat.pos_of_ne_zero fun h0=> ?_;have:=h.t;subst h0;unfold dN jV at this;rw[Nat.zero_div] at this;omega
theorem TwoT.quo{U V n:Nat}(h:TwoT U V n):U/V<1000000000:=(ze2 h.pos).2 (by rw[ze3];exact h.u)
theorem GuT.done{U V n q R:Nat}(h:TwoT U V n)(g:GuT U V n q R)(hB:q≤1000000000)(hc:q*dN V (n-2)≤R*1000000000+dN U (n-2)):q≤U/V+1:=by
 obtain⟨P,vl,ul,e1,h1,e2,h2⟩:=h.laid;have ht:=h.t;have:=DE (B:=1000000000) (P:=P) (v1:=dN V (n-1)) (v2:=dN V (n-2)) (vl:=vl) (u1:=dN U n) (u2:=dN U (n-1)) (u3:=dN U (n-2)) (ul:=ul) (t:=q) (r:=R) h1 (by omega) g.e hB hc;rw[←e1,←e2] at this;have hd:U<(U/V+1)*V:=by
  have:=Nat.div_add_mod U V;have:=ze1 U h.pos;rw[Nat.add_mul,Nat.one_mul,ze3];omega
 refine Nat.le_of_lt_succ (Nat.lt_of_mul_lt_mul_right (a:=V) ?_);rw[Nat.succ_mul];omega
theorem GuT.over{U V n q R:Nat}(h:TwoT U V n)(g:GuT U V n q R)(hB:q≤1000000000)(hR:1000000000≤R):q≤U/V+1:=
 g.done h hB (DF hB (Sd V (n-2)) hR)
section
variable {B:FuncId→List D→Option D}{fu fv:Bool}{m n j U V:Nat}{g:Nat→Nat}
end
theorem mM(f:Nat→Nat)(v x:Nat):vr f v x v=x:=if_pos rfl
theorem jC{f:Nat→Nat}{v x k:Nat}(h:k≠v):vr f v x k=f k:=if_neg h
section
variable {B:FuncId→List D→Option D}{fc qc:List D}{fv:Bool}{V n m j qn n5:Nat}{r:D}
structure MsI(V t j:Nat)(g0 g:Nat→Nat)(i c:Nat):Prop where
 low:∀k,k<j→g k=g0 k
 up:∀k,j+i≤k→g k=g0 k
 dig:∀k,k<i→g (j+k)<1000000000
 sum:vB 1000000000 (fun k=>g (j+k)) i+t*vB 1000000000 (dN V) i=vB 1000000000 (fun k=>g0 (j+k)) i+c*1000000000^i
 car:c≤1000000000
theorem MsI.step{t i c:Nat}{g0 g:Nat→Nat}(h:MsI V t j g0 g i c){x c':Nat}(hx:x<1000000000)(hc:c'≤1000000000)(he:x+(t*dN V i+c)=g0 (j+i)+c'*1000000000):MsI V t j g0 (vr g (j+i) x) (i+1) c':=by
 refine⟨fun k hk=> ?_,fun k hk=> ?_,fun k hk=> ?_,?_,hc⟩
 ·rw[jC (by omega)];exact h.low k hk
 ·rw[jC (by omega)];exact h.up k (by omega)
 ·by_cases e:k=i
  ·subst e;rw[mM];exact hx
  ·rw[jC (by omega)];exact h.dig k (by omega)
 ·show vB 1000000000 (fun k=>vr g (j+i) x (j+k)) i+vr g (j+i) x (j+i)*1000000000^i+t*(vB 1000000000 (dN V) i+dN V i*1000000000^i)=(vB 1000000000 (fun k=>g0 (j+k)) i+g0 (j+i)*1000000000^i)+c'*1000000000^(i+1);rw[mM,B3 (f:=fun k=>vr g (j+i) x (j+k)) (g:=fun k=>g (j+k)) i (fun k hk=>jC (by omega)),Nat.pow_succ];exact J0 h.sum he
structure AbI(V j:Nat)(g0 g:Nat→Nat)(i c:Nat):Prop where
 low:∀k,k<j→g k=g0 k
 up:∀k,j+i≤k→g k=g0 k
 dig:∀k,k<i→g (j+k)<1000000000
 sum:vB 1000000000 (fun k=>g (j+k)) i+c*1000000000^i=vB 1000000000 (fun k=>g0 (j+k)) i+vB 1000000000 (dN V) i
 car:c≤1
theorem AbI.step{i c:Nat}{g0 g:Nat→Nat}(h:AbI V j g0 g i c){x c':Nat}(hx:x<1000000000)(hc:c'≤1)(he:x+c'*1000000000=g0 (j+i)+dN V i+c):AbI V j g0 (vr g (j+i) x) (i+1) c':=by
 refine⟨fun k hk=> ?_,fun k hk=> ?_,fun k hk=> ?_,?_,hc⟩
 ·rw[jC (by omega)];exact h.low k hk
 ·rw[jC (by omega)];exact h.up k (by omega)
 ·by_cases e:k=i
  ·subst e;rw[mM];exact hx
  ·rw[jC (by omega)];exact h.dig k (by omega)
 ·show vB 1000000000 (fun k=>vr g (j+i) x (j+k)) i+vr g (j+i) x (j+i)*1000000000^i+c'*1000000000^(i+1)=(vB 1000000000 (fun k=>g0 (j+k)) i+g0 (j+i)*1000000000^i)+(vB 1000000000 (dN V) i+dN V i*1000000000^i);rw[mM,B3 (f:=fun k=>vr g (j+i) x (j+k)) (g:=fun k=>g (j+k)) i (fun k hk=>jC (by omega)),Nat.pow_succ];exact J1 h.sum he
end
section
variable {B:FuncId→List D→Option D}{fc qc:List D}{fv:Bool}{U V n m j qn n5:Nat}{r:D}
end
structure In270(x:Nat×(Nat→Nat)×Nat×Nat×Bool):Prop where
 a:(gf x.2.2.1).length≤900000
 b:x.2.2.2.1+(gf x.2.2.1).length<x.1
 c:x.1≤1000000
 d:∃U,TwoT U x.2.2.1 (gf x.2.2.1).length∧∀i,i≤(gf x.2.2.1).length→x.2.1 (x.2.2.2.1+i)=dN U i
section
variable {B:FuncId→List D→Option D}{fv:Bool}{U V n m qn f:Nat}
end
end Go.Pd
end
