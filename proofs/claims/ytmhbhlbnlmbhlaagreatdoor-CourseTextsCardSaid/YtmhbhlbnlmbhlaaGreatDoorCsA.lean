import Derived.Test.YtmhbhlbnlmbhlaaGreatDoorCrA
import Derived.Test.YtmhbhlbnlmbhlaaGreatDoorPdFf
import Derived.KernelRfl
import Init.Data.Nat.Lemmas
section
namespace Go.Pd
open Go Go.Proofs
end Go.Pd
end
section
namespace Go.Pd
open Go Go.Proofs
set_option maxRecDepth 100000
end Go.Pd
end
section
namespace Go.Pd
section
variable {B P v1 v2 vl u1 u2 u3 ul t r q:Nat}
theorem DE(hvl:vl<P)(hv:0<v1)(htop:t*v1+r=u1*B+u2)(ht:t≤B)(h:t*v2≤r*B+u3):t*((v1*B+v2)*P+vl)≤((u1*B+u2)*B+u3)*P+ul+((v1*B+v2)*P+vl):=by
 rw[←htop];have e1:t*(v1*B+v2)=t*v1*B+t*v2:=by rw[Nat.mul_add,ze4]
 have e2:(t*v1+r)*B=t*v1*B+r*B:=Nat.add_mul ..;have h1:t*(v1*B+v2)≤(t*v1+r)*B+u3:=by omega
 have h2:=Nat.mul_le_mul_right P h1;rw[ze4 t (v1*B+v2) P] at h2;have h3:t*vl≤B*P:=zc8 ht (zd0 hvl);have h4:B*P≤(v1*B+v2)*P:=Nat.mul_le_mul_right P (zb1 (Nat.le_mul_of_pos_left B hv) (Nat.le_add_right ..));rw[Nat.mul_add];omega
theorem GC(htop:t*v1+r=u1*B+u2)(h:t*v2≤r*B+u3):t*(v1*B+v2)≤(u1*B+u2)*B+u3:=by
 rw[←htop];have e1:t*(v1*B+v2)=t*v1*B+t*v2:=by rw[Nat.mul_add,ze4]
 have e2:(t*v1+r)*B=t*v1*B+r*B:=Nat.add_mul ..;omega
theorem DF(ht:t≤B)(hv2:v2<B)(hr:B≤r):t*v2≤r*B+u3:=by
 have h1:t*v2≤B*B:=zc8 ht (zd0 hv2);have h2:B*B≤r*B:=Nat.mul_le_mul_right B hr;omega
end
def vB(B:Nat)(f:Nat→Nat):Nat→Nat
 |0=>0
 |n+1=>vB B f n+f n*B^n
theorem B3{B:Nat}{f g:Nat→Nat}:∀n,(∀k,k<n→f k=g k)→vB B f n=vB B g n
 |0,_=>rfl
 |n+1,h=>by
  show vB B f n+f n*B^n=vB B g n+g n*B^n;rw[B3 n fun k hk=>h k (by omega),h n (by omega)]
section
variable {B P t vi c ui c' u' L L' V:Nat}
theorem J0(h:L'+t*V=L+c*P)(h2:u'+(t*vi+c)=ui+c'*B):(L'+u'*P)+t*(V+vi*P)=(L+ui*P)+c'*(P*B):=by
 have e:(u'+(t*vi+c))*P=(ui+c'*B)*P:=by rw[h2]
 have e1:t*(V+vi*P)=t*V+t*vi*P:=by rw[Nat.mul_add,ze4]
 have e2:c'*(P*B)=c'*B*P:=by rw[ze3 P B,ze4]
 rw[Nat.add_mul,Nat.add_mul,Nat.add_mul] at e;omega
theorem J1(h:L'+c*P=L+V)(h2:u'+c'*B=ui+vi+c):(L'+u'*P)+c'*(P*B)=(L+ui*P)+(V+vi*P):=by
 have e:(u'+c'*B)*P=(ui+vi+c)*P:=by rw[h2]
 have e2:c'*(P*B)=c'*B*P:=by rw[ze3 P B,ze4]
 rw[Nat.add_mul,Nat.add_mul,Nat.add_mul] at e;omega
end
section
variable {U V P Ul un t c L:Nat}
end
end Go.Pd
end
