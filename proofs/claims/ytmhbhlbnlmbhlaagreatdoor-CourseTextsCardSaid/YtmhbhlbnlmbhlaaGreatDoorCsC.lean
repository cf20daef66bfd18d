import Derived.Test.YtmhbhlbnlmbhlaaGreatDoorCsB
import Derived.Test.YtmhbhlbnlmbhlaaGreatDoorPdFf
section
namespace Go.Pd
open Go Go.Proofs Go.RowKit
set_option maxRecDepth 100000
section
variable {B:FuncId→List D→Option D}{f:Bool}{a S s:Nat}
end
section
variable {ca:List D}{off m i:Nat}{g:Nat→Nat}
end
structure Two(U V n:Nat):Prop where
 n2:2≤n
 v:V<18446744073709551616^n
 t:9223372036854775808≤v7 V (n-1)
 u:U<V*18446744073709551616
theorem oK{N n:Nat}:N/18446744073709551616^n=N/18446744073709551616^(n+1)*18446744073709551616+v7 N n:=by
 rw[VA];unfold v7;omega
theorem Two.laid{U V n:Nat}(h:Two U V n):∃P vl ul,V=(v7 V (n-1)*18446744073709551616+v7 V (n-2))*P+vl∧vl<P∧U=((v7 U n*18446744073709551616+v7 U (n-1))*18446744073709551616+v7 U (n-2))*P+ul∧ul<P:=by
 obtain⟨m,rfl⟩:∃m,n=m+2:=⟨n-2,by have:=h.n2;omega⟩;have hp:0<18446744073709551616^m:=Nat.pow_pos (by omega);refine⟨18446744073709551616^m,V%18446744073709551616^m,U%18446744073709551616^m,?_,ze1 _ hp,?_,ze1 _ hp⟩
 ·have h1:V/18446744073709551616^(m+2)=0:=Nat.div_eq_of_lt h.v;have h2:=oK (N:=V) (n:=m+1);have h3:=oK (N:=V) (n:=m);rw[h1,Nat.zero_mul,Nat.zero_add] at h2;rw[h2] at h3;rw[show m+2-1=m+1 by omega,ze6,←h3,ze3];exact(Nat.div_add_mod _ _).symm
 ·have hU:U<18446744073709551616^(m+3):=by
   rw[Nat.pow_succ];exact zb2 h.u (Nat.mul_le_mul_right _ (zd0 h.v))
  have h1:U/18446744073709551616^(m+3)=0:=Nat.div_eq_of_lt hU;have h2:=oK (N:=U) (n:=m+2);have h3:=oK (N:=U) (n:=m+1);have h4:=oK (N:=U) (n:=m);rw[h1,Nat.zero_mul,Nat.zero_add] at h2;rw[h2] at h3;rw[h3] at h4;rw[show m+2-1=m+1 by omega,ze6,←h4,ze3];exact(Nat.div_add_mod _ _).symm
structure Gu(U V n q R:Nat):Prop where
 e:q*v7 V (n-1)+R=v7 U n*18446744073709551616+v7 U (n-1)
 le:U/V≤q
 lt:q<18446744073709551616
theorem Two.pos{U V n:Nat}(h:Two U V n):0<V:=by
 refine Nat.pos_of_ne_zero fun h0=> ?_;have:=h.t;subst h0;unfold v7 at this;rw[Nat.zero_div] at this;omega
theorem Two.quo{U V n:Nat}(h:Two U V n):U/V<18446744073709551616:=(ze2 h.pos).2 (by rw[ze3];exact h.u)
theorem Gu.done{U V n q R:Nat}(h:Two U V n)(g:Gu U V n q R)(hc:q*v7 V (n-2)≤R*18446744073709551616+v7 U (n-2)):q≤U/V+1:=by
 obtain⟨P,vl,ul,e1,h1,e2,h2⟩:=h.laid;have ht:=h.t;have:=DE (B:=18446744073709551616) (P:=P) (v1:=v7 V (n-1)) (v2:=v7 V (n-2)) (vl:=vl) (u1:=v7 U n) (u2:=v7 U (n-1)) (u3:=v7 U (n-2)) (ul:=ul) (t:=q) (r:=R) h1 (by omega) g.e (zd0 g.lt) hc;rw[←e1,←e2] at this;have hd:U<(U/V+1)*V:=by
  have:=Nat.div_add_mod U V;have:=ze1 U h.pos;rw[Nat.add_mul,Nat.one_mul,ze3];omega
 refine Nat.le_of_lt_succ (Nat.lt_of_mul_lt_mul_right (a:=V) ?_);rw[Nat.succ_mul];omega
theorem Gu.over{U V n q R:Nat}(h:Two U V n)(g:Gu U V n q R)(hR:18446744073709551616≤R):q≤U/V+1:=
 g.done h (DF (zd0 g.lt) (NT V (n-2)) hR)
section
variable {B mu:FuncId→List D→Option D}{te0:TypeId}{tn0:Nat}{ca:List D}{off:Nat}{fv:Bool}{U V n q:Nat}
end
section
variable {B mu:FuncId→List D→Option D}{te0:TypeId}{tn0:Nat}{ca:List D}{off:Nat}{fv:Bool}{U V n:Nat}
end
section
variable {B mu:FuncId→List D→Option D}{X r s n m:Nat}
end
section
variable {U V n m:Nat}
end
section
variable {B mu:FuncId→List D→Option D}{U V n m s:Nat}
end
end Go.Pd
end
