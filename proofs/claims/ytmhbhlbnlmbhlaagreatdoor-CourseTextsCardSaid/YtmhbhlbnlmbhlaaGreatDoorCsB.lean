import Derived.Test.YtmhbhlbnlmbhlaaGreatDoorCsA
import Derived.Test.YtmhbhlbnlmbhlaaGreatDoorCrB
import Derived.Test.YtmhbhlbnlmbhlaaGreatDoorCrN
section
namespace Go.Pd
open Go Go.Proofs Go.RowKit
set_option maxRecDepth 100000
theorem RelC.u2{I:Nat→Prop}{w:World}{a b:Int}:RelC I w (.tup [.int .u64 a,.int .u64 b]) (.tuple #[.int .u64 a,.int .u64 b]):=by
 refine .tup _ _ rfl fun j d v hd hv=> ?_
 match j with
 |0=>simp at hd hv;subst hd hv;exact .int _ _
 |1=>simp at hd hv;subst hd hv;exact .int _ _
 |j+2=>simp at hd
theorem OK2.imp{k:FuncId}{ds:List D}{r r':D}(h:OK2 k ds r)(hr:∀(I:Nat→Prop) (w:World) (v:Value),RelC I w r v→RelC I w r' v):OK2 k ds r':=
 ⟨h.1,fun I w vs hI hg hl ha=>(h.2 I w vs hI hg hl ha).mono fun _ _ ⟨v,he,hv,hb⟩=>⟨v,he,hr _ _ _ hv,hb⟩⟩
def Wm{α:Type}(e:α→D):Prop:=∀x y,e x=e y→x=y
def LS(k:FuncId){α:Type}(e1:α→D)(Q:α→Prop)(r:α→D):Fam:=⟨k,{x:α//Q x},fun x=>[e1 x.1],fun x=>r x.1⟩
theorem B4{k:FuncId}{α:Type}{e1:α→D}{Q:α→Prop}{r:α→D}(i1:Wm e1)(h:∀a,Q a→OK2 k [e1 a] (r a))(hc:∀a,ja k [a]=none):(LS k e1 Q r).Good:=
 ⟨fun x=>h x.1 x.2,fun x y e=>by
  have e:[e1 x.1]=[e1 y.1]:=e;simp only[zc5,and_true] at e;show r x.1=r y.1;rw[i1 _ _ e],fun x=>hc _⟩
def nD(n:Int):D:= .int .i64 n
def NS(f:Nat→Nat)(v x:Nat):Nat→Nat:=fun k=>if k=v then x else f k
theorem J2{f:Nat→Nat}{v x k:Nat}(h:k≠v):NS f v x k=f k:=if_neg h
def v7(N k:Nat):Nat:=N/18446744073709551616^k%18446744073709551616
theorem NT(N k:Nat):v7 N k<18446744073709551616:=ze1 _ (by omega)
def xJ(n:Nat):Nat:=if n=0 then 0 else xJ (n/18446744073709551616)+1
termination_by n
decreasing_by omega
theorem v8:xJ 0=0:=by rw[xJ];rfl
theorem zw{n:Nat}(h:n≠0):xJ n=xJ (n/18446744073709551616)+1:=by rw[xJ,if_neg h]
theorem GD{n:Nat}:xJ n=0↔n=0:=by
 constructor
 ·intro h;by_cases h0:n=0
  ·exact h0
  ·rw[zw h0] at h;omega
 ·rintro rfl
  exact v8
theorem xK:∀(m n:Nat),xJ n≤m↔n<18446744073709551616^m
 |0,n=>by
  rw[Nat.pow_zero,Nat.le_zero,GD];omega
 |m+1,n=>by
  by_cases h0:n=0
  ·subst h0;rw[v8];exact⟨fun _=>Nat.pow_pos (by omega),fun _=>by omega⟩
  ·rw[zw h0,Nat.add_le_add_iff_right,xK m,ze2 (by omega),Nat.pow_succ]
theorem VA(a i:Nat):a/18446744073709551616^(i+1)=a/18446744073709551616^i/18446744073709551616:=by rw[Nat.pow_succ,Nat.div_div_eq_div_mul]
section
variable {B:FuncId→List D→Option D}{fx fy:Bool}{x y:Nat}
end
section
variable {B:FuncId→List D→Option D}{fx fy:Bool}{x y d:Nat}
end
structure RowF(n z:Nat)(f:Nat→Nat):Prop where
 d:∀k,k<n→f k<18446744073709551616
 z:∀k,z≤k→k<n→f k=0
theorem RowF.upd{n z v x:Nat}{f:Nat→Nat}(h:RowF n z f)(hx:x<18446744073709551616){z':Nat}(hz:z≤z')(hv:v<z'):RowF n z' (NS f v x):=
 ⟨fun k hk=>by
  unfold NS;split
  ·exact hx
  ·exact h.d k hk,fun k h1 h2=>by
  rw[J2 (by omega)];exact h.z k (by omega) h2⟩
section
variable {B:FuncId→List D→Option D}{a b:Nat}{fa fb:Bool}
end
theorem fd(x k:Nat):Int.fdiv (x:Int) (2^k)=((x/2^k:Nat):Int):=by
 rw[Int.fdiv_eq_ediv_of_nonneg _ (Int.le_of_lt (Int.pow_pos (by omega)))]
 norm_cast
structure Gs(y1 y0 t u q r:Nat):Prop where
 e:q*y1+r=t
 q:(t*4294967296+u)/(y1*4294967296+y0)≤q
 r:r<4294967296
theorem Gs.done{y1 y0 t u q r:Nat}(h:Gs y1 y0 t u q r)(hy:0<y1*4294967296+y0)(hc:q*y0≤r*4294967296+u):q=(t*4294967296+u)/(y1*4294967296+y0):=by
 refine Nat.le_antisymm ((Nat.le_div_iff_mul_le hy).2 ?_) h.q;have:=GC (B:=4294967296) (v1:=y1) (v2:=y0) (u1:=0) (u2:=t) (u3:=u) (t:=q) (r:=r) (by rw[h.e];omega) hc;simpa using this
end Go.Pd
end
