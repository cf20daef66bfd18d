import Derived.Test.YtmhbhlbnlmbhlaaGreatDoorCrA
import Derived.KernelRfl
import Derived.Test.YtmhbhlbnlmbhlaaGreatDoorCsI
import Derived.Test.YtmhbhlbnlmbhlaaGreatDoorCrD
import Derived.Test.YtmhbhlbnlmbhlaaGreatDoorCsE
section
namespace Go.Pd
open Go Go.Proofs
set_option maxRecDepth 100000
theorem Ke(call:CL)(L:Nat)(C:Nat→Nat)(q:Int):bT (cF call L C) O0 N0 FinM.canon Tryz.f165 [D.int .i64 q]=
 (bB (call 208 [D.int .i64 q]) fun r=>dq r 2 fun c=>bu c 0 fun d=>ce d fun b=>bu c 1 fun J=>dr J fun f n z=>bB (call 213 [D.agg [D.bool b,D.slc f n z]]) fun K=>bU K fun s=>some (D.str s)):=by kernel_rfl
end Go.Pd
end
section
namespace Go.Pd
open Go Go.Proofs Go.RowKit
set_option maxRecDepth 100000
def famT208:Fam:=LS 208 (fun n:Int=> .int .i64 n) (fun n=>n.natAbs≤9000000000000000000) fun n=>tJ (decide (n=0)) n
theorem xQ:famT208.Good:=B4 (fun x y h=>by
 simp only[D.int.injEq,true_and] at h;exact h) (fun n h=>Sc n h) fun _=>rfl
theorem xR{n:Nat}(h:n≤9000000000000000000):(gf n).length≤3:=N7 (Nat.lt_of_le_of_lt h (by decide))
theorem Sg(n:Int)(h:n.natAbs≤9000000000000000000):OK2 165 [.int .i64 n] (.str (R8 (n,1))):=by
 obtain⟨B,hB,e8,e3,_⟩:=fP [famT208,one 213 [tJ (decide (n=0)) n] (.str (bs (xO n 1)))] ⟨xQ,bM (Sa n (zb1 (xR h) (by omega))) rfl,trivial⟩ rfl;have g8:bw B 208 [.int .i64 n]=some (tJ (decide (n=0)) n):=e8 ⟨n,h⟩;have g3:bw B 213 [tJ (decide (n=0)) n]=some (.str (bs (xO n 1))):=e3 ();exact dT hB Tryz.func165 (ord:=O0) (N:=N0) (by kernel_rfl) ((Ke _ _ _ _).trans (bI g8 (bI g3 rfl)))
def VQ(q:Int×Nat)(n d:Int):Prop:=q.1*d=n*(q.2:Int)
theorem Kf(n:Int){d:Nat}(h:0<d):VQ (Kc n d) n (d:Int):=by
 have hg:0<Nat.gcd n.natAbs d:=Nat.gcd_pos_of_pos_right _ h;obtain⟨a,ha⟩:=Int.ofNat_dvd_left.2 (Nat.gcd_dvd_left n.natAbs d);obtain⟨b,hb⟩:=Nat.gcd_dvd_right n.natAbs d;have e1:(Kc n d).1=a:=by
  show Int.tdiv n _=a;rw[Int.tdiv_eq_ediv_of_dvd ⟨a,ha⟩]
  conv=>lhs;lhs;rw[ha]
  exact Int.mul_ediv_cancel_left _ (by omega)
 have e2:(Kc n d).2=b:=by
  show d/_=b
  conv=>lhs;lhs;rw[hb]
  exact Nat.mul_div_cancel_left _ hg
 have hd:(d:Int)=((Nat.gcd n.natAbs d:Nat):Int)*(b:Int):=by rw[←Int.natCast_mul,←hb]
 unfold VQ;rw[e1,e2];generalize ((Nat.gcd n.natAbs d:Nat):Int)=g at*;rw[hd]
 conv=>rhs;rw[ha]
 grind
theorem VQ.mk{q:Int×Nat}{N D n d:Int}(h:VQ q N D)(hD:D≠0)(h2:N*d=n*D):VQ q n d:=by
 unfold VQ at h ⊢;refine Int.eq_of_mul_eq_mul_right hD ?_
 grind
theorem N9{x y:Int×Nat}(hx:1≤x.2)(hy:1≤y.2):((x.2*y.2:Nat):Int)≠0:=by
 have:=Nat.mul_pos hx hy;omega
theorem VQ.add{x y:Int×Nat}{n d m e:Int}(hx:VQ x n d)(hy:VQ y m e)(px:1≤x.2)(py:1≤y.2):VQ (Se x y) (n*e+m*d) (d*e):=by
 unfold VQ at hx hy;refine(Kf (N5 x y) (Nat.mul_pos px py)).mk (N9 px py) ?_;unfold N5;rw[Int.natCast_mul]
 grind
theorem VQ.neg{x:Int×Nat}{n d:Int}(hx:VQ x n d):VQ (N8 x) (-n) d:=by
 unfold VQ at hx ⊢;show -x.1*d= -n*(x.2:Int)
 grind
theorem VQ.sub{x y:Int×Nat}{n d m e:Int}(hx:VQ x n d)(hy:VQ y m e)(px:1≤x.2)(py:1≤y.2):VQ (Sf x y) (n*e-m*d) (d*e):=by
 have:=hx.add hy.neg px (show 1≤(N8 y).2 from py);unfold Sf
 rwa [show n*e-m*d=n*e+ -m*d by grind]
abbrev QP:=(Int×Nat)×(Int×Nat)
structure QP.Ok(p:QP):Prop where
 x:Rb 40 p.1
 y:Rb 40 p.2
 zx:Zq p.1
 zy:Zq p.2
end Go.Pd
end
section
namespace Go.Pd
open Go
set_option maxRecDepth 100000
end Go.Pd
end
