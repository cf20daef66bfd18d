import Derived.Test.YtmhbhlbnlmbhlaaGreatDoorCsE
import Derived.Test.YtmhbhlbnlmbhlaaGreatDoorCsJ
section
namespace Go.Pd
open Go Go.Proofs Go.RowKit
set_option maxRecDepth 100000
section
variable {B:FuncId→List D→Option D}{a way:Pt}
end
end Go.Pd
end
section
namespace Go.Pd
open Go
set_option maxRecDepth 100000
def VB(q:Int×Int):Prop:=0<q.2∧Nat.gcd q.1.natAbs q.2.natAbs=1
def SQ:={q:Int×Int//VB q∧q.1.natAbs≤8000000000000∧q.2.natAbs≤8000000000000}
instance:Inhabited SQ:=⟨⟨(0,1),⟨by decide,by decide⟩,by decide,by decide⟩⟩
end Go.Pd
end
section
namespace Go.Pd
open Go Go.Proofs Go.RowKit
set_option maxRecDepth 100000
end Go.Pd
end
section
namespace Go.Pd
open Go
set_option maxRecDepth 100000
structure Smf(q:Int×Int):Prop where
 n:q.1.natAbs≤8000000000000
 d:q.2.natAbs≤8000000000000
 p:0<q.2
 c:Nat.gcd q.1.natAbs q.2.natAbs=1
theorem Smf.ok{q:Int×Int}(h:Smf q):(fS q).Ok:=⟨zz (by have:=h.n;omega),zz (by have:=h.d;omega),h.p⟩
theorem Smf.b{q:Int×Int}(h:Smf q):(fS q).B 1:=⟨(xK _ _).2 (by have:=h.n;show q.1.natAbs<_;omega),(xK _ _).2 (by have:=h.d;show q.2.natAbs<_;omega)⟩
section
variable {x y:Int×Int}{a b:Pt}
theorem Fr.B.up{x:Fr}{k m:Nat}(h:x.B k)(hk:k≤m):x.B m:=⟨zb1 h.1 hk,zb1 h.2 hk⟩
def qN(q:Int×Int):Int×Nat:=(q.1,q.2.toNat)
theorem Smf.l{q:Int×Int}(h:Smf q):1≤(qN q).2:=by
 have:=h.p;show 1≤q.2.toNat;omega
theorem Smf.v{q:Int×Int}(h:Smf q):VQ (qN q) q.1 q.2:=by
 have:=h.p;show q.1*q.2=q.1*((q.2.toNat:Nat):Int);rw[Int.toNat_of_nonneg (by omega)]
theorem Smf.r{q:Int×Int}(h:Smf q):Rb 3 (qN q):=⟨h.l,xR (by have:=h.n;show q.1.natAbs≤_;omega),xR (by have:=h.d;have:=h.p;show q.2.toNat≤_;omega)⟩
theorem Smf.z{q:Int×Int}(h:Smf q):Zq (qN q):=fun h0=>by
 have h0:q.1=0:=h0;have hc:=h.c;have hp:=h.p;rw[h0,Int.natAbs_zero,Nat.gcd_zero_left] at hc;show q.2.toNat=1;omega
end
end Go.Pd
end
