import Derived.Test.YtmhbhlbnlmbhlaaGreatDoorCsH
import Derived.Test.YtmhbhlbnlmbhlaaGreatDoorCsG
section
namespace Go.Pd
open Go Go.Proofs Go.RowKit
set_option maxRecDepth 100000
theorem N7{a k:Nat}(h:a<1000000000^k):(gf a).length≤k:=Nat.le_of_not_lt fun hc=>(len_lt.1 hc) (Nat.div_eq_of_lt h)
section
variable {B:FuncId→List D→Option D}{fa fv:Bool}{a V n U f:Nat}{fc:List D}{r:D}
end
section
variable {B:FuncId→List D→Option D}{fv:Bool}{U V n m qn f:Nat}
end
structure Rb(k:Nat)(x:Int×Nat):Prop where
 l:1≤x.2
 n:(gf x.1.natAbs).length≤k
 d:(gf x.2).length≤k
def Kc(n:Int)(d:Nat):Int×Nat:=(Int.tdiv n ((Nat.gcd n.natAbs d:Nat):Int),d/Nat.gcd n.natAbs d)
def Se(x y:Int×Nat):Int×Nat:=Kc (N5 x y) (x.2*y.2)
theorem Rb.up{x:Int×Nat}{k m:Nat}(h:Rb k x)(hk:k≤m):Rb m x:=⟨h.l,zb1 h.n hk,zb1 h.d hk⟩
def Zq(x:Int×Nat):Prop:=x.1=0→x.2=1
def N8(x:Int×Nat):Int×Nat:=(-x.1,x.2)
def Sf(x y:Int×Nat):Int×Nat:=Se x (N8 y)
end Go.Pd
end
