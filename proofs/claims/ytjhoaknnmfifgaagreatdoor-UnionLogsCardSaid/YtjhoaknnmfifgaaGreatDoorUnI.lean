import Derived.Test.YtjhoaknnmfifgaaGreatDoorUnH
import Derived.Test.YtjhoaknnmfifgaaGreatDoorUnG
section
namespace Go.Pd
open Go Go.Proofs Go.RowKit
def hP(l:List Ds)(i:Nat):Int:=(l.getD i (0,0)).1
def hS(l:List Ds)(i:Nat):Int:=(l.getD i (0,0)).2
section
variable {γ:Type}
end
section
variable {f0 f1 f2 f3 f4 f5:Bool}{b0 b1 b2 b3 b4 b5:Nat}{e0 e1 e2 e3 e4 e5:List D}
end
end Go.Pd
end
section
namespace Go.Pd
open Go Go.Proofs Go.RowKit
set_option maxRecDepth 100000
section
variable {f0 f1 f2 f3 f4 f5:Bool}{b0 b1 b2 b3 b4 b5:Nat}{e0 e1 e2 e3 e4 e5:List D}
end
def CrdV.Fit(c:CrdV):Prop:=c.1.size≤1000∧c.2.2.length≤1000
section
variable {γ:Type}(c:D→Option γ)
theorem c0(pre:List CrdV)(x:CrdV)(r:List CrdV):bc ((pre++x::r).flatMap FO) (Int.toNat (pre.length:Int)*2+0) c=c (.str x.1):=bX pre x r FO 2 (fun _=>rfl) 0 (by omega) c
theorem p1(pre:List KepV)(x:KepV)(r:List KepV):bc ((pre++x::r).flatMap AW) (Int.toNat (pre.length:Int)*3+1) c=c (.slc x.2.1.1 x.2.1.2.length (x.2.1.2.flatMap MC)):=bX pre x r AW 3 (fun _=>rfl) 1 (by omega) c
theorem p2(pre:List KepV)(x:KepV)(r:List KepV):bc ((pre++x::r).flatMap AW) (Int.toNat (pre.length:Int)*3+2) c=c (.slc x.2.2.1 x.2.2.2.length (x.2.2.2.flatMap FO)):=bX pre x r AW 3 (fun _=>rfl) 2 (by omega) c
end
def KepV.Fit(k:KepV):Prop:=k.1.size≤1000∧k.2.2.2.length≤100000∧∀c∈k.2.2.2,c.Fit
section
variable {f0 f1 f2 f3 f4 f5:Bool}{b0 b1 b2 b3 b4 b5:Nat}{e0 e1 e2 e3 e4 e5:List D}
end
section
variable {f0 f1 f2 f3 f4 f5:Bool}{b0 b1 b2 b3 b4 b5:Nat}{e0 e1 e2 e3 e4 e5:List D}
end
section
variable (u:UV){B:FuncId→List D→Option D}
end
section
variable {f0 f1 f2 f3 f4 f5:Bool}{b0 b1 b2 b3 b4 b5:Nat}{e0 e1 e2 e3 e4 e5:List D}{B:FuncId→List D→Option D}
end
section
variable (u:UV)
end
section
variable {f0 f1 f2 f3 f4 f5:Bool}{b0 b1 b2 b3 b4 b5:Nat}{e0 e1 e2 e3 e4 e5:List D}{B:FuncId→List D→Option D}
end
end Go.Pd
end
