import Derived.Test.YtjhoaknnmfifgaaGreatDoorUnH
import Derived.Test.YtjhoaknnmfifgaaGreatDoorUnP
section
namespace Go.Pd
open Go Go.Proofs Go.RowKit
set_option maxRecDepth 100000
section
variable {γ:Type}(c:D→Option γ)
theorem s0(pre:List Em)(x:Em)(r:List Em):bc ((pre++x::r).flatMap A8) (Int.toNat (pre.length:Int)*3+0) c=c (.str x.1):=bX pre x r A8 3 (fun _=>rfl) 0 (by omega) c
theorem s1(pre:List Em)(x:Em)(r:List Em):bc ((pre++x::r).flatMap A8) (Int.toNat (pre.length:Int)*3+1) c=c (.int .i64 x.2.1):=bX pre x r A8 3 (fun _=>rfl) 1 (by omega) c
theorem s2(pre:List Em)(x:Em)(r:List Em):bc ((pre++x::r).flatMap A8) (Int.toNat (pre.length:Int)*3+2) c=c (.int .i64 x.2.2):=bX pre x r A8 3 (fun _=>rfl) 2 (by omega) c
end
section
variable {call mu:FuncId→List D→Option D}{e:TypeId}{k0 n m:Nat}{b vi:Int}
end
end Go.Pd
end
