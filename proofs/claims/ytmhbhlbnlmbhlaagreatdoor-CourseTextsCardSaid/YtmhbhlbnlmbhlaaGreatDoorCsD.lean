import Derived.Test.YtmhbhlbnlmbhlaaGreatDoorCsA
import Derived.KernelRfl
import Derived.Test.YtmhbhlbnlmbhlaaGreatDoorCsC
section
namespace Go.Pd
open Go Go.Proofs
set_option maxRecDepth 100000
end Go.Pd
end
section
namespace Go.Pd
open Go Go.Proofs Go.RowKit
set_option maxRecDepth 100000
abbrev ZR:=Int×Bool
def ZR.Ok(x:ZR):Prop:=(x.2=true→-9223372036854775808≤x.1∧x.1<9223372036854775808)∧(x.2=false→9223372036854775808≤x.1.natAbs)
def Rm(n:Int):Prop:= -9223372036854775808≤n∧n<9223372036854775808
def zL(x:ZR):Nat:=xJ x.1.natAbs
end Go.Pd
end
