import Derived.Shelf.Spec.SlicesInsert
import Derived.Laws.CopyRow
import Derived.Lib.AppendZerosOnto
import Derived.Test.YtjhoaknnmfifgaaGreatDoorPdFf
import Derived.Test.YtjhoaknnmfifgaaGreatDoorUnA
import Derived.Test.YtjhoaknnmfifgaaGreatDoorUnG
import Derived.KernelRfl
section
namespace Go.Pd
open Go Go.Proofs Go.RowKit Go.Lib
set_option maxRecDepth 100000
structure AsideM(p:Prop):Prop where
 out:p
end Go.Pd
end
section
namespace Go.Pd
open Go Go.Proofs Go.RowKit
end Go.Pd
end
section
namespace Go.Pd
open Go Go.Proofs
set_option maxRecDepth 100000
def Pn:bA:=fun p=>match p with
 |26=>nm [5,6,7] [] []
 |_=>none
noncomputable def yx(h:FuncId→List D→Option D)(L:Nat)(C:Nat→Nat)(n:Nat)(z:Bool)(J:Nat)(r:List D)(j q:Int):Option D:=
 bY (cv h L C) O0 Pn FinM.canon Tryz.f34 [true,false,true,false] [] n (St.mk (jn 5 (D.slc z J r::D.int .i64 j::D.int .i64 q::jn 7 [])) (zn 15 []))
theorem nd(z:FuncId→List D→Option D)(L:Nat)(C:Nat→Nat)(n:Nat)(J:Bool)(r:Nat)(q:List D)(j h:Int):yx z L C (n+1) J r q j h=
 (bo (decide (h<j))
 (bu (decide (0≤h∧h<(r:Int)))
 (bc q (Int.toNat h*1) fun d=>bw .i64 d fun x=>bo (x !=0)
 (some (D.int .i64 x))
 (yx z L C n J r q j (IntKind.wrap .i64 (h+1)))))
 (some (D.int .i64 0))):=by kernel_rfl
theorem Jw(j:FuncId→List D→Option D)(L:Nat)(C:Nat→Nat)(r:Bool)(h:Nat)(q:List D):bF (cv j L C) O0 Pn FinM.canon Tryz.f34 [D.slc r h q]=
 (yx j L C L r h q ((h:Int)) 0):=by kernel_rfl
end Go.Pd
end
