import Derived.Test.YtjhoaknnmfifgaaGreatDoorUnI
import Derived.Test.YtjhoaknnmfifgaaGreatDoorUnA
import Derived.Test.YtjhoaknnmfifgaaGreatDoorUnG
import Derived.Test.YtjhoaknnmfifgaaGreatDoorPdFf
import Derived.KernelRfl
section
namespace Go.Pd
open Go Go.Proofs Go.RowKit
abbrev BC:=ByteArray×Int×Int
def yO(s:BC):List D:=[.str s.1,.int .i64 s.2.1,.int .i64 s.2.2]
end Go.Pd
end
section
namespace Go.Pd
open Go Go.Proofs
set_option maxRecDepth 100000
def Fo:bR:=fun p=>match p with
 |58=>nm [3,6,7,8] [] []
 |_=>none
noncomputable def nE(h:FuncId→List D→Option D)(L:Nat)(C:Nat→Nat)(n:Nat)(M:Bool)(O:Nat)(K:List D)(z B:Int):Option D:=
 dW (dS h L C) O0 Fo FinM.canon Tryz.f163 (bt 5 11) [] n (St.mk (J::J::J::D.int .i64 0::J::J::D.slc M O K::D.int .i64 z::D.int .i64 B::jn 9 []) (zn 18 []))
theorem pp(K:FuncId→List D→Option D)(L:Nat)(C:Nat→Nat)(n:Nat)(M:Bool)(J:Nat)(B:List D)(z h:Int):nE K L C (n+1) M J B z h=
 (bG (decide (h<z))
 (bB (decide (0≤h∧h<(J:Int)))
 (br B (Int.toNat h*1) fun d=>bH .i64 d fun x=>bG (x !=0)
 (some (D.int .i64 x))
 (nE K L C n M J B z (IntKind.wrap .i64 (h+1)))))
 (some (D.int .i64 0))):=by kernel_rfl
theorem C0(z:FuncId→List D→Option D)(L:Nat)(C:Nat→Nat)(J:Bool)(h:Nat)(B:List D):cv (dS z L C) O0 Fo FinM.canon Tryz.f163 [D.slc J h B]=
 (nE z L C L J h B ((h:Int)) 0):=by kernel_rfl
theorem C2(h:FuncId→List D→Option D)(L:Nat)(C:Nat→Nat)(vx vy:Int):cv (dS h L C) O0 N0 FinM.canon Tryz.f101 [D.int .i64 vx,D.int .i64 vy]=
 (bV (h 165 [D.int .i64 vx]) fun r=>cH r fun b=>bV (h 165 [D.int .i64 vy]) fun B=>cH B fun z=>bG b
 (bG z
 (some (D.int .i64 0))
 (some (D.int .i64 (-1))))
 (bG z
 (some (D.int .i64 1))
 (bG (decide (vx<vy))
 (some (D.int .i64 (-1)))
 (bG (decide (vx>vy))
 (some (D.int .i64 1))
 (some (D.int .i64 0)))))):=by kernel_rfl
theorem C3(h:FuncId→List D→Option D)(L:Nat)(C:Nat→Nat)(vx:Int):cv (dS h L C) O0 N0 FinM.canon Tryz.f165 [D.int .i64 vx]=
 (some (D.bool (vx !=vx))):=by kernel_rfl
end Go.Pd
end
