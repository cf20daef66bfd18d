import Derived.Test.YtjhoaknnmfifgaaGreatDoorUnI
import Derived.Test.YtjhoaknnmfifgaaGreatDoorUnA
import Derived.Test.YtjhoaknnmfifgaaGreatDoorUnG
import Derived.Test.YtjhoaknnmfifgaaGreatDoorPdFf
import Derived.KernelRfl
section
namespace Go.Pd
open Go Go.Proofs Go.RowKit
abbrev BZ:=ByteArray×Int×Int
def yP(s:BZ):List D:=[.str s.1,.int .i64 s.2.1,.int .i64 s.2.2]
theorem zk{a b:Int}(h:bB (a !=0) a b=0):a=0∧b=0:=by
 cases ha:a !=0 with
 |true=>rw[ha,bv] at h;rw[h] at ha;cases ha
 |false=>rw[ha,bj] at h;exact⟨by simpa using ha,h⟩
theorem fz{x:Int}{l:List Int}(h:cN (x::l)=0):x=0∧cN l=0:=zk h
theorem hasT_iff{l:List ByteArray}{s:ByteArray}:uy l s=true↔s∈l:=by
 unfold uy;rw[List.any_eq_true];constructor
 ·rintro ⟨x,hx,h⟩
  rw[←sEq_iff.1 h];exact hx
 ·exact fun h=>⟨s,h,sEq_iff.2 rfl⟩
structure MkOk(me:List pO)(n:Nat)(pre:List gw)(x:gw):Prop where
 pl:x.1∈me.map (·.1)
 lo:1≤x.2.2.1
 hi:x.2.2.1≤n
 en:m9 x.2.2.2=0
 tw:∀y∈pre,LJ x.1 x.2.2.1 (dL x.2.1 x.1) y=false
section
variable {me:List pO}{n:Nat}{pre r:List gw}{x:gw}
end
end Go.Pd
end
section
namespace Go.Pd
open Go Go.Proofs
set_option maxRecDepth 100000
def F8:bH:=fun p=>match p with
 |58=>nm [3,6,7,8] [] []
 |_=>none
noncomputable def nK(h:FuncId→List D→Option D)(L:Nat)(C:Nat→Nat)(n:Nat)(M:Bool)(O:Nat)(K:List D)(z B:Int):Option D:=
 ec (ed h L C) O0 F8 FinM.canon Tryz.f163 (bt 5 11) [] n (St.mk (J::J::J::D.int .i64 0::J::J::D.slc M O K::D.int .i64 z::D.int .i64 B::jn 9 []) (zn 18 []))
theorem pj(K:FuncId→List D→Option D)(L:Nat)(C:Nat→Nat)(n:Nat)(M:Bool)(J:Nat)(B:List D)(z h:Int):nK K L C (n+1) M J B z h=
 (bB (decide (h<z))
 (bT (decide (0≤h∧h<(J:Int)))
 (bi B (Int.toNat h*1) fun d=>bC .i64 d fun x=>bB (x !=0)
 (some (D.int .i64 x))
 (nK K L C n M J B z (IntKind.wrap .i64 (h+1)))))
 (some (D.int .i64 0))):=by kernel_rfl
theorem Du(z:FuncId→List D→Option D)(L:Nat)(C:Nat→Nat)(J:Bool)(h:Nat)(B:List D):ct (ed z L C) O0 F8 FinM.canon Tryz.f163 [D.slc J h B]=
 (nK z L C L J h B ((h:Int)) 0):=by kernel_rfl
theorem Dv(h:FuncId→List D→Option D)(L:Nat)(C:Nat→Nat)(vx vy:Int):ct (ed h L C) O0 N0 FinM.canon Tryz.f101 [D.int .i64 vx,D.int .i64 vy]=
 (bL (h 165 [D.int .i64 vx]) fun r=>cG r fun b=>bL (h 165 [D.int .i64 vy]) fun B=>cG B fun z=>bB b
 (bB z
 (some (D.int .i64 0))
 (some (D.int .i64 (-1))))
 (bB z
 (some (D.int .i64 1))
 (bB (decide (vx<vy))
 (some (D.int .i64 (-1)))
 (bB (decide (vx>vy))
 (some (D.int .i64 1))
 (some (D.int .i64 0)))))):=by kernel_rfl
theorem Dw(h:FuncId→List D→Option D)(L:Nat)(C:Nat→Nat)(vx:Int):ct (ed h L C) O0 N0 FinM.canon Tryz.f165 [D.int .i64 vx]=
 (some (D.bool (vx !=vx))):=by kernel_rfl
end Go.Pd
end
