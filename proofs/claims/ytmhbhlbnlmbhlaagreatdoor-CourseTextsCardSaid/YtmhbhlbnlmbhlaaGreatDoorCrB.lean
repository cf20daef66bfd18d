import Derived.Test.YtmhbhlbnlmbhlaaGreatDoorCrA
import Derived.KernelRfl
import Derived.Test.YtmhbhlbnlmbhlaaGreatDoorPdFf
import Derived.IntWalk
import Derived.Shelf.Abstract
import Derived.Shelf.Strconv.Itoa3
import Derived.Shelf.Bits.Mul64
import Derived.Ground.Names2Prog
import Derived.Test.YtmhbhlbnlmbhlaaGreatDoorProg
section
namespace Go.Pd
open Go Go.Proofs
set_option maxRecDepth 100000
theorem IS(call:CL)(L:Nat)(C:Nat→Nat)(z:Bool)(J:Nat)(q:List D):bT (PS call L C) O0 N0 FinM.canon Tryz.f109 [D.slc z J q]=
 (some (D.fn (Fn.func 176) [] [D.snap [D.slc z J q] 0])):=by kernel_rfl
theorem Mp(call:CL)(L:Nat)(C:Nat→Nat)(z:Bool)(J:Nat)(q:List D):bT (PS call L C) O0 N0 FinM.canon Tryz.f94 [D.slc z J q]=
 (some (D.fn (Fn.func 160) [] [D.snap [D.slc z J q] 0])):=by kernel_rfl
theorem Mq(call:CL)(L:Nat)(C:Nat→Nat)(q z:Int):bT (cF call L C) O0 N0 FinM.canon Tryz.f24 [D.agg [D.int .i64 q,D.int .i64 z]]=
 (bB (call 90 [D.int .i64 q]) fun r=>ce r fun b=>bz b
 (some (D.int .i64 3))
 (bB (call 90 [D.int .i64 z]) fun K=>ce K fun J=>bz J
 (some (D.int .i64 3))
 (some (D.int .i64 0)))):=by kernel_rfl
theorem Mr(call:CL)(L:Nat)(C:Nat→Nat)(z:Bool)(q:Int):bT (cF call L C) O0 N0 FinM.canon Tryz.f84 [D.bool z,D.int .i64 q]=
 (bz z
 (some (D.int .i64 q))
 (some (D.int .i64 0))):=by kernel_rfl
def TP:bY:=fun p=>match p with
 |26=>nm [5,6,7] [] []
 |_=>none
noncomputable def xd(call:CL)(L:Nat)(C:Nat→Nat)(n:Nat)(K:Bool)(M:Nat)(J:List D)(q z:Int):Option D:=
 cw (cF call L C) O0 TP FinM.canon Tryz.f76 [true,false,true,false] [] n (St.mk (jn 5 (D.slc K M J::D.int .i64 q::D.int .i64 z::jn 7 [])) (zn 15 []))
theorem vG(call:CL)(L:Nat)(C:Nat→Nat)(n:Nat)(M:Bool)(K:Nat)(J:List D)(z q:Int):xd call L C (n+1) M K J z q=
 (bz (decide (q<z))
 (bH (decide (0≤q∧q<(K:Int)))
 (bu J (Int.toNat q*1) fun d=>bD .i64 d fun x=>bz (x !=0)
 (some (D.int .i64 x))
 (xd call L C n M K J z (IntKind.wrap .i64 (q+1)))))
 (some (D.int .i64 0))):=by kernel_rfl
theorem Ms(call:CL)(L:Nat)(C:Nat→Nat)(J:Bool)(q:Nat)(z:List D):bT (cF call L C) O0 TP FinM.canon Tryz.f76 [D.slc J q z]=
 (xd call L C L J q z ((q:Int)) 0):=by kernel_rfl
theorem Mt(call:CL)(L:Nat)(C:Nat→Nat)(z:Bool)(J:Nat)(q:List D):bT (cF call L C) O0 N0 FinM.canon Tryz.f77 [D.slc z J q]=
 (bB (call 136 [D.slc z J q,D.fn (Fn.func 137) [] []]) fun r=>ce r fun b=>bB (call 84 [D.bool b,D.int .i64 3]) fun K=>bD .i64 K fun x=>some (D.int .i64 x)):=by kernel_rfl
theorem IT(call:CL)(L:Nat)(C:Nat→Nat)(q z J:Int):bT (cF call L C) O0 N0 FinM.canon Tryz.f100 [D.int .i64 q,D.int .i64 z,D.int .i64 J]=
 (bz (decide (q<z))
 (some (D.bool true))
 (some (D.bool (decide (q>J))))):=by kernel_rfl
theorem IU(call:CL)(L:Nat)(C:Nat→Nat)(z:Bool)(J:Nat)(q:List D):bT (cF call L C) O0 N0 FinM.canon Tryz.f136 [D.slc z J q,D.fn (Fn.func 137) [] []]=
 (bB (call 191 [D.slc z J q,D.fn (Fn.func 137) [] []]) fun r=>bD .i64 r fun x=>some (D.bool (decide (x≥0)))):=by kernel_rfl
theorem IV(call:CL)(L:Nat)(C:Nat→Nat)(q z:Int):bT (cF call L C) O0 N0 FinM.canon Tryz.f137 [D.agg [D.int .i64 q,D.int .i64 z]]=
 (bB (call 100 [D.int .i64 q,D.int .i64 (-1000000),D.int .i64 1000000]) fun r=>ce r fun b=>bz b
 (some (D.bool true))
 (bB (call 100 [D.int .i64 z,D.int .i64 (-1000000),D.int .i64 1000000]) fun K=>ce K fun J=>some (D.bool J))):=by kernel_rfl
def Mv:bY:=fun p=>match p with
 |26=>nm [0,1,7,8] [] []
 |_=>none
noncomputable def rG(call:CL)(L:Nat)(C:Nat→Nat)(n:Nat)(K:Bool)(M:Nat)(J:List D)(q z:Int):Option D:=
 cw (cF call L C) O0 Mv FinM.canon Tryz.f191 [true,false,true,false] [] n (St.mk (D.slc K M J::D.fn (Fn.func 137) [] []::jn 5 (D.int .i64 q::D.int .i64 z::jn 10 [])) (zn 19 []))
theorem sI(call:CL)(L:Nat)(C:Nat→Nat)(n:Nat)(M:Bool)(K:Nat)(z:List D)(J q:Int):rG call L C (n+1) M K z J q=
 (bz (decide (q<J))
 (bH (decide (0≤q∧q<(K:Int)))
 (bu z (Int.toNat q*2+0) fun d=>bD .i64 d fun x=>bu z (Int.toNat q*2+1) fun O=>bD .i64 O fun S=>bB (call 137 [D.agg [D.int .i64 x,D.int .i64 S]]) fun r=>ce r fun b=>bz b
 (some (D.int .i64 q))
 (rG call L C n M K z J (IntKind.wrap .i64 (q+1)))))
 (some (D.int .i64 (-1)))):=by kernel_rfl
theorem IW(call:CL)(L:Nat)(C:Nat→Nat)(J:Bool)(q:Nat)(z:List D):bT (cF call L C) O0 Mv FinM.canon Tryz.f191 [D.slc J q z,D.fn (Fn.func 137) [] []]=
 (rG call L C L J q z ((q:Int)) 0):=by kernel_rfl
theorem IX(call:CL)(L:Nat)(C:Nat→Nat)(q z K M O S:Int):bT (cF call L C) O0 N0 FinM.canon Tryz.f108 [D.agg [D.int .i64 q,D.int .i64 z],D.agg [D.int .i64 K,D.int .i64 M],D.agg [D.int .i64 O,D.int .i64 S]]=
 (bB (call 140 [D.agg [D.int .i64 K,D.int .i64 M],D.agg [D.int .i64 q,D.int .i64 z]]) fun r=>dq r 2 fun c=>bu c 0 fun d=>bD .i64 d fun x=>bu c 1 fun U=>bD .i64 U fun a0=>bB (call 140 [D.agg [D.int .i64 O,D.int .i64 S],D.agg [D.int .i64 q,D.int .i64 z]]) fun X=>dq X 2 fun J=>bu J 0 fun V=>bD .i64 V fun a1=>bu J 1 fun W=>bD .i64 W fun a2=>bB (call 110 [D.agg [D.int .i64 x,D.int .i64 a0],D.agg [D.int .i64 a1,D.int .i64 a2]]) fun Y=>bD .i64 Y fun a3=>bB (call 175 [D.int .i64 a3]) fun Z=>bD .i64 Z fun a4=>some (D.int .i64 a4)):=by kernel_rfl
theorem IY(call:CL)(L:Nat)(C:Nat→Nat)(q z J K:Int):bT (cF call L C) O0 N0 FinM.canon Tryz.f110 [D.agg [D.int .i64 q,D.int .i64 z],D.agg [D.int .i64 J,D.int .i64 K]]=
 (some (D.int .i64 (IntKind.wrap .i64 (IntKind.wrap .i64 (q*K)-IntKind.wrap .i64 (z*J))))):=by kernel_rfl
theorem IZ(call:CL)(L:Nat)(C:Nat→Nat)(q z J K:Int):bT (cF call L C) O0 N0 FinM.canon Tryz.f139 [D.agg [D.int .i64 q,D.int .i64 z],D.agg [D.int .i64 J,D.int .i64 K]]=
 (some (D.int .i64 (IntKind.wrap .i64 (IntKind.wrap .i64 (q*J)+IntKind.wrap .i64 (z*K))))):=by kernel_rfl
theorem I6(call:CL)(L:Nat)(C:Nat→Nat)(q z J K:Int):bT (cF call L C) O0 N0 FinM.canon Tryz.f140 [D.agg [D.int .i64 q,D.int .i64 z],D.agg [D.int .i64 J,D.int .i64 K]]=
 (some (D.agg [D.int .i64 (IntKind.wrap .i64 (q-J)),D.int .i64 (IntKind.wrap .i64 (z-K))])):=by kernel_rfl
theorem I7(call:CL)(L:Nat)(C:Nat→Nat)(q:Int):bT (cF call L C) O0 N0 FinM.canon Tryz.f175 [D.int .i64 q]=
 (bz (decide (q<0))
 (some (D.int .i64 (-1)))
 (bz (decide (q>0))
 (some (D.int .i64 1))
 (some (D.int .i64 0)))):=by kernel_rfl
theorem I8(call:CL)(L:Nat)(C:Nat→Nat)(J K M O q z:Int):bT (cF call L C) O0 N0 FinM.canon Tryz.f138 [D.agg [D.int .i64 J,D.int .i64 K,D.int .i64 M,D.int .i64 O],D.agg [D.int .i64 q,D.int .i64 z]]=
 (bB (call 108 [D.agg [D.int .i64 J,D.int .i64 K],D.agg [D.int .i64 M,D.int .i64 O],D.agg [D.int .i64 q,D.int .i64 z]]) fun r=>bD .i64 r fun x=>bz (x==0)
 (bB (call 140 [D.agg [D.int .i64 J,D.int .i64 K],D.agg [D.int .i64 q,D.int .i64 z]]) fun X=>dq X 2 fun c=>bu c 0 fun d=>bD .i64 d fun a0=>bu c 1 fun U=>bD .i64 U fun a1=>bB (call 140 [D.agg [D.int .i64 M,D.int .i64 O],D.agg [D.int .i64 q,D.int .i64 z]]) fun Y=>dq Y 2 fun S=>bu S 0 fun V=>bD .i64 V fun a2=>bu S 1 fun W=>bD .i64 W fun a3=>bB (call 139 [D.agg [D.int .i64 a0,D.int .i64 a1],D.agg [D.int .i64 a2,D.int .i64 a3]]) fun Z=>bD .i64 Z fun a4=>some (D.bool (decide (a4≤0))))
 (some (D.bool false))):=by kernel_rfl
def Mw:bY:=fun p=>match p with
 |7=>nm [2,3] [] [2,3]
 |_=>none
noncomputable def sJ(call:CL)(L:Nat)(C:Nat→Nat)(q z K M O S U V:Int):Option D:=
 eL (cF call L C) O0 Mw FinM.canon Tryz.f174 [true,true] [] (C 7) (St.mk (J::J::D.loc 2 0 0::D.loc 3 0 0::jn 57 []) (Z::Z::(1,some (Ob.box [D.int .i64 q,D.int .i64 z,D.int .i64 K,D.int .i64 M] false))::(1,some (Ob.box [D.int .i64 O,D.int .i64 S,D.int .i64 U,D.int .i64 V] false))::zn 57 []))
theorem Ew(call:CL)(L:Nat)(C:Nat→Nat)(q z J K M O S U:Int)(hC:∀t,C t=1):sJ call L C q z J K M O S U=
 (bB (call 108 [D.agg [D.int .i64 q,D.int .i64 z],D.agg [D.int .i64 J,D.int .i64 K],D.agg [D.int .i64 M,D.int .i64 O]]) fun V=>bD .i64 V fun x=>bB (call 108 [D.agg [D.int .i64 q,D.int .i64 z],D.agg [D.int .i64 J,D.int .i64 K],D.agg [D.int .i64 S,D.int .i64 U]]) fun W=>bD .i64 W fun Z=>bz (decide (IntKind.wrap .i64 (x*Z)<0))
 (bB (call 108 [D.agg [D.int .i64 M,D.int .i64 O],D.agg [D.int .i64 S,D.int .i64 U],D.agg [D.int .i64 q,D.int .i64 z]]) fun X=>bD .i64 X fun a0=>bB (call 108 [D.agg [D.int .i64 M,D.int .i64 O],D.agg [D.int .i64 S,D.int .i64 U],D.agg [D.int .i64 J,D.int .i64 K]]) fun Y=>bD .i64 Y fun a1=>some (D.bool (decide (IntKind.wrap .i64 (a0*a1)<0))))
 (some (D.bool false))):=by
 unfold sJ;rw[hC]
 kernel_rfl
theorem Ja(call:CL)(L:Nat)(C:Nat→Nat)(q z J K M O S U:Int):bT (cF call L C) O0 Mw FinM.canon Tryz.f174 [D.agg [D.int .i64 q,D.int .i64 z,D.int .i64 J,D.int .i64 K],D.agg [D.int .i64 M,D.int .i64 O,D.int .i64 S,D.int .i64 U]]=
 (bB (call 138 [D.agg [D.int .i64 q,D.int .i64 z,D.int .i64 J,D.int .i64 K],D.agg [D.int .i64 M,D.int .i64 O]]) fun r=>ce r fun b=>bz b
 (some (D.bool true))
 (bB (call 138 [D.agg [D.int .i64 q,D.int .i64 z,D.int .i64 J,D.int .i64 K],D.agg [D.int .i64 S,D.int .i64 U]]) fun Y=>ce Y fun V=>bz V
 (some (D.bool true))
 (bB (call 138 [D.agg [D.int .i64 M,D.int .i64 O,D.int .i64 S,D.int .i64 U],D.agg [D.int .i64 q,D.int .i64 z]]) fun Z=>ce Z fun W=>bz W
 (some (D.bool true))
 (bB (call 138 [D.agg [D.int .i64 M,D.int .i64 O,D.int .i64 S,D.int .i64 U],D.agg [D.int .i64 J,D.int .i64 K]]) fun a0=>ce a0 fun X=>bz X
 (some (D.bool true))
 (sJ call L C q z J K M O S U))))):=by kernel_rfl
def Jb:bY:=fun p=>match p with
 |218=>nm [1,2,3] [4,5,7] [1,2,3,4,5,7]
 |6998=>nm [1,2,3,4,5] [7] [1,2,3,4,5,7]
 |_=>none
noncomputable def cV(call:CL)(L:Nat)(C:Nat→Nat)(sq:FuncId→List D→Option (List (List D)))(W:List (List D))(X:List (List D))(K:Bool)(M:Nat)(z:List D)(O q vs S U V:Int):Option D:=
 yC (IK call L C sq) O0 Jb FinM.canon Tryz.f107 (bt 12 1709) [Fu.l 176 W] 176 X (St.mk (J::D.loc 1 0 0::D.loc 2 0 0::D.loc 3 0 0::D.loc 4 0 0::D.loc 5 0 0::jn 83 []) (Z::(1,some (Ob.box [D.slc K M z] false))::(1,some (Ob.box [D.bool false] false))::(1,some (Ob.box [D.int .i64 O] false))::(1,some (Ob.box [D.int .i64 q] false))::(1,some (Ob.box [D.int .i64 vs,D.int .i64 S,D.int .i64 U,D.int .i64 V] false))::zn 83 []))
noncomputable def eT(call:CL)(L:Nat)(C:Nat→Nat)(sq:FuncId→List D→Option (List (List D)))(O:List (List D))(z:Bool)(K:Nat)(q:List D)(M:Int):Option D:=
 yC (IK call L C sq) O0 Jb FinM.canon Tryz.f107 (bt 7 45) [] 176 O (St.mk (J::D.loc 1 0 0::D.loc 2 0 0::D.loc 3 0 0::jn 85 []) (Z::(1,some (Ob.box [D.slc z K q] false))::(1,some (Ob.box [D.bool false] false))::(1,some (Ob.box [D.int .i64 M] false))::zn 85 []))
theorem vg(call:CL)(L:Nat)(C:Nat→Nat)(sq:FuncId→List D→Option (List (List D)))(M:List (List D))(z:Bool)(J:Nat)(q:List D)(K O vs S U V:Int):cV call L C sq M [] z J q K O vs S U V=
 (eT call L C sq M z J q K):=by kernel_rfl
theorem sK(call:CL)(L:Nat)(C:Nat→Nat)(sq:FuncId→List D→Option (List (List D)))(V:List (List D))(a2:List D)(Y:List (List D))(S:Bool)(U:Nat)(O:List D)(M K vs J q z:Int):cV call L C sq V (a2::Y) S U O M K vs J q z=
 (bH (decide (List.length a2=2))
 (bu a2 0 fun aj=>bD .i64 aj fun a3=>bu a2 1 fun ak=>dq ak 4 fun Z=>bu Z 0 fun al=>bD .i64 al fun a0=>bu Z 1 fun am=>bD .i64 am fun a1=>bu Z 2 fun a9=>bD .i64 a9 fun W=>bu Z 3 fun aa=>bD .i64 aa fun X=>bz (decide (a3≤K))
 (cV call L C sq V Y S U O M K vs J q z)
 (bz (a3==IntKind.wrap .i64 (K+1))
 (bB (call 108 [D.agg [D.int .i64 vs,D.int .i64 J],D.agg [D.int .i64 q,D.int .i64 z],D.agg [D.int .i64 W,D.int .i64 X]]) fun r=>bD .i64 r fun ay=>bz (ay==0)
 (bB (call 140 [D.agg [D.int .i64 vs,D.int .i64 J],D.agg [D.int .i64 q,D.int .i64 z]]) fun an=>dq an 2 fun a4=>bu a4 0 fun ab=>bD .i64 ab fun az=>bu a4 1 fun ac=>bD .i64 ac fun aA=>bB (call 140 [D.agg [D.int .i64 W,D.int .i64 X],D.agg [D.int .i64 q,D.int .i64 z]]) fun ao=>dq ao 2 fun a5=>bu a5 0 fun ad=>bD .i64 ad fun aB=>bu a5 1 fun ae=>bD .i64 ae fun aC=>bB (call 139 [D.agg [D.int .i64 az,D.int .i64 aA],D.agg [D.int .i64 aB,D.int .i64 aC]]) fun ap=>bD .i64 ap fun aD=>bz (decide (aD>0))
 (some (D.bool false))
 (cV call L C sq V Y S U O M K vs J q z))
 (cV call L C sq V Y S U O M K vs J q z))
 (bz (K==0)
 (bz (a3==IntKind.wrap .i64 (M-1))
 (bB (call 108 [D.agg [D.int .i64 a0,D.int .i64 a1],D.agg [D.int .i64 W,D.int .i64 X],D.agg [D.int .i64 q,D.int .i64 z]]) fun aq=>bD .i64 aq fun aE=>bz (aE==0)
 (bB (call 140 [D.agg [D.int .i64 a0,D.int .i64 a1],D.agg [D.int .i64 W,D.int .i64 X]]) fun ar=>dq ar 2 fun a6=>bu a6 0 fun af=>bD .i64 af fun aF=>bu a6 1 fun ag=>bD .i64 ag fun aG=>bB (call 140 [D.agg [D.int .i64 q,D.int .i64 z],D.agg [D.int .i64 W,D.int .i64 X]]) fun au=>dq au 2 fun a7=>bu a7 0 fun ah=>bD .i64 ah fun aH=>bu a7 1 fun ai=>bD .i64 ai fun aI=>bB (call 139 [D.agg [D.int .i64 aF,D.int .i64 aG],D.agg [D.int .i64 aH,D.int .i64 aI]]) fun av=>bD .i64 av fun aJ=>bz (decide (aJ>0))
 (some (D.bool false))
 (eT call L C sq V S U O M))
 (eT call L C sq V S U O M))
 (bB (call 174 [D.agg [D.int .i64 vs,D.int .i64 J,D.int .i64 q,D.int .i64 z],D.agg [D.int .i64 a0,D.int .i64 a1,D.int .i64 W,D.int .i64 X]]) fun aw=>ce aw fun b=>bz b
 (some (D.bool false))
 (cV call L C sq V Y S U O M K vs J q z)))
 (bB (call 174 [D.agg [D.int .i64 vs,D.int .i64 J,D.int .i64 q,D.int .i64 z],D.agg [D.int .i64 a0,D.int .i64 a1,D.int .i64 W,D.int .i64 X]]) fun ax=>ce ax fun a8=>bz a8
 (some (D.bool false))
 (cV call L C sq V Y S U O M K vs J q z)))))):=by kernel_rfl
theorem xe(call:CL)(L:Nat)(C:Nat→Nat)(sq:FuncId→List D→Option (List (List D)))(z:Bool)(J:Nat)(q:List D)(K:Int):eT call L C sq [] z J q K=
 (some (D.bool true)):=by kernel_rfl
theorem vh(call:CL)(L:Nat)(C:Nat→Nat)(sq:FuncId→List D→Option (List (List D)))(y:List D)(V:List (List D))(z:Bool)(J:Nat)(q:List D)(K:Int):eT call L C sq (y::V) z J q K=
 (bH (decide (List.length y=2))
 (bu y 0 fun d=>bD .i64 d fun x=>bu y 1 fun W=>dq W 4 fun c=>bu c 0 fun X=>bD .i64 X fun M=>bu c 1 fun Y=>bD .i64 Y fun O=>bu c 2 fun Z=>bD .i64 Z fun S=>bu c 3 fun a0=>bD .i64 a0 fun U=>bz (M==S&&(O==U&&true))
 (some (D.bool false))
 (bB (sq 176 [D.snap [D.slc z J q] 0]) fun a1=>cV call L C sq V a1 z J q K x M O S U))):=by kernel_rfl
theorem Jc(call:CL)(L:Nat)(C:Nat→Nat)(sq:FuncId→List D→Option (List (List D)))(J:Bool)(q:Nat)(z:List D):bT (IK call L C sq) O0 Jb FinM.canon Tryz.f107 [D.slc J q z]=
 (bB (sq 176 [D.snap [D.slc J q z] 0]) fun ys=>eT call L C sq ys J q z ((q:Int))):=by kernel_rfl
theorem Mx(call:CL)(L:Nat)(C:Nat→Nat)(J:Bool)(q:Nat)(z:List D):bT (cF call L C) O0 N0 FinM.canon Tryz.f50 [D.slc J q z]=
 (bB (call 84 [D.bool (decide ((q:Int)<3)),D.int .i64 2]) fun r=>bD .i64 r fun x=>bB (call 84 [D.bool (decide ((q:Int)>64)),D.int .i64 5]) fun M=>bD .i64 M fun W=>bB (call 77 [D.slc J q z]) fun O=>bD .i64 O fun X=>bB (call 76 [D.slc true 3 [D.int .i64 x,D.int .i64 W,D.int .i64 X]]) fun S=>bD .i64 S fun K=>bz (K !=0)
 (some (D.int .i64 K))
 (bB (call 107 [D.slc J q z]) fun U=>ce U fun b=>bB (call 84 [D.bool !b,D.int .i64 16]) fun V=>bD .i64 V fun Y=>some (D.int .i64 Y))):=by kernel_rfl
def TQ:bY:=fun p=>match p with
 |58=>nm [3,4,5] [7] [3,4,5,7]
 |_=>none
noncomputable def iz(call:CL)(L:Nat)(C:Nat→Nat)(sq:FuncId→List D→Option (List (List D)))(M:List (List D))(z K q:Int):Option D:=
 yC (IK call L C sq) O0 TQ FinM.canon Tryz.f80 (bt 5 11) [] 176 M (St.mk (J::J::J::D.loc 3 0 0::D.loc 4 0 0::D.loc 5 0 0::jn 38 []) (Z::Z::Z::(1,some (Ob.box [D.int .i64 z,D.int .i64 K] false))::(1,some (Ob.box [D.int .i64 0] false))::(1,some (Ob.box [D.int .i64 q] false))::zn 38 []))
theorem BK(call:CL)(L:Nat)(C:Nat→Nat)(sq:FuncId→List D→Option (List (List D)))(z J q:Int):iz call L C sq [] z J q=
 (some (D.int .i64 q)):=by kernel_rfl
theorem yX(call:CL)(L:Nat)(C:Nat→Nat)(sq:FuncId→List D→Option (List (List D)))(y:List D)(M:List (List D))(z q J:Int):iz call L C sq (y::M) z q J=
 (bH (decide (List.length y=2))
 (bu y 0 fun d=>bD .i64 d fun _x=>bu y 1 fun V=>dq V 4 fun c=>bu c 0 fun W=>bD .i64 W fun S=>bu c 1 fun X=>bD .i64 X fun O=>bu c 2 fun Y=>bD .i64 Y fun U=>bu c 3 fun Z=>bD .i64 Z fun K=>bB (call 138 [D.agg [D.int .i64 S,D.int .i64 O,D.int .i64 U,D.int .i64 K],D.agg [D.int .i64 z,D.int .i64 q]]) fun r=>ce r fun b=>bz b
 (some (D.int .i64 0))
 (bz (!decide (O>q)==decide (K>q))
 (bB (call 108 [D.agg [D.int .i64 S,D.int .i64 O],D.agg [D.int .i64 U,D.int .i64 K],D.agg [D.int .i64 z,D.int .i64 q]]) fun a0=>bD .i64 a0 fun a1=>bz (decide (a1>0)==decide (K>q))
 (iz call L C sq M z q (IntKind.wrap .i64 (0-J)))
 (iz call L C sq M z q J))
 (iz call L C sq M z q J)))):=by kernel_rfl
theorem My(call:CL)(L:Nat)(C:Nat→Nat)(sq:FuncId→List D→Option (List (List D)))(z:Bool)(J:Nat)(q:List D)(K M:Int):bT (IK call L C sq) O0 TQ FinM.canon Tryz.f80 [D.slc z J q,D.agg [D.int .i64 K,D.int .i64 M]]=
 (bB (sq 176 [D.snap [D.slc z J q] 0]) fun ys=>iz call L C sq ys K M (-1)):=by kernel_rfl
theorem Mz(call:CL)(L:Nat)(C:Nat→Nat)(z:Bool)(J:Nat)(q:List D)(K M:Int):bT (cF call L C) O0 N0 FinM.canon Tryz.f45 [D.slc z J q,D.agg [D.int .i64 K,D.int .i64 M]]=
 (bB (call 50 [D.slc z J q]) fun r=>bD .i64 r fun x=>bB (call 77 [D.slc true 1 [D.int .i64 K,D.int .i64 M]]) fun S=>bD .i64 S fun W=>bB (call 76 [D.slc true 2 [D.int .i64 x,D.int .i64 W]]) fun U=>bD .i64 U fun O=>bz (O !=0)
 (some (D.tup [D.int .i64 0,D.int .i64 O]))
 (bB (call 80 [D.slc z J q,D.agg [D.int .i64 K,D.int .i64 M]]) fun V=>bD .i64 V fun X=>some (D.tup [D.int .i64 X,D.int .i64 0]))):=by kernel_rfl
def TR:bY:=fun p=>match p with
 |122=>nm [5] [7] [5,7]
 |_=>none
noncomputable def kR(call:CL)(L:Nat)(C:Nat→Nat)(sq:FuncId→List D→Option (List (List D)))(z:List (List D))(q:Int):Option D:=
 yC (IK call L C sq) O0 TR FinM.canon Tryz.f52 (bt 6 23) [] 176 z (St.mk (jn 5 (D.loc 5 0 0::jn 22 [])) (zn 5 ((1,some (Ob.box [D.int .i64 q] false))::zn 22 [])))
theorem yY(call:CL)(L:Nat)(C:Nat→Nat)(sq:FuncId→List D→Option (List (List D)))(q:Int):kR call L C sq [] q=
 (some (D.tup [D.int .i64 (if IntKind.wrap .i64 (0-q)>q then IntKind.wrap .i64 (0-q) else q),D.int .i64 0])):=by kernel_rfl
theorem xf(call:CL)(L:Nat)(C:Nat→Nat)(sq:FuncId→List D→Option (List (List D)))(y:List D)(z:List (List D))(q:Int):kR call L C sq (y::z) q=
 (bH (decide (List.length y=2))
 (bu y 0 fun d=>bD .i64 d fun _x_1=>bu y 1 fun J=>dq J 4 fun c=>bu c 0 fun K=>bD .i64 K fun V=>bu c 1 fun M=>bD .i64 M fun W=>bu c 2 fun O=>bD .i64 O fun X=>bu c 3 fun S=>bD .i64 S fun Y=>bB (call 110 [D.agg [D.int .i64 V,D.int .i64 W],D.agg [D.int .i64 X,D.int .i64 Y]]) fun U=>bD .i64 U fun Z=>kR call L C sq z (IntKind.wrap .i64 (q+Z)))):=by kernel_rfl
theorem MA(call:CL)(L:Nat)(C:Nat→Nat)(sq:FuncId→List D→Option (List (List D)))(z:Bool)(J:Nat)(q:List D):bT (IK call L C sq) O0 TR FinM.canon Tryz.f52 [D.slc z J q]=
 (bB (call 50 [D.slc z J q]) fun r=>bD .i64 r fun x=>bz (x !=0)
 (some (D.tup [D.int .i64 0,D.int .i64 x]))
 (bB (sq 176 [D.snap [D.slc z J q] 0]) fun ys=>kR call L C sq ys 0)):=by kernel_rfl
def MB:bY:=fun p=>match p with
 |6=>nm [0,1,5,6,7] [4] [4]
 |_=>none
noncomputable def xg(call:CL)(L:Nat)(C:Nat→Nat)(l n:Nat)(z:Bool)(K:Nat)(q:List D)(M O:Int):Option (List (List D)):=
 Ep (LC call L C l) O0 MB FinM.raw Tryz.f176 [true,false] [] n (St.mk (D.fn (Fn.yield l) [] []::D.snap [D.slc z K q] 0::J::J::J::D.slc z K q::D.int .i64 M::D.int .i64 O::jn 19 []) (zn 27 []))
theorem vH(call:CL)(L:Nat)(C:Nat→Nat)(l n:Nat)(M:Bool)(z:Nat)(J:List D)(K q:Int):xg call L C l (n+1) M z J K q=
 (bz (decide (q<K))
 (bH (decide (0≤q∧q<(z:Int)))
 (bu J (Int.toNat q*2+0) fun d=>bD .i64 d fun x=>bu J (Int.toNat q*2+1) fun O=>bD .i64 O fun V=>bH (!decide ((z:Int)=0))
 (bH (decide (0≤Int.tmod (IntKind.wrap .i64 (q+1)) (z:Int)∧Int.tmod (IntKind.wrap .i64 (q+1)) (z:Int)<(z:Int)))
 (bu J (Int.toNat (Int.tmod (IntKind.wrap .i64 (q+1)) (z:Int))*2+0) fun S=>bD .i64 S fun W=>bu J (Int.toNat (Int.tmod (IntKind.wrap .i64 (q+1)) (z:Int))*2+1) fun U=>bD .i64 U fun X=>bH (decide (l=l))
 (qW [D.int .i64 q,D.agg [D.int .i64 x,D.int .i64 V,D.int .i64 W,D.int .i64 X]]
 (xg call L C l n M z J K (IntKind.wrap .i64 (q+1)))
 (some []))))))
 (some [])):=by kernel_rfl
theorem Jd(call:CL)(L:Nat)(C:Nat→Nat)(l:Nat)(J:Bool)(q:Nat)(z:List D):lk (fG (LC call L C l) O0 MB (uQ Tryz.f176) 1 (cx Tryz.f176 [D.fn (Fn.yield l) [] [],D.snap [D.slc J q z] 0]) (jz (LC call L C l).E FinM.raw Tryz.f176))=
 (xg call L C l L J q z ((q:Int)) 0):=by kernel_rfl
theorem MC(call:CL)(L:Nat)(C:Nat→Nat)(q:Int):bT (cF call L C) O0 N0 FinM.canon Tryz.f90 [D.int .i64 q]=
 (bz (decide (q< -1000000))
 (some (D.bool true))
 (some (D.bool (decide (q>1000000))))):=by kernel_rfl
theorem MD(call:CL)(L:Nat)(C:Nat→Nat)(q z J K M O:Int):bT (cF call L C) O0 N0 FinM.canon Tryz.f53 [D.agg [D.int .i64 q,D.int .i64 z],D.agg [D.int .i64 J,D.int .i64 K],D.agg [D.int .i64 M,D.int .i64 O]]=
 (bB (call 111 [D.int .i64 (IntKind.wrap .i64 (IntKind.wrap .i64 (IntKind.wrap .i64 (J-q)*IntKind.wrap .i64 (O-z))-IntKind.wrap .i64 (IntKind.wrap .i64 (K-z)*IntKind.wrap .i64 (M-q))))]) fun r=>bD .i64 r fun x=>some (D.int .i64 x)):=by kernel_rfl
theorem Je(call:CL)(L:Nat)(C:Nat→Nat)(q:Int):bT (cF call L C) O0 N0 FinM.canon Tryz.f111 [D.int .i64 q]=
 (bz (decide (q>0))
 (some (D.int .i64 1))
 (bz (decide (q<0))
 (some (D.int .i64 (-1)))
 (some (D.int .i64 0)))):=by kernel_rfl
theorem Jf(call:CL)(L:Nat)(C:Nat→Nat)(q z J K M O:Int):bT (cF call L C) O0 N0 FinM.canon Tryz.f112 [D.agg [D.int .i64 q,D.int .i64 z],D.agg [D.int .i64 J,D.int .i64 K],D.agg [D.int .i64 M,D.int .i64 O]]=
 (bB (call 53 [D.agg [D.int .i64 q,D.int .i64 z],D.agg [D.int .i64 J,D.int .i64 K],D.agg [D.int .i64 M,D.int .i64 O]]) fun r=>bD .i64 r fun x=>bz (x==0)
 (bz (decide ((if J<q then J else q)≤M))
 (bz (decide (M≤if J>q then J else q))
 (bz (decide ((if K<z then K else z)≤O))
 (some (D.bool (decide (O≤if K>z then K else z))))
 (some (D.bool false)))
 (some (D.bool false)))
 (some (D.bool false)))
 (some (D.bool false))):=by kernel_rfl
def ME:bY:=fun p=>match p with
 |7=>nm [4,5,6,7] [] [4,5,6,7]
 |_=>none
noncomputable def sL(call:CL)(L:Nat)(C:Nat→Nat)(q z K M O S U V:Int):Option D:=
 eL (cF call L C) O0 ME FinM.canon Tryz.f106 [true,true] [] (C 7) (St.mk (J::J::J::J::D.loc 4 0 0::D.loc 5 0 0::D.loc 6 0 0::D.loc 7 0 0::jn 45 []) (Z::Z::Z::Z::(1,some (Ob.box [D.int .i64 q,D.int .i64 z] false))::(1,some (Ob.box [D.int .i64 K,D.int .i64 M] false))::(1,some (Ob.box [D.int .i64 O,D.int .i64 S] false))::(1,some (Ob.box [D.int .i64 U,D.int .i64 V] false))::zn 45 []))
theorem Ex(call:CL)(L:Nat)(C:Nat→Nat)(q z J K M O S U:Int)(hC:∀t,C t=1):sL call L C q z J K M O S U=
 (bB (call 53 [D.agg [D.int .i64 q,D.int .i64 z],D.agg [D.int .i64 J,D.int .i64 K],D.agg [D.int .i64 M,D.int .i64 O]]) fun V=>bD .i64 V fun x=>bB (call 53 [D.agg [D.int .i64 q,D.int .i64 z],D.agg [D.int .i64 J,D.int .i64 K],D.agg [D.int .i64 S,D.int .i64 U]]) fun W=>bD .i64 W fun Z=>bz (decide (IntKind.wrap .i64 (x*Z)<0))
 (bB (call 53 [D.agg [D.int .i64 M,D.int .i64 O],D.agg [D.int .i64 S,D.int .i64 U],D.agg [D.int .i64 q,D.int .i64 z]]) fun X=>bD .i64 X fun a0=>bB (call 53 [D.agg [D.int .i64 M,D.int .i64 O],D.agg [D.int .i64 S,D.int .i64 U],D.agg [D.int .i64 J,D.int .i64 K]]) fun Y=>bD .i64 Y fun a1=>some (D.bool (decide (IntKind.wrap .i64 (a0*a1)<0))))
 (some (D.bool false))):=by
 unfold sL;rw[hC]
 kernel_rfl
theorem Jg(call:CL)(L:Nat)(C:Nat→Nat)(q z J K M O S U:Int):bT (cF call L C) O0 ME FinM.canon Tryz.f106 [D.agg [D.int .i64 q,D.int .i64 z],D.agg [D.int .i64 J,D.int .i64 K],D.agg [D.int .i64 M,D.int .i64 O],D.agg [D.int .i64 S,D.int .i64 U]]=
 (bB (call 112 [D.agg [D.int .i64 q,D.int .i64 z],D.agg [D.int .i64 J,D.int .i64 K],D.agg [D.int .i64 M,D.int .i64 O]]) fun r=>ce r fun b=>bz b
 (some (D.bool true))
 (bB (call 112 [D.agg [D.int .i64 q,D.int .i64 z],D.agg [D.int .i64 J,D.int .i64 K],D.agg [D.int .i64 S,D.int .i64 U]]) fun Y=>ce Y fun V=>bz V
 (some (D.bool true))
 (bB (call 112 [D.agg [D.int .i64 M,D.int .i64 O],D.agg [D.int .i64 S,D.int .i64 U],D.agg [D.int .i64 q,D.int .i64 z]]) fun Z=>ce Z fun W=>bz W
 (some (D.bool true))
 (bB (call 112 [D.agg [D.int .i64 M,D.int .i64 O],D.agg [D.int .i64 S,D.int .i64 U],D.agg [D.int .i64 J,D.int .i64 K]]) fun a0=>ce a0 fun X=>bz X
 (some (D.bool true))
 (sL call L C q z J K M O S U))))):=by kernel_rfl
def PC:bY:=fun p=>match p with
 |122=>nm [0,3] [6,7,8] [6,7,8]
 |506=>nm [0,4,5] [6,7,8] [6,7,8]
 |32403=>nm [0,4,5] [6,7,8] [6,7,8]
 |129614=>nm [0,4,5,9] [6,7,8] [6,7,8]
 |_=>none
def PD:fX:=fun id=>match id with
 |14=>some {fs:=[(6,6),(7,7),(8,8)]}
 |_=>none
noncomputable def gc(call:CL)(L:Nat)(C:Nat→Nat)(q z:Nat)(S:Bool)(U:Nat)(O:List D)(V K M:Int):Option D:=
 cw (cF call L C) PD PC FinM.canon Tryz.f49 (bt 16 29279) [q] z (St.mk (D.slc S U O::J::J::J::D.int .i64 V::D.int .i64 K::J::J::J::D.int .i64 M::jn 128 []) (zn 138 []))
noncomputable def j7(call:CL)(L:Nat)(C:Nat→Nat)(q:Nat)(M:Bool)(O:Nat)(K:List D)(S z:Int):Option D:=
 eL (cF call L C) PD PC FinM.canon Tryz.f49 (bt 14 12895) [q] (C 32403) (St.mk (D.slc M O K::J::J::J::D.int .i64 S::D.int .i64 z::jn 132 []) (zn 138 []))
noncomputable def mG(call:CL)(L:Nat)(C:Nat→Nat)(q:Nat)(M:Bool)(O:Nat)(K:List D)(S z:Int):Option D:=
 cw (cF call L C) PD PC FinM.canon Tryz.f49 (bt 8 95) [] q (St.mk (D.slc M O K::J::J::J::D.int .i64 S::D.int .i64 z::jn 132 []) (zn 138 []))
noncomputable def rH(call:CL)(L:Nat)(C:Nat→Nat)(n:Nat)(K:Bool)(M:Nat)(z:List D)(q:Int):Option D:=
 cw (cF call L C) PD PC FinM.canon Tryz.f49 (bt 6 23) [] n (St.mk (D.slc K M z::J::J::D.int .i64 q::jn 134 []) (zn 138 []))
theorem m9(call:CL)(L:Nat)(C:Nat→Nat)(O U:Nat)(S:Bool)(M:Nat)(K:List D)(q z J:Int):gc call L C O (U+1) S M K q z J=
 (bz (decide (J<q))
 (bz (J !=z)
 (bH (!decide (q=0))
 (bz (Int.tmod (IntKind.wrap .i64 (J+1)) q !=z)
 (bH (!decide (q=0))
 (bz (Int.tmod (IntKind.wrap .i64 (z+1)) q !=J)
 (bH (decide (0≤z∧z<(M:Int)))
 (bu K (Int.toNat z*2+0) fun a1=>bD .i64 a1 fun a4=>bu K (Int.toNat z*2+1) fun a2=>bD .i64 a2 fun a5=>bH (!decide (q=0))
 (bH (decide (0≤Int.tmod (IntKind.wrap .i64 (z+1)) q∧Int.tmod (IntKind.wrap .i64 (z+1)) q<(M:Int)))
 (bu K (Int.toNat (Int.tmod (IntKind.wrap .i64 (z+1)) q)*2+0) fun V=>bD .i64 V fun a6=>bu K (Int.toNat (Int.tmod (IntKind.wrap .i64 (z+1)) q)*2+1) fun W=>bD .i64 W fun a7=>bH (decide (0≤J∧J<(M:Int)))
 (bu K (Int.toNat J*2+0) fun X=>bD .i64 X fun a8=>bu K (Int.toNat J*2+1) fun Y=>bD .i64 Y fun a9=>bH (!decide (q=0))
 (bH (decide (0≤Int.tmod (IntKind.wrap .i64 (J+1)) q∧Int.tmod (IntKind.wrap .i64 (J+1)) q<(M:Int)))
 (bu K (Int.toNat (Int.tmod (IntKind.wrap .i64 (J+1)) q)*2+0) fun Z=>bD .i64 Z fun aa=>bu K (Int.toNat (Int.tmod (IntKind.wrap .i64 (J+1)) q)*2+1) fun a0=>bD .i64 a0 fun ab=>bB (call 106 [D.agg [D.int .i64 a4,D.int .i64 a5],D.agg [D.int .i64 a6,D.int .i64 a7],D.agg [D.int .i64 a8,D.int .i64 a9],D.agg [D.int .i64 aa,D.int .i64 ab]]) fun a3=>ce a3 fun b=>bz b
 (some (D.int .i64 16))
 (gc call L C O U S M K q z (IntKind.wrap .i64 (J+1))))))))))
 (gc call L C O U S M K q z (IntKind.wrap .i64 (J+1)))))
 (gc call L C O U S M K q z (IntKind.wrap .i64 (J+1)))))
 (gc call L C O U S M K q z (IntKind.wrap .i64 (J+1))))
 (mG call L C O S M K q (IntKind.wrap .i64 (z+1)))):=by kernel_rfl
theorem xi(call:CL)(L:Nat)(C:Nat→Nat)(q:Nat)(K:Bool)(M:Nat)(J:List D)(O z:Int)(hC:∀t,C t=1):j7 call L C q K M J O z=
 (gc call L C q L K M J O z 0):=by
 unfold j7;rw[hC]
 kernel_rfl
theorem sM(call:CL)(L:Nat)(C:Nat→Nat)(S:Nat)(U:Bool)(K:Nat)(J:List D)(z q:Int):mG call L C (S+1) U K J z q=
 (bz (decide (q<z))
 (bH (decide (0≤q∧q<(K:Int)))
 (bu J (Int.toNat q*2+0) fun Z=>bD .i64 Z fun V=>bu J (Int.toNat q*2+1) fun a0=>bD .i64 a0 fun W=>bH (!decide (z=0))
 (bH (decide (0≤Int.tmod (IntKind.wrap .i64 (q+1)) z∧Int.tmod (IntKind.wrap .i64 (q+1)) z<(K:Int)))
 (bu J (Int.toNat (Int.tmod (IntKind.wrap .i64 (q+1)) z)*2+0) fun a1=>bD .i64 a1 fun M=>bu J (Int.toNat (Int.tmod (IntKind.wrap .i64 (q+1)) z)*2+1) fun a2=>bD .i64 a2 fun O=>bH (!decide (z=0))
 (bH (decide (0≤Int.tmod (IntKind.wrap .i64 (q+2)) z∧Int.tmod (IntKind.wrap .i64 (q+2)) z<(K:Int)))
 (bu J (Int.toNat (Int.tmod (IntKind.wrap .i64 (q+2)) z)*2+0) fun a3=>bD .i64 a3 fun X=>bu J (Int.toNat (Int.tmod (IntKind.wrap .i64 (q+2)) z)*2+1) fun a4=>bD .i64 a4 fun Y=>bz (V==M&&(W==O&&true))
 (some (D.int .i64 16))
 (bB (call 53 [D.agg [D.int .i64 V,D.int .i64 W],D.agg [D.int .i64 M,D.int .i64 O],D.agg [D.int .i64 X,D.int .i64 Y]]) fun a5=>bD .i64 a5 fun a6=>bz (a6==0)
 (bz (decide (IntKind.wrap .i64 (IntKind.wrap .i64 (IntKind.wrap .i64 (V-M)*IntKind.wrap .i64 (X-M))+IntKind.wrap .i64 (IntKind.wrap .i64 (W-O)*IntKind.wrap .i64 (Y-O)))>0))
 (some (D.int .i64 16))
 (j7 call L C S U K J z q))
 (j7 call L C S U K J z q))))))))
 (some (D.int .i64 0))):=by kernel_rfl
theorem sN(call:CL)(L:Nat)(C:Nat→Nat)(n:Nat)(K:Bool)(z:Nat)(J:List D)(q:Int):rH call L C (n+1) K z J q=
 (bz (decide (q<(z:Int)))
 (bH (decide (0≤q∧q<(z:Int)))
 (bu J (Int.toNat q*2+0) fun d=>bD .i64 d fun x=>bu J (Int.toNat q*2+1) fun M=>bD .i64 M fun O=>bB (call 24 [D.agg [D.int .i64 x,D.int .i64 O]]) fun r=>bD .i64 r fun S=>bz (S !=0)
 (some (D.int .i64 3))
 (rH call L C n K z J (IntKind.wrap .i64 (q+1)))))
 (mG call L C L K z J ((z:Int)) 0)):=by kernel_rfl
theorem MF(call:CL)(L:Nat)(C:Nat→Nat)(J:Bool)(q:Nat)(z:List D):bT (cF call L C) PD PC FinM.canon Tryz.f49 [D.slc J q z]=
 (bz (decide ((q:Int)<3))
 (some (D.int .i64 2))
 (bz (decide ((q:Int)>64))
 (some (D.int .i64 5))
 (rH call L C L J q z 0))):=by kernel_rfl
def PU:bY:=fun p=>match p with
 |58=>nm [0,3,5,6] [7,8] [3,7,8]
 |467=>nm [0,3,5,6] [7,8] [3,7,8]
 |7463=>nm [0,3,5,6,70] [7,8] [3,7,8]
 |_=>none
def PV:fX:=fun id=>match id with
 |5=>some {fs:=[(7,7),(8,8)]}
 |_=>none
noncomputable def rI(call:CL)(L:Nat)(C:Nat→Nat)(n:Nat)(K:Bool)(M:Nat)(z:List D)(q S U:Int)(O:Bool):Option D:=
 eL (cF call L C) PV PU FinM.canon Tryz.f54 (bt 8 203) [n] (C 467) (St.mk (D.slc K M z::J::J::D.loc 3 0 0::J::D.bool O::D.int .i64 q::jn 67 []) (Z::Z::Z::(1,some (Ob.box [D.int .i64 S,D.int .i64 U] false))::zn 70 []))
noncomputable def eC(call:CL)(L:Nat)(C:Nat→Nat)(n:Nat)(M:Bool)(O:Nat)(K:List D)(S:Bool)(z U V:Int)(q:Bool):Option D:=
 eL (cF call L C) PV PU FinM.canon Tryz.f54 (bt 12 3659) [n] (C 7463) (St.mk (D.slc M O K::J::J::D.loc 3 0 0::J::D.bool S::D.int .i64 z::jn 63 [D.bool q,J,J,J]) (Z::Z::Z::(1,some (Ob.box [D.int .i64 U,D.int .i64 V] false))::zn 70 []))
noncomputable def xj(call:CL)(L:Nat)(C:Nat→Nat)(n:Nat)(K:Bool)(M:Nat)(z:List D)(S U:Int)(O:Bool)(q:Int):Option D:=
 cw (cF call L C) PV PU FinM.canon Tryz.f54 (bt 5 11) [] n (St.mk (D.slc K M z::J::J::D.loc 3 0 0::J::D.bool O::D.int .i64 q::jn 67 []) (Z::Z::Z::(1,some (Ob.box [D.int .i64 S,D.int .i64 U] false))::zn 70 []))
theorem sO(call:CL)(L:Nat)(C:Nat→Nat)(n:Nat)(J:Bool)(K:Nat)(z:List D)(q O S:Int)(M:Bool)(hC:∀t,C t=1):rI call L C n J K z q O S M=
 (xj call L C n J K z O S M (IntKind.wrap .i64 (q+1))):=by
 unfold rI;rw[hC]
 kernel_rfl
theorem yZ(call:CL)(L:Nat)(C:Nat→Nat)(n:Nat)(J:Bool)(K:Nat)(z:List D)(M:Bool)(q O S:Int)(U:Bool)(hC:∀t,C t=1):eC call L C n J K z M q O S U=
 (bz U
 (rI call L C n J K z q O S (!M))
 (rI call L C n J K z q O S M)):=by
 unfold eC;rw[hC]
 kernel_rfl
theorem vI(call:CL)(L:Nat)(C:Nat→Nat)(n:Nat)(S:Bool)(J:Nat)(M:List D)(K q:Int)(O:Bool)(z:Int):xj call L C (n+1) S J M K q O z=
 (bz (decide (z<(J:Int)))
 (bH (decide (0≤z∧z<(J:Int)))
 (bu M (Int.toNat z*2+0) fun d=>bD .i64 d fun x=>bu M (Int.toNat z*2+1) fun X=>bD .i64 X fun U=>bH (!decide ((J:Int)=0))
 (bH (decide (0≤Int.tmod (IntKind.wrap .i64 (z+1)) (J:Int)∧Int.tmod (IntKind.wrap .i64 (z+1)) (J:Int)<(J:Int)))
 (bu M (Int.toNat (Int.tmod (IntKind.wrap .i64 (z+1)) (J:Int))*2+0) fun Y=>bD .i64 Y fun W=>bu M (Int.toNat (Int.tmod (IntKind.wrap .i64 (z+1)) (J:Int))*2+1) fun Z=>bD .i64 Z fun V=>bB (call 112 [D.agg [D.int .i64 x,D.int .i64 U],D.agg [D.int .i64 W,D.int .i64 V],D.agg [D.int .i64 K,D.int .i64 q]]) fun r=>ce r fun b=>bz b
 (some (D.int .i64 0))
 (bz (decide (U>q))
 (bz (decide (V≤q))
 (bB (call 53 [D.agg [D.int .i64 x,D.int .i64 U],D.agg [D.int .i64 W,D.int .i64 V],D.agg [D.int .i64 K,D.int .i64 q]]) fun a0=>bD .i64 a0 fun a4=>bz (decide (a4>0))
 (eC call L C n S J M O z K q true)
 (bz (decide (V>q))
 (bz (decide (U≤q))
 (bB (call 53 [D.agg [D.int .i64 W,D.int .i64 V],D.agg [D.int .i64 x,D.int .i64 U],D.agg [D.int .i64 K,D.int .i64 q]]) fun a1=>bD .i64 a1 fun a5=>eC call L C n S J M O z K q (decide (a5>0)))
 (eC call L C n S J M O z K q false))
 (eC call L C n S J M O z K q false)))
 (bz (decide (V>q))
 (bz (decide (U≤q))
 (bB (call 53 [D.agg [D.int .i64 W,D.int .i64 V],D.agg [D.int .i64 x,D.int .i64 U],D.agg [D.int .i64 K,D.int .i64 q]]) fun a2=>bD .i64 a2 fun a6=>eC call L C n S J M O z K q (decide (a6>0)))
 (eC call L C n S J M O z K q false))
 (eC call L C n S J M O z K q false)))
 (bz (decide (V>q))
 (bz (decide (U≤q))
 (bB (call 53 [D.agg [D.int .i64 W,D.int .i64 V],D.agg [D.int .i64 x,D.int .i64 U],D.agg [D.int .i64 K,D.int .i64 q]]) fun a3=>bD .i64 a3 fun a7=>eC call L C n S J M O z K q (decide (a7>0)))
 (eC call L C n S J M O z K q false))
 (eC call L C n S J M O z K q false)))))))
 (bz O
 (some (D.int .i64 1))
 (some (D.int .i64 (-1))))):=by kernel_rfl
theorem MG(call:CL)(L:Nat)(C:Nat→Nat)(z:Bool)(J:Nat)(q:List D)(K M:Int):bT (cF call L C) PV PU FinM.canon Tryz.f54 [D.slc z J q,D.agg [D.int .i64 K,D.int .i64 M]]=
 (xj call L C L z J q K M false 0):=by kernel_rfl
end Go.Pd
end
section
namespace Go.Pd
open Go Go.Proofs Go.RowKit Go.Shelf
theorem gd:Tryz.prog.follows .mixedOrders=true:=by kernel_rfl
abbrev OK2(k:FuncId)(ds:List D)(r:D):Prop:=CallOK Tryz.prog ig k ds r
abbrev dA(c:FuncId→List D→Option D):Prop:=∀k ds r,c k ds=some r→CallOK Tryz.prog ig k ds r
def bw(base:FuncId→List D→Option D):FuncId→List D→Option D:=fun k ds=>match ja k ds with
 |some r=>some r
 |none=>base k ds
def C1:Nat→Nat:=fun _=>1
theorem c1:∀t,C1 t=1:=fun _=>rfl
def lG(t:FuncId→Bool)(mu:FuncId→List D→Option D):Prop:=∀k cs len rest f m cs',mu k (.slc false len cs::rest)=some (.slc f m cs')→Db Tryz.prog ig k cs len rest cs' (match t k with|true=>some m|false=>none)
def jA:FuncId→Bool:=fun k=>match k with
 |148=>true
 |_=>false
theorem ol{mu:FuncId→List D→Option D}(h:lG jA mu){k:FuncId}{t:Bool}(ht:jA k=t)(hen:∀vs w,(callFunc k vs).run Tryz.prog w= .ok (.enter k vs) w):AT Tryz.prog ig k (Hx t (mu k)):=by
 refine IE hen fun cs len rest cs' m hg=> ?_;unfold Hx at hg;split at hg
 ·rename_i f m' cs2 hmu;have:=h k cs len rest f m' cs2 hmu;cases hg;rw[ht] at this;exact this
 ·cases hg
theorem kS{mu:FuncId→List D→Option D}(h:lG jA mu):∀k g,IR mu k=some g→HH Tryz.prog ig k g:=by
 intro k g hg;unfold IR at hg;split at hg
 ·cases hg;exact ol h rfl (enters_of Tryz.func146 (by kernel_rfl) rfl)
 ·cases hg;exact ol h rfl (enters_of Tryz.func148 (by kernel_rfl) rfl)
 ·cases hg;exact ol h rfl (enters_of Tryz.func177 (by kernel_rfl) rfl)
 ·cases hg;exact ol h rfl (enters_of Tryz.func196 (by kernel_rfl) rfl)
 ·cases hg;exact ol h rfl (enters_of Tryz.func238 (by kernel_rfl) rfl)
 ·cases hg
theorem kT{mu:FuncId→List D→Option D}{Q:FuncId→TypeId→Nat→Prop}:∀k e n,IR mu k=some (.own e n)→Q k e n:=by
 intro k e n h;unfold IR at h;split at h<;>cases h
theorem kU:lG jA yW:=fun _ _ _ _ _ _ _ h=>by cases h
theorem cK:dA (fun _ _=>none):=fun _ _ _ h=>by cases h
theorem xk:dA ja:=by
 have h0:EnvOK (PS (fun _ _=>none) LL C1).E:=⟨fun _ _ _ h=>(by cases h),kS kU,kT,fun _ _ hi=>nomatch hi⟩;intro k ds r h;unfold ja at h;split at h
 ·cases h;exact kO (Te:=PS (fun _ _=>none) LL C1) gd h0 (fun _ _ _ h=>by cases h) rfl (fun _ _ _ h=>by cases h) Tryz.func109 (ord:=O0) (N:=N0) (keep:= .canon) (by simp) (by kernel_rfl) (IS _ _ _ _ _ _)
 ·cases h;exact kO (Te:=PS (fun _ _=>none) LL C1) gd h0 (fun _ _ _ h=>by cases h) rfl (fun _ _ _ h=>by cases h) Tryz.func94 (ord:=O0) (N:=N0) (keep:= .canon) (by simp) (by kernel_rfl) (Mp _ _ _ _ _ _)
 ·cases h
theorem gW{base:FuncId→List D→Option D}(hb:dA base):dA (bw base):=by
 intro k ds r h;unfold bw at h;split at h
 ·rename_i x hx;cases h;exact xk k ds _ hx
 ·exact hb k ds r h
theorem eP{base:FuncId→List D→Option D}:∀k ds r,ja k ds=some r→bw base k ds=some r:=fun k ds r h=>by
 unfold bw;rw[h]
theorem y4{base:FuncId→List D→Option D}{k:FuncId}{ds:List D}(h:ja k ds=none):bw base k ds=base k ds:=by
 unfold bw;rw[h]
abbrev TS(sq:FuncId→List D→Option (List (List D))):Prop:=∀g cs ys,sq g cs=some ys→kK Tryz.prog ig g cs ys
theorem PW{f:FuncId}{fn:Func}(hf:Tryz.prog.funcs[f]?=some fn){ord:fX}{N:bY}(hok:eh Tryz.prog ord fn=true)(hres:fn.results.toList=[]){c:Code}(hb:fn.body=some c){caps:List D}{ys:List (List D)}
  (he:∀l,lk (fG (LC (bw fun _ _=>none) LL C1 l) ord N (uQ fn) 1 (cx fn (.fn (.yield l) [] []::caps)) (jz (LC (bw fun _ _=>none) LL C1 l).E .raw fn))=some ys):kK Tryz.prog ig f caps ys:=by
 refine IC (Te:=cF (bw fun _ _=>none) LL C1) gd ⟨yk (gW cK),kS kU,kT,fun _ _ hi=>nomatch hi⟩ eP hf (N:=N) hok hres ?_;unfold Ip;have hbo:uQ fn=c:=by unfold uQ;rw[hb];rfl
 rw[hbo] at he;rw[hb];dsimp only;have:(fun l=>lk (fG {cF (bw fun _ _=>none) LL C1 with it:=some l} ord N c 1 (cx fn (.fn (.yield l) [] []::caps)) (jz (cF (bw fun _ _=>none) LL C1).E .raw fn)))=fun _=>some ys:=funext he;rw[this];exact Da _
theorem y5(l:Nat)(f:Bool)(n:Nat)(c:List D)(hn:n<4611686018427387904):∀(k i fuel:Nat),i+k=n→k<fuel→xg (bw fun _ _=>none) LL C1 l fuel f n c n i=kQ n c k i
 |0,i,fuel+1,h,_=>by
  rw[vH];have:decide ((i:Int)<n)=false:=by simp;omega
  rw[this];rfl
 |k+1,i,fuel+1,h,hf=>by
  have ih:=y5 l f n c hn k (i+1) fuel (by omega) (by omega);have e1:decide ((i:Int)<n)=true:=by simp;omega
  have e2:decide ((0:Int)≤(i:Int)∧(i:Int)<n)=true:=by simp;omega
  have e3:IntKind.wrap .i64 ((i:Int)+1)=((i+1:Nat):Int):=by rw[bS (by omega)];rfl
  have e4:Int.tmod (((i+1:Nat):Int)) (n:Int)=(((i+1)%n:Nat):Int):=rfl;have hm:(i+1)%n<n:=ze1 _ (by omega);have e5:decide ((0:Int)≤(((i+1)%n:Nat):Int)∧(((i+1)%n:Nat):Int)<n)=true:=za1 ⟨zc9 _,Int.ofNat_lt.2 hm⟩;have e6:(!decide ((n:Int)=0))=true:=by simp;omega
  rw[vH,e1,bx,e2,bC,e3,e4,e5,e6];unfold kQ;simp only[za3,bC,ih,decide_true]
theorem iA:TS IQ:=by
 intro g cs ys h;unfold IQ at h;split at h
 ·rename_i f n c;obtain⟨hn,h⟩:=Bz h;simp only[zc7] at hn;refine PW Tryz.func176 (ord:=O0) (N:=MB) (by kernel_rfl) rfl rfl fun l=> ?_;exact(Jd _ _ _ l f n c).trans ((y5 l f n c hn n 0 LL (by omega) (by unfold LL;omega)).trans h)
 ·cases h
theorem Tt{base:FuncId→List D→Option D}(hb:dA base){sq:FuncId→List D→Option (List (List D))}(hs:TS sq){f:FuncId}{fn:Func}(hf:Tryz.prog.funcs[f]?=some fn){ord:fX}{N:bY}(hok:eh Tryz.prog ord fn=true){ds:List D}{r:D}
  (he:bT (IK (bw base) LL C1 sq) ord N .canon fn ds=some r):OK2 f ds r:=
 kO (Te:=IK (bw base) LL C1 sq) gd ⟨yk (gW hb),kS kU,kT,fun _ _ hi=>nomatch hi⟩ eP rfl hs hf (by simp) hok he
theorem dT{base:FuncId→List D→Option D}(hb:dA base){f:FuncId}{fn:Func}(hf:Tryz.prog.funcs[f]?=some fn){ord:fX}{N:bY}(hok:eh Tryz.prog ord fn=true){ds:List D}{r:D}
  (he:bT (cF (bw base) LL C1) ord N .canon fn ds=some r):OK2 f ds r:=Tt hb iA hf hok he
theorem V1{base mu:FuncId→List D→Option D}(hb:dA base)(hm:lG jA mu){f:FuncId}{fn:Func}(hf:Tryz.prog.funcs[f]?=some fn){ord:fX}{N:bY}{keep:FinM}(hk:keep= .canon∨keep= .raw)(hok:eh Tryz.prog ord fn=true){ds:List D}{r:D}
  (he:bT (PR (bw base) mu LL C1) ord N keep fn ds=some r):OK2 f ds r:=
 kO (Te:=PR (bw base) mu LL C1) gd ⟨yk (gW hb),kS hm,kT,fun _ _ hi=>nomatch hi⟩ eP rfl iA hf (by rcases hk with h|h<;>subst h<;>simp) hok he
theorem TT{base mu:FuncId→List D→Option D}(hb:dA base)(hm:lG jA mu){f:FuncId}{fn:Func}(hf:Tryz.prog.funcs[f]?=some fn){ord:fX}{N:bY}(hok:eh Tryz.prog ord fn=true)(h0:qD fn=true){cs rest cs':List D}{len:Nat}
  (he:∀e n,cs.length=len*n→qy (PB (bw base) mu LL C1 e n) ord N e n fn len cs rest=some (.slc false len cs')):Db Tryz.prog ig f cs len rest cs' none:=
 FA (Te:=PR (bw base) mu LL C1) gd ⟨yk (gW hb),kS hm,kT,fun _ _ hi=>nomatch hi⟩ eP rfl iA hf hok h0 he
structure Fam where
 f:FuncId
 ι:Type
 a:ι→List D
 r:ι→D
def Fam.Good(F:Fam):Prop:=(∀i,OK2 F.f (F.a i) (F.r i))∧(∀i j,F.a i=F.a j→F.r i=F.r j)∧∀i,ja F.f (F.a i)=none
def rJ:List Fam→Prop
 |[]=>True
 |F::l=>F.Good∧rJ l
def MH(B:FuncId→List D→Option D):List Fam→Prop
 |[]=>True
 |F::l=>(∀i,bw B F.f (F.a i)=some (F.r i))∧MH B l
theorem lU:∀{l:List Fam},rJ l→∀F∈l,F.Good
 |[],_,F,hF=>by cases hF
 |F0::l,h,F,hF=>by
  rcases List.mem_cons.1 hF with rfl|hF
  ·exact h.1
  ·exact lU h.2 F hF
theorem Dj{B:FuncId→List D→Option D}:∀{l:List Fam},(∀F∈l,∀i,bw B F.f (F.a i)=some (F.r i))→MH B l
 |[],_=>trivial
 |F::_,h=>⟨h F (za4 ..),Dj fun e he=>h e (za5 _ he)⟩
open Classical in
noncomputable def Jh(l:List Fam):FuncId→List D→Option D:=fun k ds=>
 if h:∃r,∃F∈l,∃i:F.ι,F.f=k∧F.a i=ds∧F.r i=r then some h.choose else none
theorem Ji{l:List Fam}(h:rJ l):dA (Jh l):=by
 intro k ds r hr;unfold Jh at hr;split at hr
 ·rename_i hx;cases hr;obtain⟨F,hF,i,rfl,rfl,h3⟩:=hx.choose_spec;rw[←h3];exact(lU h F hF).1 i
 ·cases hr
def BL:List FuncId→Bool
 |[]=>true
 |x::l=>l.all (fun y=>x !=y)&&BL l
theorem Dk:∀{l:List Fam},BL (l.map Fam.f)=true→∀F∈l,∀F'∈l,F.f=F'.f→F=F'
 |[],_,F,hF,_,_,_=>by cases hF
 |F0::l,h,F,hF,F',hF',he=>by
  simp only[List.map_cons,BL,zc4,zd9,ze9,ne_eq] at h;have key:∀G∈l,F0.f≠G.f:=fun G hG=>h.1 G.f (zd8.2 ⟨G,hG,rfl⟩);rcases List.mem_cons.1 hF with h1|h1
  ·rcases List.mem_cons.1 hF' with h2|h2
   ·rw[h1,h2]
   ·exact absurd (h1▸he) (key F' h2)
  ·rcases List.mem_cons.1 hF' with h2|h2
   ·exact absurd (h2▸he).symm (key F h1)
   ·exact Dk h.2 F h1 F' h2 he
theorem fP(l:List Fam)(h:rJ l)(hn:BL (l.map Fam.f)=true):∃B,dA B∧MH B l:=by
 refine⟨Jh l,Ji h,Dj fun F hF i=> ?_⟩;obtain⟨_,h2,h3⟩:=lU h F hF;rw[y4 (h3 i)];have hx:∃r,∃F'∈l,∃j:F'.ι,F'.f=F.f∧F'.a j=F.a i∧F'.r j=r:=⟨F.r i,F,hF,i,rfl,rfl,rfl⟩;unfold Jh;rw[dif_pos hx];obtain⟨F',hF',j,h4,h5,h6⟩:=hx.choose_spec;obtain rfl:=Dk hn F' hF' F hF h4;rw[←h6,h2 j i h5]
def one(f:FuncId)(ds:List D)(r:D):Fam:=⟨f,Unit,fun _=>ds,fun _=>r⟩
theorem bM{f:FuncId}{ds:List D}{r:D}(h:OK2 f ds r)(hc:ja f ds=none):(one f ds r).Good:=⟨fun _=>h,fun _ _ _=>rfl,fun _=>hc⟩
end Go.Pd
end
section
namespace Go.Pd
open Go Go.Proofs
set_option maxRecDepth 100000
end Go.Pd
end
section
namespace Go.Proofs
open Go.Shelf
def Tryz.lays171_ren:Go.Shelf.Ren:=⟨fun|171=>125|243=>181|246=>227|283=>273|284=>274|285=>275|286=>276|129=>247|317=>299|318=>300|319=>301|320=>302|337=>320|338=>321|n=>n,fun|3=>3|9=>9|2=>2|4=>4|171=>334|0=>0|53=>217|37=>192|5=>5|173=>336|212=>352|51=>315|20=>20|213=>353|46=>272|232=>378|233=>379|n=>n,fun|17=>4|18=>7|19=>8|n=>n⟩
theorem Tryz.lays171:Go.Proofs.Lays.n171 Tryz.prog Tryz.lays171_ren:={
 mixed:=by kernel_rfl
 f129:=Tryz.func247.trans (congrArg some (by kernel_rfl))
 f171:=Tryz.func125.trans (congrArg some (by kernel_rfl))
 f243:=Tryz.func181.trans (congrArg some (by kernel_rfl))
 f246:=Tryz.func227.trans (congrArg some (by kernel_rfl))
 f283:=Tryz.func273.trans (congrArg some (by kernel_rfl))
 f284:=Tryz.func274.trans (congrArg some (by kernel_rfl))
 f285:=Tryz.func275.trans (congrArg some (by kernel_rfl))
 f286:=Tryz.func276.trans (congrArg some (by kernel_rfl))
 f317:=Tryz.func299.trans (congrArg some (by kernel_rfl))
 f318:=Tryz.func300.trans (congrArg some (by kernel_rfl))
 f319:=Tryz.func301.trans (congrArg some (by kernel_rfl))
 f320:=Tryz.func302.trans (congrArg some (by kernel_rfl))
 f337:=Tryz.func320.trans (congrArg some (by kernel_rfl))
 f338:=Tryz.func321.trans (congrArg some (by kernel_rfl))
 t0:=Tryz.underlying0
 a0:=Tryz.isAgg0
 z0:=Tryz.sizeOf0
 v0:=Tryz.zeroValue0
 t2:=Tryz.underlying2
 a2:=Tryz.isAgg2
 z2:=Tryz.sizeOf2
 v2:=Tryz.zeroValue2
 t3:=Tryz.underlying3
 a3:=Tryz.isAgg3
 z3:=Tryz.sizeOf3
 v3:=Tryz.zeroValue3
 t4:=Tryz.underlying4
 a4:=Tryz.isAgg4
 z4:=Tryz.sizeOf4
 v4:=Tryz.zeroValue4
 t5:=Tryz.underlying5
 a5:=Tryz.isAgg5
 z5:=Tryz.sizeOf5
 v5:=Tryz.zeroValue5
 t9:=Tryz.underlying9
 a9:=Tryz.isAgg9
 z9:=Tryz.sizeOf9
 v9:=Tryz.zeroValue9
 t20:=Tryz.underlying20
 a20:=Tryz.isAgg20
 z20:=Tryz.sizeOf20
 v20:=Tryz.zeroValue20
 t37:=Tryz.underlying192
 a37:=Tryz.isAgg192
 z37:=Tryz.sizeOf192
 v37:=Tryz.zeroValue192
 t46:=Tryz.underlying272
 a46:=Tryz.isAgg272
 z46:=Tryz.sizeOf272
 v46:=Tryz.zeroValue272
 t51:=Tryz.underlying315
 a51:=Tryz.isAgg315
 z51:=Tryz.sizeOf315
 v51:=Tryz.zeroValue315
 t53:=Tryz.underlying217
 a53:=Tryz.isAgg217
 z53:=Tryz.sizeOf217
 v53:=Tryz.zeroValue217
 t171:=Tryz.underlying334
 a171:=Tryz.isAgg334
 z171:=Tryz.sizeOf334
 v171:=Tryz.zeroValue334
 t173:=Tryz.underlying336
 a173:=Tryz.isAgg336
 z173:=Tryz.sizeOf336
 v173:=Tryz.zeroValue336
 t212:=Tryz.underlying352
 a212:=Tryz.isAgg352
 z212:=Tryz.sizeOf352
 v212:=Tryz.zeroValue352
 t213:=Tryz.underlying353
 a213:=Tryz.isAgg353
 z213:=Tryz.sizeOf353
 t232:=Tryz.underlying378
 a232:=Tryz.isAgg378
 z232:=Tryz.sizeOf378
 v232:=Tryz.zeroValue378
 t233:=Tryz.underlying379
 a233:=Tryz.isAgg379
 z233:=Tryz.sizeOf379
 v233:=Tryz.zeroValue379
 g17:=by kernel_rfl
 g18:=by kernel_rfl
 g19:=by kernel_rfl}
open Go.RowKit Go.Sort Go.Lib in
theorem Tryz.strconv_Itoa_small(i:Nat)(hi:i<100)(w:World):
  Calls Tryz.prog 125 #[.int .i64 i] w fun e w'=>e= .returned (.string ⟨(Lib.decDigits i).toArray⟩)∧w'=w:=Any.strconv_Itoa_small Tryz.lays171 i hi w
def Tryz.lays264_ren:Go.Shelf.Ren:=⟨fun|264=>248|n=>n,fun|53=>217|46=>272|n=>n,fun|n=>n⟩
theorem Tryz.lays264:Go.Proofs.Lays.n264 Tryz.prog Tryz.lays264_ren:={
 mixed:=by kernel_rfl
 f264:=Tryz.func248.trans (congrArg some (by kernel_rfl))
 t46:=Tryz.underlying272
 a46:=Tryz.isAgg272
 z46:=Tryz.sizeOf272
 v46:=Tryz.zeroValue272
 t53:=Tryz.underlying217
 a53:=Tryz.isAgg217
 z53:=Tryz.sizeOf217
 v53:=Tryz.zeroValue217}
open Go.RowKit Go.Lib in
theorem Tryz.bits_Mul64(x y:Nat)(hx:x<18446744073709551616)(hy:y<18446744073709551616)(w:World):
  Calls Tryz.prog 248 #[.int .u64 x,.int .u64 y] w fun e w'=>e= .returned (.tuple #[.int .u64 ((x*y/18446744073709551616:Nat):Int),.int .u64 ((x*y%18446744073709551616:Nat):Int)])∧w'=w:=Any.bits_Mul64 Tryz.lays264 x y hx hy w
end Go.Proofs
end
section
namespace Go.Pd
open Go Go.Proofs Go.RowKit Go.Shelf
set_option maxRecDepth 100000
def zD(a:Int):D:= .agg [.int .i64 a,.nils]
theorem rK{I:Nat→Prop}{w:World}{k:IntKind}{n:Int}{v:Value}(h:RelC I w (.int k n) v):v= .int k n:=by cases h;rfl
theorem PX(x y:Nat)(hx:x<18446744073709551616)(hy:y<18446744073709551616):OK2 248 [.int .u64 x,.int .u64 y] (.tup [.int .u64 ((x*y/18446744073709551616:Nat):Int),.int .u64 ((x*y%18446744073709551616:Nat):Int)]):=by
 refine⟨enters_of Tryz.func248 (by kernel_rfl) rfl,fun I w vs hI hgl hl hr=> ?_⟩;obtain⟨l⟩:=vs
 match l,hl with
 |[v,u],_=>
  have hv:=rK (hr 0 _ v rfl rfl);have hu:=rK (hr 1 _ u rfl rfl);subst hv hu;refine(Tryz.bits_Mul64 x y hx hy w).mono ?_
  rintro e w' ⟨rfl,rfl⟩
  refine⟨_,rfl,.tup _ _ rfl fun j d v hd hv=> ?_,.refl _ _⟩
  match j with
  |0=>simp at hd hv;subst hd hv;exact .int _ _
  |1=>simp at hd hv;subst hd hv;exact .int _ _
  |j+2=>simp at hd
def PY(k:FuncId)(Q:Int→Int→Prop)(r:Int→Int→D):Fam:=⟨k,{x:Int×Int//Q x.1 x.2},fun x=>[zD x.1.1,zD x.1.2],fun x=>r x.1.1 x.1.2⟩
end Go.Pd
end
section
namespace Go.Pd
open Go Go.Proofs Go.RowKit
set_option maxRecDepth 100000
def Tu(n d:Int):Int×Int:=(n/(Nat.gcd n.natAbs d.natAbs:Nat),d/(Nat.gcd n.natAbs d.natAbs:Nat))
def TU(n d:Int):Int×Int:=if d<0 then Tu (-n) (-d) else Tu n d
def Sm(x:Int×Int):Prop:=x.1.natAbs<2147483648∧0<x.2∧x.2<2147483648
instance (x:Int×Int):Decidable (Sm x):=by unfold Sm;infer_instance
def MI(x y:Int×Int):Int×Int:=match(x.2==1)&&(y.2==1) with
 |true=>(x.1+y.1,1)
 |false=>TU (x.1*y.2+y.1*x.2) (x.2*y.2)
def MJ(x:Int×Int):Int×Int:=(-x.1,x.2)
def PZ(x y:Int×Int):Int×Int:=MI x (MJ y)
end Go.Pd
end
