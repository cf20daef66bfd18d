import Derived.Test.YtjhoaknnmfifgaaGreatDoorUnA
import Derived.KernelRfl
import Derived.Test.YtjhoaknnmfifgaaGreatDoorUnJ
section
namespace Go.Pd
open Go Go.Proofs
set_option maxRecDepth 100000
theorem CS(call:CL)(L:Nat)(C:Nat→Nat)(i:Bool)(q:Nat)(h:List D)(J:Bool)(K:Nat)(z:List D)(O:Bool)(U:Nat)(M:List D)(W:Bool)(Y:Nat)(V:List D)(a0:Bool)(a1:Nat)(Z:List D)(a3:Bool)(a4:Nat)(a2:List D):bX (cD call L C) O0 N0 FinM.canon Tryz.f40 [D.agg [D.slc i q h,D.slc J K z,D.slc O U M,D.slc W Y V,D.slc a0 a1 Z,D.slc a3 a4 a2]]=
 (bC (call 14 [D.agg [D.slc i q h,D.slc J K z,D.slc O U M,D.slc W Y V,D.slc a0 a1 Z,D.slc a3 a4 a2]]) fun r=>bU r fun b=>bx b
 (bC (call 16 [D.agg [D.slc i q h,D.slc J K z,D.slc O U M,D.slc W Y V,D.slc a0 a1 Z,D.slc a3 a4 a2]]) fun a5=>bD .i64 a5 fun x=>some (D.bool (x==0)))
 (some (D.bool false))):=by kernel_rfl
def N5:bN:=fun p=>match p with
 |15=>nm [1,2] [5,7,18,19,115,131] [2,5,7,18,19,115,131]
 |511=>nm [2,6,7,9,11] [5,18,19,115,131] [2,5,7,18,19,115,131]
 |8186=>nm [2,6,7,9,11,13,83,84] [5,18,19,115,131] [2,5,7,18,19,115,131]
 |8382874=>nm [2,6,7,9,11,13,14,15,16,83,84,88,89,90] [5,18,19] [2,5,7,18,19,115,131]
 |8382879=>nm [2,6,7,9,11,13,14,15,16,19,83,84] [5,18] [2,5,7,18,19,115,131]
 |1073007923=>nm [2,6,7,9,11,13,14,15,16,18,83,84,88,89,90,110] [5,19] [2,5,7,18,19,115,131]
 |_=>none
noncomputable def bJ(call:CL)(L:Nat)(C:Nat→Nat)(M O:Nat)(vp:ByteArray)(aa:Bool)(ab:Nat)(a9:List D)(a2:Bool)(a3:Nat)(a1:List D)(V h t83:Int)(z:Bool)(K:Nat)(r:List D)(t89 t90:Int)(ae:Bool)(af:Nat)(ad:List D)(ah:Bool)(ai:Nat)(ag:List D)(ak:Bool)(al:Nat)(aj:List D)(an:Bool)(ao:Nat)(am:List D)(aq:Bool)(ar:Nat)(ap:List D)(vc:ByteArray)(Y:Bool)(a0:Nat)(W:List D)(i:Ow)(q:Ow)(U:Bool)(vm a5:ByteArray)(a6 a7:Int)(a8:ByteArray):Option D:=
 eO (cD call L C) O0 N5 FinM.canon Tryz.f5 (bt 29 429286911) [M,O] (C 1073007923) (St.mk (J::J::D.loc 2 0 0::J::J::J::D.str vp::D.loc 7 0 0::J::D.slc aa ab a9::J::D.slc a2 a3 a1::J::D.int .i64 V::D.int .i64 h::j7 115 i::j7 131 q::J::D.loc 18 0 0::jn 64 (D.int .i64 t83::D.int .i64 h::J::J::J::D.slc z K r::D.int .i64 t89::D.int .i64 t90::jn 19 (D.bool U::jn 99 []))) (Z::Z::(1,some (Ob.box [D.slc ae af ad,D.slc ah ai ag,D.slc ak al aj,D.slc z K r,D.slc an ao am,D.slc aq ar ap] false))::Z::Z::Z::Z::(1,some (Ob.box [D.str vc,D.slc Y a0 W] false))::zn 10 ((1,some (Ob.box [D.str vm,D.str a5,D.int .i64 a6,D.int .i64 a7,D.str a8] false))::zn 96 (j8 78 2 i::zn 15 (j8 78 2 q::zn 78 [])))))
noncomputable def cK(call:CL)(L:Nat)(C:Nat→Nat)(r:Nat)(vp:ByteArray)(a0:Bool)(a1:Nat)(Y:List D)(V:Bool)(W:Nat)(U:List D)(z h t83:Int)(a4:Bool)(a5:Nat)(a3:List D)(a7:Bool)(a8:Nat)(a6:List D)(aa:Bool)(ab:Nat)(a9:List D)(ad:Bool)(ae:Nat)(ac:List D)(ag:Bool)(ah:Nat)(af:List D)(aj:Bool)(ak:Nat)(ai:List D)(vc:ByteArray)(M:Bool)(O:Nat)(K:List D)(i:Ow)(q:Ow)(al:Int)(am:ByteArray):Option D:=
 eO (cD call L C) O0 N5 FinM.canon Tryz.f5 (bt 22 4089343) [r] (C 8382879) (St.mk (J::J::D.loc 2 0 0::J::J::J::D.str vp::D.loc 7 0 0::J::D.slc a0 a1 Y::J::D.slc V W U::J::D.int .i64 z::D.int .i64 h::j7 115 i::j7 131 q::J::J::D.loc 19 0 0::jn 63 (D.int .i64 t83::D.int .i64 h::jn 125 [])) (Z::Z::(1,some (Ob.box [D.slc a4 a5 a3,D.slc a7 a8 a6,D.slc aa ab a9,D.slc ad ae ac,D.slc ag ah af,D.slc aj ak ai] false))::Z::Z::Z::Z::(1,some (Ob.box [D.str vc,D.slc M O K] false))::zn 11 ((1,some (Ob.box [D.int .i64 al,D.str am] false))::zn 95 (j8 78 2 i::zn 15 (j8 78 2 q::zn 78 [])))))
noncomputable def cg(call:CL)(L:Nat)(C:Nat→Nat)(M O:Nat)(vp:ByteArray)(a4:Bool)(a5:Nat)(a3:List D)(a1:Bool)(a2:Nat)(a0:List D)(U h t83:Int)(z:Bool)(K:Nat)(r:List D)(a8:Bool)(a9:Nat)(a7:List D)(ab:Bool)(ac:Nat)(aa:List D)(ae:Bool)(af:Nat)(ad:List D)(ah:Bool)(ai:Nat)(ag:List D)(ak:Bool)(al:Nat)(aj:List D)(vc:ByteArray)(W:Bool)(Y:Nat)(V:List D)(i:Ow)(q:Ow)(t89 t90:Int):Option D:=
 cp (cD call L C) O0 N5 FinM.canon Tryz.f5 (bt 22 1467903) [M] O (St.mk (J::J::D.loc 2 0 0::J::J::J::D.str vp::D.loc 7 0 0::J::D.slc a4 a5 a3::J::D.slc a1 a2 a0::J::D.int .i64 U::D.int .i64 h::j7 115 i::j7 131 q::jn 66 (D.int .i64 t83::D.int .i64 h::J::J::J::D.slc z K r::D.int .i64 t89::D.int .i64 t90::jn 119 [])) (Z::Z::(1,some (Ob.box [D.slc a8 a9 a7,D.slc ab ac aa,D.slc ae af ad,D.slc z K r,D.slc ah ai ag,D.slc ak al aj] false))::Z::Z::Z::Z::(1,some (Ob.box [D.str vc,D.slc W Y V] false))::zn 107 (j8 78 2 i::zn 15 (j8 78 2 q::zn 78 []))))
noncomputable def eN(call:CL)(L:Nat)(C:Nat→Nat)(h:Nat)(vp:ByteArray)(W:Bool)(Y:Nat)(V:List D)(O:Bool)(U:Nat)(M:List D)(a2:Bool)(a3:Nat)(a1:List D)(a5:Bool)(a6:Nat)(a4:List D)(a8:Bool)(a9:Nat)(a7:List D)(ab:Bool)(ac:Nat)(aa:List D)(ae:Bool)(af:Nat)(ad:List D)(ah:Bool)(ai:Nat)(ag:List D)(vc:ByteArray)(z:Bool)(K:Nat)(r:List D)(q t83 i:Int):Option D:=
 cp (cD call L C) O0 N5 FinM.canon Tryz.f5 (bt 12 1535) [] h (St.mk (J::J::D.loc 2 0 0::J::J::J::D.str vp::D.loc 7 0 0::J::D.slc W Y V::J::D.slc O U M::J::D.int .i64 q::jn 69 (D.int .i64 t83::D.int .i64 i::jn 125 [])) (Z::Z::(1,some (Ob.box [D.slc a2 a3 a1,D.slc a5 a6 a4,D.slc a8 a9 a7,D.slc ab ac aa,D.slc ae af ad,D.slc ah ai ag] false))::Z::Z::Z::Z::(1,some (Ob.box [D.str vc,D.slc z K r] false))::zn 202 []))
noncomputable def yp(call:CL)(L:Nat)(C:Nat→Nat)(Y:Bool)(a0:Nat)(W:List D)(a2:Bool)(a3:Nat)(a1:List D)(a5:Bool)(a6:Nat)(a4:List D)(a8:Bool)(a9:Nat)(a7:List D)(ab:Bool)(ac:Nat)(aa:List D)(ae:Bool)(af:Nat)(ad:List D)(V:ByteArray)(O:Bool)(U:Nat)(M:List D)(z:Bool)(K:Nat)(r:List D)(vc:ByteArray)(i:Bool)(q:Nat)(h:List D):Option D:=
 eO (cD call L C) O0 N5 FinM.canon Tryz.f5 (bt 8 255) [] (C 511) (St.mk (J::J::D.loc 2 0 0::J::J::J::D.str V::D.loc 7 0 0::J::D.slc O U M::J::D.slc z K r::jn 198 []) (Z::Z::(1,some (Ob.box [D.slc Y a0 W,D.slc a2 a3 a1,D.slc a5 a6 a4,D.slc a8 a9 a7,D.slc ab ac aa,D.slc ae af ad] false))::Z::Z::Z::Z::(1,some (Ob.box [D.str vc,D.slc i q h] false))::zn 202 []))
noncomputable def CT(call:CL)(L:Nat)(C:Nat→Nat)(h:Int)(q:Bool)(r:Nat)(i:List D)(K:Bool)(M:Nat)(z:List D)(U:Bool)(V:Nat)(O:List D)(Y:Bool)(a0:Nat)(W:List D)(a2:Bool)(a3:Nat)(a1:List D)(a5:Bool)(a6:Nat)(a4:List D):Option D:=
 eO (cD call L C) O0 N5 FinM.canon Tryz.f5 [true,true,true] [] (C 15) (St.mk (J::D.int IntKind.u8 h::D.loc 2 0 0::jn 207 []) (Z::Z::(1,some (Ob.box [D.slc q r i,D.slc K M z,D.slc U V O,D.slc Y a0 W,D.slc a2 a3 a1,D.slc a5 a6 a4] false))::zn 207 []))
theorem d8(call:CL)(L:Nat)(C:Nat→Nat)(q r:Nat)(i:ByteArray)(Y:Bool)(Z:Nat)(W:List D)(U:Bool)(V:Nat)(O:List D)(z h t83:Int)(aa:Bool)(ab:Nat)(a9:List D)(t89 t90:Int)(a1:Bool)(a2:Nat)(a0:List D)(a4:Bool)(a5:Nat)(a3:List D)(a7:Bool)(a8:Nat)(a6:List D)(ad:Bool)(ae:Nat)(ac:List D)(ag:Bool)(ah:Nat)(af:List D)(vc:ByteArray)(K:Bool)(M:Nat)(J:List D)(ak:Bool)(vm an:ByteArray)(am ai:Int)(aj:ByteArray)(hC:∀t,C t=1):bJ call L C q r i Y Z W U V O z h t83 aa ab a9 t89 t90 a1 a2 a0 a4 a5 a3 a7 a8 a6 ad ae ac ag ah af vc K M J (Ow.nil) (Ow.nil) ak vm an am ai aj=
 (bx ak
 (cg call L C q r i Y Z W U V O z h t83 aa ab a9 a1 a2 a0 a4 a5 a3 a7 a8 a6 ad ae ac ag ah af vc K M J (Ow.own 1 [D.int .i64 ai,D.str aj]) (Ow.nil) t89 (IntKind.wrap .i64 (t90+1)))
 (bx (ByteArray.toList vm==ByteArray.toList i)
 (bx (am==IntKind.wrap .i64 (h+1))
 (cg call L C q r i Y Z W U V O z h t83 aa ab a9 a1 a2 a0 a4 a5 a3 a7 a8 a6 ad ae ac ag ah af vc K M J (Ow.nil) (Ow.own 1 [D.int .i64 ai,D.str aj]) t89 (IntKind.wrap .i64 (t90+1)))
 (cg call L C q r i Y Z W U V O z h t83 aa ab a9 a1 a2 a0 a4 a5 a3 a7 a8 a6 ad ae ac ag ah af vc K M J (Ow.nil) (Ow.nil) t89 (IntKind.wrap .i64 (t90+1))))
 (cg call L C q r i Y Z W U V O z h t83 aa ab a9 a1 a2 a0 a4 a5 a3 a7 a8 a6 ad ae ac ag ah af vc K M J (Ow.nil) (Ow.nil) t89 (IntKind.wrap .i64 (t90+1))))):=by
 unfold bJ;rw[hC]
 kernel_rfl
theorem d9(call:CL)(L:Nat)(C:Nat→Nat)(r z:Nat)(q:ByteArray)(Z:Bool)(a0:Nat)(Y:List D)(V:Bool)(W:Nat)(U:List D)(J i t83:Int)(ac:Bool)(ad:Nat)(ab:List D)(t89 t90:Int)(a3:Bool)(a4:Nat)(a2:List D)(a6:Bool)(a7:Nat)(a5:List D)(a9:Bool)(aa:Nat)(a8:List D)(af:Bool)(ag:Nat)(ae:List D)(ai:Bool)(aj:Nat)(ah:List D)(vc:ByteArray)(M:Bool)(O:Nat)(K:List D)(h:Nat)(a1:List D)(am:Bool)(vm ap:ByteArray)(ao ak:Int)(al:ByteArray)(hC:∀t,C t=1):bJ call L C r z q Z a0 Y V W U J i t83 ac ad ab t89 t90 a3 a4 a2 a6 a7 a5 a9 aa a8 af ag ae ai aj ah vc M O K (Ow.nil) (Ow.own h a1) am vm ap ao ak al=
 (bx am
 (cg call L C r z q Z a0 Y V W U J i t83 ac ad ab a3 a4 a2 a6 a7 a5 a9 aa a8 af ag ae ai aj ah vc M O K (Ow.own 1 [D.int .i64 ak,D.str al]) (Ow.own h a1) t89 (IntKind.wrap .i64 (t90+1)))
 (bx (ByteArray.toList vm==ByteArray.toList q)
 (bx (ao==IntKind.wrap .i64 (i+1))
 (bW (decide ((h+1)*24≤cu∧h+1≤9223372036854775807))
 (cg call L C r z q Z a0 Y V W U J i t83 ac ad ab a3 a4 a2 a6 a7 a5 a9 aa a8 af ag ae ai aj ah vc M O K (Ow.nil) (Ow.own (h+1) (a1++[D.int .i64 ak,D.str al])) t89 (IntKind.wrap .i64 (t90+1))))
 (cg call L C r z q Z a0 Y V W U J i t83 ac ad ab a3 a4 a2 a6 a7 a5 a9 aa a8 af ag ae ai aj ah vc M O K (Ow.nil) (Ow.own h a1) t89 (IntKind.wrap .i64 (t90+1))))
 (cg call L C r z q Z a0 Y V W U J i t83 ac ad ab a3 a4 a2 a6 a7 a5 a9 aa a8 af ag ae ai aj ah vc M O K (Ow.nil) (Ow.own h a1) t89 (IntKind.wrap .i64 (t90+1))))):=by
 unfold bJ;rw[hC]
 kernel_rfl
theorem ec(call:CL)(L:Nat)(C:Nat→Nat)(r z:Nat)(q:ByteArray)(a0:Bool)(a1:Nat)(Z:List D)(V:Bool)(W:Nat)(U:List D)(J i t83:Int)(ac:Bool)(ad:Nat)(ab:List D)(t89 t90:Int)(a3:Bool)(a4:Nat)(a2:List D)(a6:Bool)(a7:Nat)(a5:List D)(a9:Bool)(aa:Nat)(a8:List D)(af:Bool)(ag:Nat)(ae:List D)(ai:Bool)(aj:Nat)(ah:List D)(vc:ByteArray)(M:Bool)(O:Nat)(K:List D)(h:Nat)(Y:List D)(am:Bool)(vm ap:ByteArray)(ao ak:Int)(al:ByteArray)(hC:∀t,C t=1):bJ call L C r z q a0 a1 Z V W U J i t83 ac ad ab t89 t90 a3 a4 a2 a6 a7 a5 a9 aa a8 af ag ae ai aj ah vc M O K (Ow.own h Y) (Ow.nil) am vm ap ao ak al=
 (bx am
 (bW (decide ((h+1)*24≤cu∧h+1≤9223372036854775807))
 (cg call L C r z q a0 a1 Z V W U J i t83 ac ad ab a3 a4 a2 a6 a7 a5 a9 aa a8 af ag ae ai aj ah vc M O K (Ow.own (h+1) (Y++[D.int .i64 ak,D.str al])) (Ow.nil) t89 (IntKind.wrap .i64 (t90+1))))
 (bx (ByteArray.toList vm==ByteArray.toList q)
 (bx (ao==IntKind.wrap .i64 (i+1))
 (cg call L C r z q a0 a1 Z V W U J i t83 ac ad ab a3 a4 a2 a6 a7 a5 a9 aa a8 af ag ae ai aj ah vc M O K (Ow.own h Y) (Ow.own 1 [D.int .i64 ak,D.str al]) t89 (IntKind.wrap .i64 (t90+1)))
 (cg call L C r z q a0 a1 Z V W U J i t83 ac ad ab a3 a4 a2 a6 a7 a5 a9 aa a8 af ag ae ai aj ah vc M O K (Ow.own h Y) (Ow.nil) t89 (IntKind.wrap .i64 (t90+1))))
 (cg call L C r z q a0 a1 Z V W U J i t83 ac ad ab a3 a4 a2 a6 a7 a5 a9 aa a8 af ag ae ai aj ah vc M O K (Ow.own h Y) (Ow.nil) t89 (IntKind.wrap .i64 (t90+1))))):=by
 unfold bJ;rw[hC]
 kernel_rfl
theorem ed(call:CL)(L:Nat)(C:Nat→Nat)(z J:Nat)(r:ByteArray)(a1:Bool)(a2:Nat)(a0:List D)(W:Bool)(Y:Nat)(V:List D)(K q t83:Int)(ae:Bool)(af:Nat)(ad:List D)(t89 t90:Int)(a5:Bool)(a6:Nat)(a4:List D)(a8:Bool)(a9:Nat)(a7:List D)(ab:Bool)(ac:Nat)(aa:List D)(ah:Bool)(ai:Nat)(ag:List D)(ak:Bool)(al:Nat)(aj:List D)(vc:ByteArray)(O:Bool)(U:Nat)(M:List D)(h:Nat)(Z:List D)(i:Nat)(a3:List D)(ao:Bool)(vm ar:ByteArray)(aq am:Int)(an:ByteArray)(hC:∀t,C t=1):bJ call L C z J r a1 a2 a0 W Y V K q t83 ae af ad t89 t90 a5 a6 a4 a8 a9 a7 ab ac aa ah ai ag ak al aj vc O U M (Ow.own h Z) (Ow.own i a3) ao vm ar aq am an=
 (bx ao
 (bW (decide ((h+1)*24≤cu∧h+1≤9223372036854775807))
 (cg call L C z J r a1 a2 a0 W Y V K q t83 ae af ad a5 a6 a4 a8 a9 a7 ab ac aa ah ai ag ak al aj vc O U M (Ow.own (h+1) (Z++[D.int .i64 am,D.str an])) (Ow.own i a3) t89 (IntKind.wrap .i64 (t90+1))))
 (bx (ByteArray.toList vm==ByteArray.toList r)
 (bx (aq==IntKind.wrap .i64 (q+1))
 (bW (decide ((i+1)*24≤cu∧i+1≤9223372036854775807))
 (cg call L C z J r a1 a2 a0 W Y V K q t83 ae af ad a5 a6 a4 a8 a9 a7 ab ac aa ah ai ag ak al aj vc O U M (Ow.own h Z) (Ow.own (i+1) (a3++[D.int .i64 am,D.str an])) t89 (IntKind.wrap .i64 (t90+1))))
 (cg call L C z J r a1 a2 a0 W Y V K q t83 ae af ad a5 a6 a4 a8 a9 a7 ab ac aa ah ai ag ak al aj vc O U M (Ow.own h Z) (Ow.own i a3) t89 (IntKind.wrap .i64 (t90+1))))
 (cg call L C z J r a1 a2 a0 W Y V K q t83 ae af ad a5 a6 a4 a8 a9 a7 ab ac aa ah ai ag ak al aj vc O U M (Ow.own h Z) (Ow.own i a3) t89 (IntKind.wrap .i64 (t90+1))))):=by
 unfold bJ;rw[hC]
 kernel_rfl
theorem oM(call:CL)(L:Nat)(C:Nat→Nat)(r:Nat)(Y:ByteArray)(V:Bool)(W:Nat)(U:List D)(M:Bool)(O:Nat)(K:List D)(z h t83:Int)(a0:Bool)(a1:Nat)(Z:List D)(a3:Bool)(a4:Nat)(a2:List D)(a6:Bool)(a7:Nat)(a5:List D)(a9:Bool)(aa:Nat)(a8:List D)(ac:Bool)(ad:Nat)(ab:List D)(af:Bool)(ag:Nat)(ae:List D)(vc:ByteArray)(J:Bool)(q:Nat)(i:List D)(ah:Int)(ai:ByteArray)(hC:∀t,C t=1):cK call L C r Y V W U M O K z h t83 a0 a1 Z a3 a4 a2 a6 a7 a5 a9 aa a8 ac ad ab af ag ae vc J q i (Ow.nil) (Ow.nil) ah ai=
 (bW (decide (0≤h∧h<(q:Int)))
 (bn i (Int.toNat h*2+0) fun aj=>bD .i64 aj fun am=>bn i (Int.toNat h*2+1) fun ak=>bP ak fun al=>bx (!(am==ah&&(ByteArray.toList al==ByteArray.toList ai&&true)))
 (some (D.bool false))
 (eN call L C r Y V W U M O K a0 a1 Z a3 a4 a2 a6 a7 a5 a9 aa a8 ac ad ab af ag ae vc J q i z t83 (IntKind.wrap .i64 (h+1))))):=by
 unfold cK;rw[hC]
 kernel_rfl
theorem oN(call:CL)(L:Nat)(C:Nat→Nat)(r:Nat)(Y:ByteArray)(V:Bool)(W:Nat)(U:List D)(M:Bool)(O:Nat)(K:List D)(z h t83:Int)(a0:Bool)(a1:Nat)(Z:List D)(a3:Bool)(a4:Nat)(a2:List D)(a6:Bool)(a7:Nat)(a5:List D)(a9:Bool)(aa:Nat)(a8:List D)(ac:Bool)(ad:Nat)(ab:List D)(af:Bool)(ag:Nat)(ae:List D)(vc:ByteArray)(J:Bool)(q:Nat)(i:List D)(an:Nat)(am:List D)(ah:Int)(ai:ByteArray)(hC:∀t,C t=1):cK call L C r Y V W U M O K z h t83 a0 a1 Z a3 a4 a2 a6 a7 a5 a9 aa a8 ac ad ab af ag ae vc J q i (Ow.nil) (Ow.own an am) ah ai=
 (bW (decide (0≤h∧h<(q:Int)))
 (bn i (Int.toNat h*2+0) fun aj=>bD .i64 aj fun ao=>bn i (Int.toNat h*2+1) fun ak=>bP ak fun al=>bx (!(ao==ah&&(ByteArray.toList al==ByteArray.toList ai&&true)))
 (some (D.bool false))
 (eN call L C r Y V W U M O K a0 a1 Z a3 a4 a2 a6 a7 a5 a9 aa a8 ac ad ab af ag ae vc J q i z t83 (IntKind.wrap .i64 (h+1))))):=by
 unfold cK;rw[hC]
 kernel_rfl
theorem oO(call:CL)(L:Nat)(C:Nat→Nat)(r:Nat)(Y:ByteArray)(V:Bool)(W:Nat)(U:List D)(M:Bool)(O:Nat)(K:List D)(z h t83:Int)(a0:Bool)(a1:Nat)(Z:List D)(a3:Bool)(a4:Nat)(a2:List D)(a6:Bool)(a7:Nat)(a5:List D)(a9:Bool)(aa:Nat)(a8:List D)(ac:Bool)(ad:Nat)(ab:List D)(af:Bool)(ag:Nat)(ae:List D)(vc:ByteArray)(J:Bool)(q:Nat)(i:List D)(ah:Nat)(an:List D)(ai:Int)(aj:ByteArray)(hC:∀t,C t=1):cK call L C r Y V W U M O K z h t83 a0 a1 Z a3 a4 a2 a6 a7 a5 a9 aa a8 ac ad ab af ag ae vc J q i (Ow.own ah an) (Ow.nil) ai aj=
 (bW (decide (0≤h∧h<(q:Int)))
 (bn i (Int.toNat h*2+0) fun ak=>bD .i64 ak fun ao=>bn i (Int.toNat h*2+1) fun al=>bP al fun am=>bx (!(ao==ai&&(ByteArray.toList am==ByteArray.toList aj&&true)))
 (some (D.bool false))
 (bx (decide ((ah:Int)>0))
 (eN call L C r Y V W U M O K a0 a1 Z a3 a4 a2 a6 a7 a5 a9 aa a8 ac ad ab af ag ae vc J q i z t83 (IntKind.wrap .i64 (h+1)))
 (eN call L C r Y V W U M O K a0 a1 Z a3 a4 a2 a6 a7 a5 a9 aa a8 ac ad ab af ag ae vc J q i z t83 (IntKind.wrap .i64 (h+1)))))):=by
 unfold cK;rw[hC]
 kernel_rfl
theorem oP(call:CL)(L:Nat)(C:Nat→Nat)(r:Nat)(Y:ByteArray)(V:Bool)(W:Nat)(U:List D)(M:Bool)(O:Nat)(K:List D)(z h t83:Int)(a0:Bool)(a1:Nat)(Z:List D)(a3:Bool)(a4:Nat)(a2:List D)(a6:Bool)(a7:Nat)(a5:List D)(a9:Bool)(aa:Nat)(a8:List D)(ac:Bool)(ad:Nat)(ab:List D)(af:Bool)(ag:Nat)(ae:List D)(vc:ByteArray)(J:Bool)(q:Nat)(i:List D)(ai:Nat)(ah:List D)(ak:Nat)(aj:List D)(al:Int)(am:ByteArray)(hC:∀t,C t=1):cK call L C r Y V W U M O K z h t83 a0 a1 Z a3 a4 a2 a6 a7 a5 a9 aa a8 ac ad ab af ag ae vc J q i (Ow.own ai ah) (Ow.own ak aj) al am=
 (bW (decide (0≤h∧h<(q:Int)))
 (bn i (Int.toNat h*2+0) fun an=>bD .i64 an fun az=>bn i (Int.toNat h*2+1) fun ao=>bP ao fun aw=>bx (!(az==al&&(ByteArray.toList aw==ByteArray.toList am&&true)))
 (some (D.bool false))
 (bx (decide ((ai:Int)>0))
 (bx (decide ((ak:Int)>0))
 (bW (decide ((0:Int)≤0∧0<(ai:Int)))
 (bn ah 0 fun ap=>bD .i64 ap fun aA=>bn ah 1 fun aq=>bP aq fun ax=>bW (decide ((0:Int)≤0∧0<(ak:Int)))
 (bn aj 0 fun ar=>bD .i64 ar fun ay=>bn aj 1 fun au=>bP au fun av=>bx (aA==ay&&(ByteArray.toList ax==ByteArray.toList av&&true))
 (eN call L C r Y V W U M O K a0 a1 Z a3 a4 a2 a6 a7 a5 a9 aa a8 ac ad ab af ag ae vc J q i (IntKind.wrap .i64 (z+1)) t83 (IntKind.wrap .i64 (h+1)))
 (eN call L C r Y V W U M O K a0 a1 Z a3 a4 a2 a6 a7 a5 a9 aa a8 ac ad ab af ag ae vc J q i z t83 (IntKind.wrap .i64 (h+1))))))
 (eN call L C r Y V W U M O K a0 a1 Z a3 a4 a2 a6 a7 a5 a9 aa a8 ac ad ab af ag ae vc J q i z t83 (IntKind.wrap .i64 (h+1))))
 (eN call L C r Y V W U M O K a0 a1 Z a3 a4 a2 a6 a7 a5 a9 aa a8 ac ad ab af ag ae vc J q i z t83 (IntKind.wrap .i64 (h+1)))))):=by
 unfold cK;rw[hC]
 kernel_rfl
theorem jD(call:CL)(L:Nat)(C:Nat→Nat)(z ah:Nat)(i:ByteArray)(Z:Bool)(a0:Nat)(Y:List D)(V:Bool)(W:Nat)(U:List D)(J q t83:Int)(aa:Bool)(r:Nat)(h:List D)(a2:Bool)(a3:Nat)(a1:List D)(a5:Bool)(a6:Nat)(a4:List D)(a8:Bool)(a9:Nat)(a7:List D)(ac:Bool)(ad:Nat)(ab:List D)(af:Bool)(ag:Nat)(ae:List D)(vc:ByteArray)(M:Bool)(O:Nat)(K:List D)(t89 t90:Int):cg call L C z (ah+1) i Z a0 Y V W U J q t83 aa r h a2 a3 a1 a5 a6 a4 a8 a9 a7 ac ad ab af ag ae vc M O K (Ow.nil) (Ow.nil) t89 t90=
 (bx (decide (t90<t89))
 (bW (decide (0≤t90∧t90<(r:Int)))
 (bn h (Int.toNat t90*5+0) fun an=>bP an fun ai=>bn h (Int.toNat t90*5+1) fun ao=>bP ao fun aj=>bn h (Int.toNat t90*5+2) fun ap=>bD .i64 ap fun ak=>bn h (Int.toNat t90*5+3) fun aq=>bD .i64 aq fun am=>bn h (Int.toNat t90*5+4) fun ar=>bP ar fun al=>bx (ByteArray.toList ai==ByteArray.toList i)
 (bx (ak==IntKind.wrap .i64 (q+1))
 (bJ call L C z ah i Z a0 Y V W U J q t83 aa r h t89 t90 a2 a3 a1 a5 a6 a4 a8 a9 a7 ac ad ab af ag ae vc M O K (Ow.nil) (Ow.nil) (ByteArray.toList aj==ByteArray.toList i) ai aj ak am al)
 (bJ call L C z ah i Z a0 Y V W U J q t83 aa r h t89 t90 a2 a3 a1 a5 a6 a4 a8 a9 a7 ac ad ab af ag ae vc M O K (Ow.nil) (Ow.nil) false ai aj ak am al))
 (bJ call L C z ah i Z a0 Y V W U J q t83 aa r h t89 t90 a2 a3 a1 a5 a6 a4 a8 a9 a7 ac ad ab af ag ae vc M O K (Ow.nil) (Ow.nil) false ai aj ak am al)))
 (cK call L C z i Z a0 Y V W U J q t83 a2 a3 a1 a5 a6 a4 a8 a9 a7 aa r h ac ad ab af ag ae vc M O K (Ow.nil) (Ow.nil) 0 (ByteArray.mk #[45]))):=by kernel_rfl
theorem jE(call:CL)(L:Nat)(C:Nat→Nat)(K aj:Nat)(r:ByteArray)(a1:Bool)(a2:Nat)(a0:List D)(Y:Bool)(Z:Nat)(W:List D)(M z t83:Int)(ac:Bool)(J:Nat)(h:List D)(a4:Bool)(a5:Nat)(a3:List D)(a7:Bool)(a8:Nat)(a6:List D)(aa:Bool)(ab:Nat)(a9:List D)(ae:Bool)(af:Nat)(ad:List D)(ah:Bool)(ai:Nat)(ag:List D)(vc:ByteArray)(U:Bool)(V:Nat)(O:List D)(q:Nat)(i:List D)(t89 t90:Int):cg call L C K (aj+1) r a1 a2 a0 Y Z W M z t83 ac J h a4 a5 a3 a7 a8 a6 aa ab a9 ae af ad ah ai ag vc U V O (Ow.nil) (Ow.own q i) t89 t90=
 (bx (decide (t90<t89))
 (bW (decide (0≤t90∧t90<(J:Int)))
 (bn h (Int.toNat t90*5+0) fun ap=>bP ap fun ak=>bn h (Int.toNat t90*5+1) fun aq=>bP aq fun al=>bn h (Int.toNat t90*5+2) fun ar=>bD .i64 ar fun am=>bn h (Int.toNat t90*5+3) fun au=>bD .i64 au fun ao=>bn h (Int.toNat t90*5+4) fun av=>bP av fun an=>bx (ByteArray.toList ak==ByteArray.toList r)
 (bx (am==IntKind.wrap .i64 (z+1))
 (bJ call L C K aj r a1 a2 a0 Y Z W M z t83 ac J h t89 t90 a4 a5 a3 a7 a8 a6 aa ab a9 ae af ad ah ai ag vc U V O (Ow.nil) (Ow.own q i) (ByteArray.toList al==ByteArray.toList r) ak al am ao an)
 (bJ call L C K aj r a1 a2 a0 Y Z W M z t83 ac J h t89 t90 a4 a5 a3 a7 a8 a6 aa ab a9 ae af ad ah ai ag vc U V O (Ow.nil) (Ow.own q i) false ak al am ao an))
 (bJ call L C K aj r a1 a2 a0 Y Z W M z t83 ac J h t89 t90 a4 a5 a3 a7 a8 a6 aa ab a9 ae af ad ah ai ag vc U V O (Ow.nil) (Ow.own q i) false ak al am ao an)))
 (bx (decide ((q:Int)>0))
 (bW (decide ((0:Int)≤0∧0<(q:Int)))
 (bn i 0 fun aw=>bD .i64 aw fun az=>bn i 1 fun ax=>bP ax fun ay=>cK call L C K r a1 a2 a0 Y Z W M z t83 a4 a5 a3 a7 a8 a6 aa ab a9 ac J h ae af ad ah ai ag vc U V O (Ow.nil) (Ow.own q i) az ay))
 (cK call L C K r a1 a2 a0 Y Z W M z t83 a4 a5 a3 a7 a8 a6 aa ab a9 ac J h ae af ad ah ai ag vc U V O (Ow.nil) (Ow.own q i) 0 (ByteArray.mk #[45])))):=by kernel_rfl
theorem jF(call:CL)(L:Nat)(C:Nat→Nat)(z aj:Nat)(i:ByteArray)(a1:Bool)(a2:Nat)(a0:List D)(V:Bool)(W:Nat)(U:List D)(J q t83:Int)(ac:Bool)(r:Nat)(h:List D)(a4:Bool)(a5:Nat)(a3:List D)(a7:Bool)(a8:Nat)(a6:List D)(aa:Bool)(ab:Nat)(a9:List D)(ae:Bool)(af:Nat)(ad:List D)(ah:Bool)(ai:Nat)(ag:List D)(vc:ByteArray)(M:Bool)(O:Nat)(K:List D)(Z:Nat)(Y:List D)(t89 t90:Int):cg call L C z (aj+1) i a1 a2 a0 V W U J q t83 ac r h a4 a5 a3 a7 a8 a6 aa ab a9 ae af ad ah ai ag vc M O K (Ow.own Z Y) (Ow.nil) t89 t90=
 (bx (decide (t90<t89))
 (bW (decide (0≤t90∧t90<(r:Int)))
 (bn h (Int.toNat t90*5+0) fun ap=>bP ap fun ak=>bn h (Int.toNat t90*5+1) fun aq=>bP aq fun al=>bn h (Int.toNat t90*5+2) fun ar=>bD .i64 ar fun am=>bn h (Int.toNat t90*5+3) fun au=>bD .i64 au fun ao=>bn h (Int.toNat t90*5+4) fun av=>bP av fun an=>bx (ByteArray.toList ak==ByteArray.toList i)
 (bx (am==IntKind.wrap .i64 (q+1))
 (bJ call L C z aj i a1 a2 a0 V W U J q t83 ac r h t89 t90 a4 a5 a3 a7 a8 a6 aa ab a9 ae af ad ah ai ag vc M O K (Ow.own Z Y) (Ow.nil) (ByteArray.toList al==ByteArray.toList i) ak al am ao an)
 (bJ call L C z aj i a1 a2 a0 V W U J q t83 ac r h t89 t90 a4 a5 a3 a7 a8 a6 aa ab a9 ae af ad ah ai ag vc M O K (Ow.own Z Y) (Ow.nil) false ak al am ao an))
 (bJ call L C z aj i a1 a2 a0 V W U J q t83 ac r h t89 t90 a4 a5 a3 a7 a8 a6 aa ab a9 ae af ad ah ai ag vc M O K (Ow.own Z Y) (Ow.nil) false ak al am ao an)))
 (cK call L C z i a1 a2 a0 V W U J q t83 a4 a5 a3 a7 a8 a6 aa ab a9 ac r h ae af ad ah ai ag vc M O K (Ow.own Z Y) (Ow.nil) 0 (ByteArray.mk #[45]))):=by kernel_rfl
theorem jG(call:CL)(L:Nat)(C:Nat→Nat)(K al:Nat)(r:ByteArray)(a3:Bool)(a4:Nat)(a2:List D)(Y:Bool)(Z:Nat)(W:List D)(M z t83:Int)(ae:Bool)(J:Nat)(h:List D)(a6:Bool)(a7:Nat)(a5:List D)(a9:Bool)(aa:Nat)(a8:List D)(ac:Bool)(ad:Nat)(ab:List D)(ag:Bool)(ah:Nat)(af:List D)(aj:Bool)(ak:Nat)(ai:List D)(vc:ByteArray)(U:Bool)(V:Nat)(O:List D)(a1:Nat)(a0:List D)(q:Nat)(i:List D)(t89 t90:Int):cg call L C K (al+1) r a3 a4 a2 Y Z W M z t83 ae J h a6 a7 a5 a9 aa a8 ac ad ab ag ah af aj ak ai vc U V O (Ow.own a1 a0) (Ow.own q i) t89 t90=
 (bx (decide (t90<t89))
 (bW (decide (0≤t90∧t90<(J:Int)))
 (bn h (Int.toNat t90*5+0) fun ar=>bP ar fun am=>bn h (Int.toNat t90*5+1) fun au=>bP au fun an=>bn h (Int.toNat t90*5+2) fun av=>bD .i64 av fun ao=>bn h (Int.toNat t90*5+3) fun aw=>bD .i64 aw fun aq=>bn h (Int.toNat t90*5+4) fun ax=>bP ax fun ap=>bx (ByteArray.toList am==ByteArray.toList r)
 (bx (ao==IntKind.wrap .i64 (z+1))
 (bJ call L C K al r a3 a4 a2 Y Z W M z t83 ae J h t89 t90 a6 a7 a5 a9 aa a8 ac ad ab ag ah af aj ak ai vc U V O (Ow.own a1 a0) (Ow.own q i) (ByteArray.toList an==ByteArray.toList r) am an ao aq ap)
 (bJ call L C K al r a3 a4 a2 Y Z W M z t83 ae J h t89 t90 a6 a7 a5 a9 aa a8 ac ad ab ag ah af aj ak ai vc U V O (Ow.own a1 a0) (Ow.own q i) false am an ao aq ap))
 (bJ call L C K al r a3 a4 a2 Y Z W M z t83 ae J h t89 t90 a6 a7 a5 a9 aa a8 ac ad ab ag ah af aj ak ai vc U V O (Ow.own a1 a0) (Ow.own q i) false am an ao aq ap)))
 (bx (decide ((q:Int)>0))
 (bW (decide ((0:Int)≤0∧0<(q:Int)))
 (bn i 0 fun ay=>bD .i64 ay fun aB=>bn i 1 fun az=>bP az fun aA=>cK call L C K r a3 a4 a2 Y Z W M z t83 a6 a7 a5 a9 aa a8 ac ad ab ae J h ag ah af aj ak ai vc U V O (Ow.own a1 a0) (Ow.own q i) aB aA))
 (cK call L C K r a3 a4 a2 Y Z W M z t83 a6 a7 a5 a9 aa a8 ac ad ab ae J h ag ah af aj ak ai vc U V O (Ow.own a1 a0) (Ow.own q i) 0 (ByteArray.mk #[45])))):=by kernel_rfl
theorem rh(call:CL)(L:Nat)(C:Nat→Nat)(a9:Nat)(i:ByteArray)(ag:Bool)(K:Nat)(af:List D)(ae:Bool)(J:Nat)(ad:List D)(O:Bool)(U:Nat)(M:List D)(W:Bool)(Y:Nat)(V:List D)(a0:Bool)(h:Nat)(Z:List D)(a2:Bool)(r:Nat)(a1:List D)(a4:Bool)(a5:Nat)(a3:List D)(a7:Bool)(a8:Nat)(a6:List D)(vc:ByteArray)(ab:Bool)(ac:Nat)(aa:List D)(q t83 z:Int):eN call L C (a9+1) i ag K af ae J ad O U M W Y V a0 h Z a2 r a1 a4 a5 a3 a7 a8 a6 vc ab ac aa q t83 z=
 (bx (decide (z<t83))
 (cg call L C a9 L i ag K af ae J ad q z t83 a2 r a1 O U M W Y V a0 h Z a4 a5 a3 a7 a8 a6 vc ab ac aa (Ow.nil) (Ow.nil) ((r:Int)) 0)
 (bC (call 21 [D.agg [D.slc O U M,D.slc W Y V,D.slc a0 h Z,D.slc a2 r a1,D.slc a4 a5 a3,D.slc a7 a8 a6],D.str i]) fun am=>bD .i64 am fun ah=>bx (IntKind.wrap .i64 (IntKind.wrap .i64 (q+(K:Int))+(J:Int))==(h:Int))
 (bx (decide ((h:Int)>0))
 (bx ((ah==0)==(q==(h:Int)))
 (bC (call 41 [D.slc true 1 [D.int .i64 4,D.int .i64 1],D.agg [D.str i,D.slc true 1 [D.int .i64 4,D.str (ByteArray.mk #[])]]]) fun an=>bD .i64 an fun ap=>bx (ap==0)
 (bC (call 15 []) fun ao=>bU ao fun ai=>some (D.bool ai))
 (some (D.bool false)))
 (some (D.bool false)))
 (bx ((ah==0)==false)
 (bC (call 41 [D.slc true 1 [D.int .i64 4,D.int .i64 1],D.agg [D.str i,D.slc true 1 [D.int .i64 4,D.str (ByteArray.mk #[])]]]) fun ak=>bD .i64 ak fun aq=>bx (aq==0)
 (bC (call 15 []) fun al=>bU al fun aj=>some (D.bool aj))
 (some (D.bool false)))
 (some (D.bool false))))
 (some (D.bool false)))):=by kernel_rfl
theorem Am(call:CL)(L:Nat)(C:Nat→Nat)(Y:Bool)(Z:Nat)(W:List D)(a1:Bool)(a2:Nat)(a0:List D)(a4:Bool)(h:Nat)(a3:List D)(a6:Bool)(a7:Nat)(a5:List D)(a9:Bool)(aa:Nat)(a8:List D)(ac:Bool)(ad:Nat)(ab:List D)(V:ByteArray)(O:Bool)(U:Nat)(M:List D)(J:Bool)(K:Nat)(z:List D)(vc:ByteArray)(q:Bool)(r:Nat)(i:List D)(hC:∀t,C t=1):yp call L C Y Z W a1 a2 a0 a4 h a3 a6 a7 a5 a9 aa a8 ac ad ab V O U M J K z vc q r i=
 (eN call L C L V O U M J K z Y Z W a1 a2 a0 a4 h a3 a6 a7 a5 a9 aa a8 ac ad ab vc q r i 0 ((h:Int)) 0):=by
 unfold yp;rw[hC]
 kernel_rfl
theorem CU(call:CL)(L:Nat)(C:Nat→Nat)(a4:Int)(z:Bool)(J:Nat)(r:List D)(K:Bool)(h:Nat)(i:List D)(O:Bool)(q:Nat)(M:List D)(V:Bool)(W:Nat)(U:List D)(Z:Bool)(a0:Nat)(Y:List D)(a2:Bool)(a3:Nat)(a1:List D)(hC:∀t,C t=1):CT call L C a4 z J r K h i O q M V W U Z a0 Y a2 a3 a1=
 (bW (!decide ((h:Int)=0))
 (bW (decide (0≤Int.tmod (IntKind.wrap .i64 a4) (h:Int)∧Int.tmod (IntKind.wrap .i64 a4) (h:Int)<(h:Int)))
 (bn i (Int.toNat (Int.tmod (IntKind.wrap .i64 a4) (h:Int))*3+0) fun ai=>bP ai fun s=>bC (call 18 [D.agg [D.slc z J r,D.slc K h i,D.slc O q M,D.slc V W U,D.slc Z a0 Y,D.slc a2 a3 a1],D.str s]) fun ar=>gm ar 2 fun a7=>bn a7 0 fun aj=>gW aj 2 fun a8=>bn a8 0 fun ak=>bP ak fun aw=>bn a8 1 fun al=>c9 al fun am a9 ac=>bn a7 1 fun ad=>bD .i64 ad fun x=>bC (call 19 [D.agg [D.slc z J r,D.slc K h i,D.slc O q M,D.slc V W U,D.slc Z a0 Y,D.slc a2 a3 a1],D.str s]) fun au=>gm au 2 fun a5=>bn a5 0 fun ae=>c9 ae fun an ap aa=>bn a5 1 fun af=>bD .i64 af fun ax=>bC (call 20 [D.agg [D.slc z J r,D.slc K h i,D.slc O q M,D.slc V W U,D.slc Z a0 Y,D.slc a2 a3 a1],D.str s]) fun av=>gm av 2 fun a6=>bn a6 0 fun ag=>c9 ag fun ao aq ab=>bn a6 1 fun ah=>bD .i64 ah fun ay=>bx (x !=0)
 (some (D.bool false))
 (bx (ax !=0)
 (some (D.bool false))
 (bx (ay !=0)
 (some (D.bool false))
 (bx ((a9:Int) !=(q:Int))
 (some (D.bool false))
 (yp call L C z J r K h i O q M V W U Z a0 Y a2 a3 a1 s an ap aa ao aq ab aw am a9 ac))))))):=by
 unfold CT;rw[hC]
 kernel_rfl
theorem CV(call:CL)(L:Nat)(C:Nat→Nat)(q:Bool)(z:Nat)(i:List D)(K:Bool)(h:Nat)(J:List D)(O:Bool)(U:Nat)(M:List D)(W:Bool)(Y:Nat)(V:List D)(a0:Bool)(a1:Nat)(Z:List D)(a3:Bool)(a4:Nat)(a2:List D)(a5:Int):bX (cD call L C) O0 N5 FinM.canon Tryz.f5 [D.agg [D.slc q z i,D.slc K h J,D.slc O U M,D.slc W Y V,D.slc a0 a1 Z,D.slc a3 a4 a2],D.int IntKind.u8 a5]=
 (bC (call 13 [D.agg [D.slc q z i,D.slc K h J,D.slc O U M,D.slc W Y V,D.slc a0 a1 Z,D.slc a3 a4 a2]]) fun r=>gW r 6 fun c=>bn c 0 fun d=>c9 d fun f n a8=>bn c 1 fun ae=>c9 ae fun aj ao a9=>bn c 2 fun af=>c9 af fun ak ap aa=>bn c 3 fun ag=>c9 ag fun al aq ab=>bn c 4 fun ah=>c9 ah fun am ar ac=>bn c 5 fun ai=>c9 ai fun an au ad=>bC (call 40 [D.agg [D.slc f n a8,D.slc aj ao a9,D.slc ak ap aa,D.slc al aq ab,D.slc am ar ac,D.slc an au ad]]) fun av=>bU av fun b=>bx (!b)
 (bC (call 15 []) fun aw=>bU aw fun a6=>some (D.bool a6))
 (bx ((h:Int)==0)
 (bC (call 15 []) fun ax=>bU ax fun a7=>some (D.bool a7))
 (CT call L C a5 q z i K h J O U M W Y V a0 a1 Z a3 a4 a2))):=by kernel_rfl
end Go.Pd
end
section
namespace Go.Pd
open Go Go.Proofs Go.RowKit
set_option maxRecDepth 100000
def tg(l:List ce)(s:ByteArray)(i:Nat):Bool:=((fH l s ((i+1:Nat):Int) false).2&&(fH l s ((i+1:Nat):Int) true).2)&&iQ (fH l s ((i+1:Nat):Int) false).1 (fH l s ((i+1:Nat):Int) true).1
def b1(b:Bool):Nat:=match b with
 |true=>1
 |false=>0
def An(q:Nat→Bool):Nat→Nat→Nat
 |0,_=>0
 |m+1,i=>b1 (q i)+An q m (i+1)
theorem uq(l:List ce)(s:ByteArray):∀(m i:Nat),An (tg l s) m i+(c7 (eS l s) m i).length+(c7 (eT l s) m i).length=m
 |0,_=>rfl
 |m+1,i=>by
  have ih:=uq l s m (i+1);rw[nQ,nQ,show An (tg l s) (m+1) i=b1 (tg l s i)+An (tg l s) m (i+1) from rfl];unfold tg eS eT at*;cases (fH l s ((i+1:Nat):Int) false).2<;>cases (fH l s ((i+1:Nat):Int) true).2<;>cases iQ (fH l s ((i+1:Nat):Int) false).1 (fH l s ((i+1:Nat):Int) true).1<;>simp[b1] at ih ⊢<;>omega
theorem yq(a b:cv):iQ a b=iQ b a:=by
 unfold iQ;rw[m7,show(a.1==b.1)=(b.1==a.1) from Bool.beq_comm ..]
def nW(l:List ce)(p:ByteArray)(h:Int)(own:Bool):List cv:=(l.filter (gR p h own)).map fun m=>m.2.2.2
def CW:List cv→cv
 |[]=>(0,ByteArray.mk #[45])
 |x::_=>x
theorem zj(l:List ce)(p:ByteArray)(h:Int)(own:Bool):(fH l p h own).1=CW (nW l p h own)∧(fH l p h own).2= !(nW l p h own).isEmpty:=by
 unfold fH nW
 induction l with
 |nil=>exact⟨rfl,rfl⟩
 |cons x l ih=>
  rw[List.find?_cons,List.filter_cons];cases hx:gR p h own x with
  |true=>exact⟨rfl,rfl⟩
  |false=>simpa using ih
section
variable (u:UV){B:FuncId→List D→Option D}{p vc:ByteArray}{of df cf:Bool}{on dn cn:Nat}{oc dc cc:List D}
def rk(p:ByteArray)(h:Int)(x:ce)(l:List cv):List cv:=match gR p h true x with
 |true=>l++[x.2.2.2]
 |false=>l
def rl(p:ByteArray)(h:Int)(x:ce)(l:List cv):List cv:=match gR p h false x with
 |true=>l++[x.2.2.2]
 |false=>l
theorem LG{fu fuel i:Nat}{t83 t89 t90 a:Int}(x:ce)(mine other:List cv)(hi:IntKind.wrap .i64 ((i:Int)+1)=((i+1:Nat):Int))(hm:mine.length≤100000)(ho:other.length≤100000):
  bJ B LL C1 fu fuel p of on oc df dn dc a i t83 u.kf u.mr.length (u.mr.flatMap bB) t89 t90 u.cf u.cl.length (bq u.cl) u.mf u.me.length (u.me.flatMap bH) u.hf u.ho.length (u.ho.flatMap bL) u.sf u.sg.length (bq u.sg) u.pf u.pa.length (u.pa.flatMap bK) vc cf cn cc (du ci mine) (du ci other) (bx (de x.1 p) (bx (x.2.2.1==((i+1:Nat):Int)) (de x.2.1 p) false) false) x.1 x.2.1 x.2.2.1 x.2.2.2.1 x.2.2.2.2=
  cg B LL C1 fu fuel p of on oc df dn dc a i t83 u.kf u.mr.length (u.mr.flatMap bB) u.cf u.cl.length (bq u.cl) u.mf u.me.length (u.me.flatMap bH) u.hf u.ho.length (u.ho.flatMap bL) u.sf u.sg.length (bq u.sg) u.pf u.pa.length (u.pa.flatMap bK) vc cf cn cc (du ci (rk p ((i+1:Nat):Int) x mine)) (du ci (rl p ((i+1:Nat):Int) x other)) t89 (IntKind.wrap .i64 (t90+1)):=by
 have hsn:∀l:List cv,du ci (l++[x.2.2.2])= .own (l.length+1) (l.flatMap ci++ci x.2.2.2):=fun l=>fG ci l _;have rm:decide ((mine.length+1)*24≤cu∧mine.length+1≤9223372036854775807)=true:=x8 (by omega);have ro:decide ((other.length+1)*24≤cu∧other.length+1≤9223372036854775807)=true:=x8 (by omega);unfold rk rl gR;cases h1:de x.1 p with
 |false=>
  have h1':(ByteArray.toList x.1==ByteArray.toList p)=false:=h1;cases mine<;>cases other<;>simp only[du,Bool.false_and,bo]
  ·rw[d8 (hC:=c1),bo,h1',bo]
  ·rw[d9 (hC:=c1),bo,h1',bo]
  ·rw[ec (hC:=c1),bo,h1',bo]
  ·rw[ed (hC:=c1),bo,h1',bo]
 |true=>
  have h1':(ByteArray.toList x.1==ByteArray.toList p)=true:=h1;have hp:=sEq_iff.1 h1;cases h2:x.2.2.1==((i+1:Nat):Int) with
  |false=>
   cases mine<;>cases other<;>simp only[du,Bool.false_and,Bool.and_false,bo,br]
   ·rw[d8 (hC:=c1),bo,h1',br,hi,h2,bo]
   ·rw[d9 (hC:=c1),bo,h1',br,hi,h2,bo]
   ·rw[ec (hC:=c1),bo,h1',br,hi,h2,bo]
   ·rw[ed (hC:=c1),bo,h1',br,hi,h2,bo]
  |true=>
   rw[hp];rw[hp] at h1';cases h3:de x.2.1 p with
   |true=>
    show bJ B LL C1 fu fuel p of on oc df dn dc a i t83 u.kf u.mr.length (u.mr.flatMap bB) t89 t90 u.cf u.cl.length (bq u.cl) u.mf u.me.length (u.me.flatMap bH) u.hf u.ho.length (u.ho.flatMap bL) u.sf u.sg.length (bq u.sg) u.pf u.pa.length (u.pa.flatMap bK) vc cf cn cc (du ci mine) (du ci other) true p x.2.1 x.2.2.1 x.2.2.2.1 x.2.2.2.2=cg B LL C1 fu fuel p of on oc df dn dc a i t83 u.kf u.mr.length (u.mr.flatMap bB) u.cf u.cl.length (bq u.cl) u.mf u.me.length (u.me.flatMap bH) u.hf u.ho.length (u.ho.flatMap bL) u.sf u.sg.length (bq u.sg) u.pf u.pa.length (u.pa.flatMap bK) vc cf cn cc (du ci (mine++[x.2.2.2])) (du ci other) t89 (IntKind.wrap .i64 (t90+1));rw[hsn];cases mine with
    |nil=>cases other with
     |nil=>simp only[du];rw[d8 (hC:=c1),br];rfl
     |cons=>simp only[du];rw[d9 (hC:=c1),br];rfl
    |cons o os=>
     rw[show(o::os).length=os.length+1 from rfl] at rm ⊢;cases other with
     |nil=>simp only[du];rw[ec (hC:=c1),br,rm,bv];rfl
     |cons=>simp only[du];rw[ed (hC:=c1),br,rm,bv];rfl
   |false=>
    show bJ B LL C1 fu fuel p of on oc df dn dc a i t83 u.kf u.mr.length (u.mr.flatMap bB) t89 t90 u.cf u.cl.length (bq u.cl) u.mf u.me.length (u.me.flatMap bH) u.hf u.ho.length (u.ho.flatMap bL) u.sf u.sg.length (bq u.sg) u.pf u.pa.length (u.pa.flatMap bK) vc cf cn cc (du ci mine) (du ci other) false p x.2.1 x.2.2.1 x.2.2.2.1 x.2.2.2.2=cg B LL C1 fu fuel p of on oc df dn dc a i t83 u.kf u.mr.length (u.mr.flatMap bB) u.cf u.cl.length (bq u.cl) u.mf u.me.length (u.me.flatMap bH) u.hf u.ho.length (u.ho.flatMap bL) u.sf u.sg.length (bq u.sg) u.pf u.pa.length (u.pa.flatMap bK) vc cf cn cc (du ci mine) (du ci (other++[x.2.2.2])) t89 (IntKind.wrap .i64 (t90+1));rw[hsn];cases other with
    |nil=>cases mine with
     |nil=>simp only[du];rw[d8 (hC:=c1),bo,h1',br,hi,h2,br];rfl
     |cons=>simp only[du];rw[ec (hC:=c1),bo,h1',br,hi,h2,br];rfl
    |cons o os=>
     rw[show(o::os).length=os.length+1 from rfl] at ro ⊢;cases mine with
     |nil=>simp only[du];rw[d9 (hC:=c1),bo,h1',br,hi,h2,br,ro,bv];rfl
     |cons=>simp only[du];rw[ed (hC:=c1),bo,h1',br,hi,h2,br,ro,bv];rfl
theorem E4(p:ByteArray)(h:Int)(x:ce)(r:List ce)(l:List cv):rk p h x l++nW r p h true=l++nW (x::r) p h true:=by
 unfold rk nW;rw[List.filter_cons];cases gR p h true x<;>simp
theorem E5(p:ByteArray)(h:Int)(x:ce)(r:List ce)(l:List cv):rl p h x l++nW r p h false=l++nW (x::r) p h false:=by
 unfold rl nW;rw[List.filter_cons];cases gR p h false x<;>simp
theorem CX(p:ByteArray)(h:Int)(x:ce)(l:List cv):(rk p h x l).length≤l.length+1:=by
 unfold rk;cases gR p h true x<;>simp
theorem CY(p:ByteArray)(h:Int)(x:ce)(l:List cv):(rl p h x l).length≤l.length+1:=by
 unfold rl;cases gR p h false x<;>simp
theorem No{fu i:Nat}{t83 a:Int}(hi:IntKind.wrap .i64 ((i:Int)+1)=((i+1:Nat):Int))(hl:u.mr.length≤100000):∀(r pre:List ce) (fuel:Nat) (mine other:List cv),u.mr=pre++r→r.length<fuel→mine.length≤pre.length→other.length≤pre.length→
  cg B LL C1 fu fuel p of on oc df dn dc a i t83 u.kf u.mr.length (u.mr.flatMap bB) u.cf u.cl.length (bq u.cl) u.mf u.me.length (u.me.flatMap bH) u.hf u.ho.length (u.ho.flatMap bL) u.sf u.sg.length (bq u.sg) u.pf u.pa.length (u.pa.flatMap bK) vc cf cn cc (du ci mine) (du ci other) u.mr.length (pre.length:Int)=
  cK B LL C1 fu p of on oc df dn dc a i t83 u.cf u.cl.length (bq u.cl) u.mf u.me.length (u.me.flatMap bH) u.hf u.ho.length (u.ho.flatMap bL) u.kf u.mr.length (u.mr.flatMap bB) u.sf u.sg.length (bq u.sg) u.pf u.pa.length (u.pa.flatMap bK) vc cf cn cc (du ci (mine++nW r p ((i+1:Nat):Int) true)) (du ci (other++nW r p ((i+1:Nat):Int) false)) (CW (other++nW r p ((i+1:Nat):Int) false)).1 (CW (other++nW r p ((i+1:Nat):Int) false)).2:=by
 intro r
 induction r with
 |nil=>
  intro pre fuel mine other hn hf h1 h2;cases fuel with
  |zero=>exact absurd hf (Nat.not_lt_zero _)
  |succ fuel=>
   have he:decide ((pre.length:Int)<(u.mr.length:Int))=false:=by rw[hn];exact ct pre
   rw[show nW [] p ((i+1:Nat):Int) true=[] from rfl,show nW [] p ((i+1:Nat):Int) false=[] from rfl,zb2,zb2];have q0:∀(o:cv) (os:List cv),decide (((os.length+1:Nat):Int)>0)=true:=fun _ os=>za1 (by omega);have q1:∀(o:cv) (os:List cv),decide ((0:Int)≤0∧(0:Int)<((os.length+1:Nat):Int))=true:=fun _ os=>za1 (by omega);have z0:∀(o:cv) (os:List cv) (c:D→Option D),bn ((o::os).flatMap ci) 0 c=c (.int .i64 o.1):=fun _ _ _=>rfl;have z1:∀(o:cv) (os:List cv) (c:D→Option D),bn ((o::os).flatMap ci) 1 c=c (.str o.2):=fun _ _ _=>rfl;have zh:∀(o:cv) (os:List cv),CW (o::os)=o:=fun _ _=>rfl;have zn:CW []=(0,ByteArray.mk #[45]):=rfl;cases mine with
   |nil=>cases other with
    |nil=>simp only[du,zn];rw[jD,he,bo]
    |cons o os=>simp only[du,zh];rw[jE,he,bo,q0 o,br,q1 o,bv,z0,bp,z1,bu]
   |cons m ms=>cases other with
    |nil=>simp only[du,zn];rw[jF,he,bo]
    |cons o os=>simp only[du,zh];rw[jG,he,bo,q0 o,br,q1 o,bv,z0,bp,z1,bu]
 |cons x r ih=>
  intro pre fuel mine other hn hf h1 h2;cases fuel with
  |zero=>exact absurd hf (Nat.not_lt_zero _)
  |succ fuel=>
   have hpl:pre.length≤100000:=by rw[hn] at hl;simp at hl;omega
   have g1:=CX p ((i+1:Nat):Int) x mine;have g2:=CY p ((i+1:Nat):Int) x other;have ih:=ih (pre++[x]) fuel (rk p ((i+1:Nat):Int) x mine) (rl p ((i+1:Nat):Int) x other) (by rw[cR];exact hn) (by simp at hf;omega) (by rw[za5,List.length_singleton];omega) (by rw[za5,List.length_singleton];omega);rw[E4,E5] at ih;have h0:decide ((pre.length:Int)<(u.mr.length:Int))=true:=by rw[hn];exact cJ pre x r
   have hin:decide ((0:Int)≤(pre.length:Int)∧(pre.length:Int)<(u.mr.length:Int))=true:=by rw[hn];exact cE pre x r
   have q0:∀(c:D→Option D),bn (u.mr.flatMap bB) (Int.toNat (pre.length:Int)*5+0) c=c (.str x.1):=fun c=>by rw[hn];exact k0 c pre x r
   have q1:∀(c:D→Option D),bn (u.mr.flatMap bB) (Int.toNat (pre.length:Int)*5+1) c=c (.str x.2.1):=fun c=>by rw[hn];exact k1 c pre x r
   have q2:∀(c:D→Option D),bn (u.mr.flatMap bB) (Int.toNat (pre.length:Int)*5+2) c=c (.int .i64 x.2.2.1):=fun c=>by rw[hn];exact k2 c pre x r
   have q3:∀(c:D→Option D),bn (u.mr.flatMap bB) (Int.toNat (pre.length:Int)*5+3) c=c (.int .i64 x.2.2.2.1):=fun c=>by rw[hn];exact k3 c pre x r
   have q4:∀(c:D→Option D),bn (u.mr.flatMap bB) (Int.toNat (pre.length:Int)*5+4) c=c (.str x.2.2.2.2):=fun c=>by rw[hn];exact k4 c pre x r
   rw[←ih,←ch pre x r (by rw[←hn];omega)];refine Eq.trans ?_ (LG (u:=u) (B:=B) (fu:=fu) (fuel:=fuel) (t83:=t83) (t89:=(u.mr.length:Int)) (t90:=(pre.length:Int)) (a:=a) x mine other hi (by omega) (by omega));have hb:∀(X:Bool→Option D),bx (de x.1 p) (bx (x.2.2.1==((i+1:Nat):Int)) (X (de x.2.1 p)) (X false)) (X false)=X (bx (de x.1 p) (bx (x.2.2.1==((i+1:Nat):Int)) (de x.2.1 p) false) false):=fun X=>by
    cases de x.1 p<;>cases x.2.2.1==((i+1:Nat):Int)<;>rfl
   cases mine with
   |nil=>cases other with
    |nil=>
     simp only[du];rw[jD,h0,br,hin,bv,q0,bu,q1,bu,q2,bp,q3,bp,q4,bu,hi];exact hb fun t=>bJ B LL C1 fu fuel p of on oc df dn dc a i t83 u.kf u.mr.length (u.mr.flatMap bB) u.mr.length (pre.length:Int) u.cf u.cl.length (bq u.cl) u.mf u.me.length (u.me.flatMap bH) u.hf u.ho.length (u.ho.flatMap bL) u.sf u.sg.length (bq u.sg) u.pf u.pa.length (u.pa.flatMap bK) vc cf cn cc .nil .nil t x.1 x.2.1 x.2.2.1 x.2.2.2.1 x.2.2.2.2
    |cons o os=>
     simp only[du];rw[jE,h0,br,hin,bv,q0,bu,q1,bu,q2,bp,q3,bp,q4,bu,hi];exact hb fun t=>bJ B LL C1 fu fuel p of on oc df dn dc a i t83 u.kf u.mr.length (u.mr.flatMap bB) u.mr.length (pre.length:Int) u.cf u.cl.length (bq u.cl) u.mf u.me.length (u.me.flatMap bH) u.hf u.ho.length (u.ho.flatMap bL) u.sf u.sg.length (bq u.sg) u.pf u.pa.length (u.pa.flatMap bK) vc cf cn cc .nil (.own (os.length+1) ((o::os).flatMap ci)) t x.1 x.2.1 x.2.2.1 x.2.2.2.1 x.2.2.2.2
   |cons m ms=>cases other with
    |nil=>
     simp only[du];rw[jF,h0,br,hin,bv,q0,bu,q1,bu,q2,bp,q3,bp,q4,bu,hi];exact hb fun t=>bJ B LL C1 fu fuel p of on oc df dn dc a i t83 u.kf u.mr.length (u.mr.flatMap bB) u.mr.length (pre.length:Int) u.cf u.cl.length (bq u.cl) u.mf u.me.length (u.me.flatMap bH) u.hf u.ho.length (u.ho.flatMap bL) u.sf u.sg.length (bq u.sg) u.pf u.pa.length (u.pa.flatMap bK) vc cf cn cc (.own (ms.length+1) ((m::ms).flatMap ci)) .nil t x.1 x.2.1 x.2.2.1 x.2.2.2.1 x.2.2.2.2
    |cons o os=>
     simp only[du];rw[jG,h0,br,hin,bv,q0,bu,q1,bu,q2,bp,q3,bp,q4,bu,hi];exact hb fun t=>bJ B LL C1 fu fuel p of on oc df dn dc a i t83 u.kf u.mr.length (u.mr.flatMap bB) u.mr.length (pre.length:Int) u.cf u.cl.length (bq u.cl) u.mf u.me.length (u.me.flatMap bH) u.hf u.ho.length (u.ho.flatMap bL) u.sf u.sg.length (bq u.sg) u.pf u.pa.length (u.pa.flatMap bK) vc cf cn cc (.own (ms.length+1) ((m::ms).flatMap ci)) (.own (os.length+1) ((o::os).flatMap ci)) t x.1 x.2.1 x.2.2.1 x.2.2.2.1 x.2.2.2.2
theorem zk(l:List ce)(s:ByteArray):∀(m i j:Nat),j<m→(dS l s m i)[j]?=some (fH l s ((i+j+1:Nat):Int) false).1
 |m+1,i,0,_=>rfl
 |m+1,i,j+1,h=>by
  rw[show dS l s (m+1) i=(fH l s ((i+1:Nat):Int) false).1::dS l s m (i+1) from rfl,List.getElem?_cons_succ,zk l s m (i+1) j (by omega),show i+1+j+1=i+(j+1)+1 by omega]
theorem Np{fu i n a:Nat}{t83:Int}(hn:n≤100000)(hin:i<n)(ha:a≤100000):
  cK B LL C1 fu p of on oc df dn dc a i t83 u.cf u.cl.length (bq u.cl) u.mf u.me.length (u.me.flatMap bH) u.hf u.ho.length (u.ho.flatMap bL) u.kf u.mr.length (u.mr.flatMap bB) u.sf u.sg.length (bq u.sg) u.pf u.pa.length (u.pa.flatMap bK) vc cf n ((dS u.mr p n 0).flatMap ci) (du ci (nW u.mr p ((i+1:Nat):Int) true)) (du ci (nW u.mr p ((i+1:Nat):Int) false)) (CW (nW u.mr p ((i+1:Nat):Int) false)).1 (CW (nW u.mr p ((i+1:Nat):Int) false)).2=
  eN B LL C1 fu p of on oc df dn dc u.cf u.cl.length (bq u.cl) u.mf u.me.length (u.me.flatMap bH) u.hf u.ho.length (u.ho.flatMap bL) u.kf u.mr.length (u.mr.flatMap bB) u.sf u.sg.length (bq u.sg) u.pf u.pa.length (u.pa.flatMap bK) vc cf n ((dS u.mr p n 0).flatMap ci) ((a+b1 (tg u.mr p i):Nat):Int) t83 ((i+1:Nat):Int):=by
 obtain⟨pre,r,hd,hpl⟩:=kp (zk u.mr p n 0 i hin);rw[Nat.zero_add] at hd;obtain⟨e1,e2⟩:=zj u.mr p ((i+1:Nat):Int) false;obtain⟨e3,e4⟩:=zj u.mr p ((i+1:Nat):Int) true;have hc:decide ((0:Int)≤(i:Int)∧(i:Int)<(n:Int))=true:=by simp;omega
 have c0:∀(c:D→Option D),bn ((dS u.mr p n 0).flatMap ci) (Int.toNat (i:Int)*2+0) c=c (.int .i64 (CW (nW u.mr p ((i+1:Nat):Int) false)).1):=fun c=>by have:=n0 c pre (fH u.mr p ((i+1:Nat):Int) false).1 r;rw[hpl,←hd,e1] at this;exact this
 have c2:∀(c:D→Option D),bn ((dS u.mr p n 0).flatMap ci) (Int.toNat (i:Int)*2+1) c=c (.str (CW (nW u.mr p ((i+1:Nat):Int) false)).2):=fun c=>by have:=n1 c pre (fH u.mr p ((i+1:Nat):Int) false).1 r;rw[hpl,←hd,e1] at this;exact this
 have hs:∀w:cv,(!(w.1==w.1&&(ByteArray.toList w.2==ByteArray.toList w.2&&true)))=false:=fun w=>by simp
 have hi:IntKind.wrap .i64 ((i:Int)+1)=((i+1:Nat):Int):=by rw[cW (by omega)];rfl
 have hw:IntKind.wrap .i64 ((a:Int)+1)=((a+1:Nat):Int):=by rw[cW (by omega)];rfl
 have hq:tg u.mr p i=((!(nW u.mr p ((i+1:Nat):Int) false).isEmpty&& !(nW u.mr p ((i+1:Nat):Int) true).isEmpty)&&iQ (CW (nW u.mr p ((i+1:Nat):Int) true)) (CW (nW u.mr p ((i+1:Nat):Int) false))):=by
  unfold tg;rw[e1,e2,e3,e4,yq]
 rw[hq];generalize (dS u.mr p n 0).flatMap ci=CC at c0 c2;generalize nW u.mr p ((i+1:Nat):Int) false=F at c0 c2;generalize nW u.mr p ((i+1:Nat):Int) true=G;have q0:∀(os:List cv),decide (((os.length+1:Nat):Int)>0)=true:=fun os=>za1 (by omega);have q1:∀(os:List cv),decide ((0:Int)≤0∧(0:Int)<((os.length+1:Nat):Int))=true:=fun os=>za1 (by omega);cases G with
 |nil=>cases F with
  |nil=>simp only[du];rw[oM (hC:=c1),hc,bv,c0,bp,c2,bu,hs,bo,hi];rfl
  |cons o os=>simp only[du];rw[oN (hC:=c1),hc,bv,c0,bp,c2,bu,hs,bo,hi];rfl
 |cons m ms=>cases F with
  |nil=>simp only[du];rw[oO (hC:=c1),hc,bv,c0,bp,c2,bu,hs,bo,hi,q0 ms,br];rfl
  |cons o os=>
   simp only[du];have z0:∀(o:cv) (os:List cv) (c:D→Option D),bn ((o::os).flatMap ci) 0 c=c (.int .i64 o.1):=fun _ _ _=>rfl;have z1:∀(o:cv) (os:List cv) (c:D→Option D),bn ((o::os).flatMap ci) 1 c=c (.str o.2):=fun _ _ _=>rfl;rw[oP (hC:=c1),hc,bv,c0,bp,c2,bu,hs,bo,hi,q0 ms,br,q0 os,br,q1 ms,bv,z0,bp,z1,bu,q1 os,bv,z0,bp,z1,bu,hw];show bx (iQ m o) _ _=eN B LL C1 fu p of on oc df dn dc u.cf u.cl.length (bq u.cl) u.mf u.me.length (u.me.flatMap bH) u.hf u.ho.length (u.ho.flatMap bL) u.kf u.mr.length (u.mr.flatMap bB) u.sf u.sg.length (bq u.sg) u.pf u.pa.length (u.pa.flatMap bK) vc cf n CC ((a+b1 (iQ m o):Nat):Int) t83 ((i+1:Nat):Int);cases iQ m o<;>rfl
theorem E6(l:List ce)(s:ByteArray)(n:Nat)(h:0<n):(gS l n s==0)=(((An (tg l s) n 0:Nat):Int)==(n:Int)):=by
 have e:=uq l s n 0;unfold gS;rw[show((n:Int)==0)=false from beq_eq_false_iff_ne.2 (by omega)];generalize (c7 (eS l s) n 0).length=a at e;generalize (c7 (eT l s) n 0).length=b at e;generalize An (tg l s) n 0=c at e;by_cases ha:a=0
 ·rw[show decide ((a:Int)>0)=false from decide_eq_false (by omega)];by_cases hb:b=0
  ·rw[show decide ((b:Int)>0)=false from decide_eq_false (by omega),show((c:Int)==(n:Int))=true from zd5.2 (by omega)];rfl
  ·rw[show decide ((b:Int)>0)=true from za1 (by omega),show((c:Int)==(n:Int))=false from beq_eq_false_iff_ne.2 (by omega)];rfl
 ·rw[show decide ((a:Int)>0)=true from za1 (by omega),show((c:Int)==(n:Int))=false from beq_eq_false_iff_ne.2 (by omega)];rfl
theorem LH(hl:u.mr.length≤100000)(hn:u.ho.length≤100000)(h21:B 21 [.agg [.slc u.cf u.cl.length (bq u.cl),.slc u.mf u.me.length (u.me.flatMap bH),.slc u.hf u.ho.length (u.ho.flatMap bL),.slc u.kf u.mr.length (u.mr.flatMap bB),.slc u.sf u.sg.length (bq u.sg),.slc u.pf u.pa.length (u.pa.flatMap bK)],.str p]=some (.int .i64 (gS u.mr u.ho.length p)))
  (h41:B 41 [.slc true 1 [.int .i64 4,.int .i64 1],.agg [.str p,.slc true 1 [.int .i64 4,.str (ByteArray.mk #[])]]]=some (.int .i64 0)) (h15:B 15 []=some (.bool true)) (hon:on=(c7 (eS u.mr p) u.ho.length 0).length) (hdn:dn=(c7 (eT u.mr p) u.ho.length 0).length):
  ∀(m i fuel a:Nat),i+m=u.ho.length→m<fuel→a+An (tg u.mr p) m i=An (tg u.mr p) u.ho.length 0→
  eN B LL C1 fuel p of on oc df dn dc u.cf u.cl.length (bq u.cl) u.mf u.me.length (u.me.flatMap bH) u.hf u.ho.length (u.ho.flatMap bL) u.kf u.mr.length (u.mr.flatMap bB) u.sf u.sg.length (bq u.sg) u.pf u.pa.length (u.pa.flatMap bK) vc cf u.ho.length ((dS u.mr p u.ho.length 0).flatMap ci) (a:Int) u.ho.length (i:Int)=some (.bool true)
 |0,i,fuel+1,a,h,_,he=>by
  have hs:=uq u.mr p u.ho.length 0;rw[←hon,←hdn] at hs;have ha:a=An (tg u.mr p) u.ho.length 0:=he;have h1:decide ((i:Int)<(u.ho.length:Int))=false:=by simp;omega
  have h2:(IntKind.wrap .i64 (IntKind.wrap .i64 ((a:Int)+(on:Int))+(dn:Int))==(u.ho.length:Int))=true:=by
   rw[cW (x:=(a:Int)+(on:Int)) (by omega),cW (by omega)];exact zd5.2 (by omega)
  rw[rh,h1,bo,h21,bm,bp,h2,br,h41,bm,bp,h15,bm,bA];by_cases hz:u.ho.length=0
  ·rw[hz];rfl
  ·rw[show decide ((u.ho.length:Int)>0)=true from za1 (by omega),br,E6 u.mr p _ (by omega),←ha];simp
 |m+1,i,fuel+1,a,h,hf,he=>by
  have hi:IntKind.wrap .i64 ((i:Int)+1)=((i+1:Nat):Int):=by rw[cW (by omega)];rfl
  have hsum:=uq u.mr p u.ho.length 0;have he':a+b1 (tg u.mr p i)+An (tg u.mr p) m (i+1)=An (tg u.mr p) u.ho.length 0:=by
   rw[←he,show An (tg u.mr p) (m+1) i=b1 (tg u.mr p i)+An (tg u.mr p) m (i+1) from rfl];omega
  have ih:=LH hl hn h21 h41 h15 hon hdn m (i+1) fuel (a+b1 (tg u.mr p i)) (by omega) (by omega) he';have h1:decide ((i:Int)<(u.ho.length:Int))=true:=by simp;omega
  have hm:=No (u:=u) (B:=B) (p:=p) (vc:=vc) (of:=of) (df:=df) (cf:=cf) (on:=on) (dn:=dn) (cn:=u.ho.length) (oc:=oc) (dc:=dc) (cc:=(dS u.mr p u.ho.length 0).flatMap ci) (fu:=fuel) (t83:=(u.ho.length:Int)) (a:=(a:Int)) hi hl u.mr [] LL [] [] rfl (by unfold LL;omega) (Nat.zero_le _) (Nat.zero_le _);rw[zb3,zb3,Np u hn (by omega) (by omega),ih] at hm;rw[rh,h1,br];exact hm
theorem Nq(hu:u.Fit'):co 40 [jM u] (.bool (zg u&&uE u==0)):=by
 obtain⟨B,hB,hF⟩:=jK [one 14 [.agg [.slc u.cf u.cl.length (bq u.cl),.slc u.mf u.me.length (u.me.flatMap bH),.slc u.hf u.ho.length (u.ho.flatMap bL),.slc u.kf u.mr.length (u.mr.flatMap bB),.slc u.sf u.sg.length (bq u.sg),.slc u.pf u.pa.length (u.pa.flatMap bK)]] (.bool (zg u)),one 16 [.agg [.slc u.cf u.cl.length (bq u.cl),.slc u.mf u.me.length (u.me.flatMap bH),.slc u.hf u.ho.length (u.ho.flatMap bL),.slc u.kf u.mr.length (u.mr.flatMap bB),.slc u.sf u.sg.length (bq u.sg),.slc u.pf u.pa.length (u.pa.flatMap bK)]] (.int .i64 (uE u))] ⟨bO (LD u),bO (Nc u hu),trivial⟩ (by kernel_rfl);have a:B 14 [.agg [.slc u.cf u.cl.length (bq u.cl),.slc u.mf u.me.length (u.me.flatMap bH),.slc u.hf u.ho.length (u.ho.flatMap bL),.slc u.kf u.mr.length (u.mr.flatMap bB),.slc u.sf u.sg.length (bq u.sg),.slc u.pf u.pa.length (u.pa.flatMap bK)]]=some (.bool (zg u)):=hF.1 ();have b:B 16 [.agg [.slc u.cf u.cl.length (bq u.cl),.slc u.mf u.me.length (u.me.flatMap bH),.slc u.hf u.ho.length (u.ho.flatMap bL),.slc u.kf u.mr.length (u.mr.flatMap bB),.slc u.sf u.sg.length (bq u.sg),.slc u.pf u.pa.length (u.pa.flatMap bK)]]=some (.int .i64 (uE u)):=hF.2.1 ();refine eM hB Tryz.func40 (ord:=O0) (N:=N0) (by kernel_rfl) ((CS _ _ _ _ _ _ _ _ _ _ _ _ _ _ _ _ _ _ _ _ _).trans ?_);rw[a,bm,bA,b,bm,bp];cases zg u<;>rfl
theorem LI(hs:zg u=false):co 40 [jM u] (.bool false):=by
 obtain⟨B,hB,hF⟩:=jK [one 14 [.agg [.slc u.cf u.cl.length (bq u.cl),.slc u.mf u.me.length (u.me.flatMap bH),.slc u.hf u.ho.length (u.ho.flatMap bL),.slc u.kf u.mr.length (u.mr.flatMap bB),.slc u.sf u.sg.length (bq u.sg),.slc u.pf u.pa.length (u.pa.flatMap bK)]] (.bool (zg u))] ⟨bO (LD u),trivial⟩ (by kernel_rfl);have a:B 14 [.agg [.slc u.cf u.cl.length (bq u.cl),.slc u.mf u.me.length (u.me.flatMap bH),.slc u.hf u.ho.length (u.ho.flatMap bL),.slc u.kf u.mr.length (u.mr.flatMap bB),.slc u.sf u.sg.length (bq u.sg),.slc u.pf u.pa.length (u.pa.flatMap bK)]]=some (.bool (zg u)):=hF.1 ();refine eM hB Tryz.func40 (ord:=O0) (N:=N0) (by kernel_rfl) ((CS _ _ _ _ _ _ _ _ _ _ _ _ _ _ _ _ _ _ _ _ _).trans ?_);rw[a,bm,bA,hs];rfl
theorem Nr{b:Bool}{a c:Int}(hc:c≠0)(h:bx b c a=0):b=false∧a=0:=by
 cases b with
 |true=>exact absurd h hc
 |false=>exact⟨rfl,h⟩
theorem wG{a b:Int}(h:bx (a !=0) a b=0):a=0∧b=0:=by
 cases ha:a !=0 with
 |true=>rw[ha,br] at h;rw[h] at ha;cases ha
 |false=>rw[ha,bo] at h;exact⟨by simpa using ha,h⟩
theorem rn(cl:List ByteArray):∀(r pre:List c6),gT cl pre r=0→∀x∈r,cI x.1=true
 |[],_,_,x,hx=>by cases hx
 |y::r,pre,h,x,hx=>by
  rw[show gT cl pre (y::r)=bx (yg cl pre y !=0) (yg cl pre y) (gT cl (pre++[y]) r) from rfl] at h;obtain⟨h1,h2⟩:=wG h;rcases List.mem_cons.1 hx with rfl|hx
  ·unfold yg at h1;rw[show dI [bx (!cI x.1) 8 0,bx (dT (pre.map (·.1)) x.1) 9 0,bx (!dT cl x.2.1) 10 0,bx (na x.2.2 (-99) 99) 3 0]=bx (bx (!cI x.1) 8 0 !=(0:Int)) (bx (!cI x.1) 8 0) (dI [bx (dT (pre.map (·.1)) x.1) 9 0,bx (!dT cl x.2.1) 10 0,bx (na x.2.2 (-99) 99) 3 0]) from rfl] at h1;have:=(wG h1).1;cases hn:cI x.1 with
   |true=>rfl
   |false=>rw[hn] at this;cases this
  ·exact rn cl r _ h2 x hx
theorem CZ(h:uE u=0):∀x∈u.me,cI x.1=true:=by
 unfold uE at h;obtain⟨_,h⟩:=Nr (by decide) h;obtain⟨h,_⟩:=wG h;unfold ER at h;obtain⟨_,h⟩:=wG h;exact rn u.cl u.me [] (wG h).1
theorem NX(h1:u.me.length*40≤cu)(h3:u.mr.length*64≤cu)(h5:u.pa.length*64≤cu)(v:Int)(hv:0≤v∧v≤255):co 5 [jM u,.int .u8 v] (.bool true):=by
 have q13:co 13 [.agg [.slc u.cf u.cl.length (bq u.cl),.slc u.mf u.me.length (u.me.flatMap bH),.slc u.hf u.ho.length (u.ho.flatMap bL),.slc u.kf u.mr.length (u.mr.flatMap bB),.slc u.sf u.sg.length (bq u.sg),.slc u.pf u.pa.length (u.pa.flatMap bK)]] (.agg [.slc u.cf u.cl.length (bq u.cl),.slc u.me.isEmpty u.me.length (u.me.flatMap bH),.slc u.hf u.ho.length (u.ho.flatMap bL),.slc u.mr.isEmpty u.mr.length (u.mr.flatMap bB),.slc u.sf u.sg.length (bq u.sg),.slc u.pa.isEmpty u.pa.length (u.pa.flatMap bK)]):=Nm u h1 h3 h5;cases hs:zg u with
 |false=>
  have q40:co 40 [.agg [.slc u.cf u.cl.length (bq u.cl),.slc u.me.isEmpty u.me.length (u.me.flatMap bH),.slc u.hf u.ho.length (u.ho.flatMap bL),.slc u.mr.isEmpty u.mr.length (u.mr.flatMap bB),.slc u.sf u.sg.length (bq u.sg),.slc u.pa.isEmpty u.pa.length (u.pa.flatMap bK)]] (.bool false):=LI (E0 u) hs;obtain⟨B,hB,hF⟩:=jK [one 13 [.agg [.slc u.cf u.cl.length (bq u.cl),.slc u.mf u.me.length (u.me.flatMap bH),.slc u.hf u.ho.length (u.ho.flatMap bL),.slc u.kf u.mr.length (u.mr.flatMap bB),.slc u.sf u.sg.length (bq u.sg),.slc u.pf u.pa.length (u.pa.flatMap bK)]] (.agg [.slc u.cf u.cl.length (bq u.cl),.slc u.me.isEmpty u.me.length (u.me.flatMap bH),.slc u.hf u.ho.length (u.ho.flatMap bL),.slc u.mr.isEmpty u.mr.length (u.mr.flatMap bB),.slc u.sf u.sg.length (bq u.sg),.slc u.pa.isEmpty u.pa.length (u.pa.flatMap bK)]),one 40 [.agg [.slc u.cf u.cl.length (bq u.cl),.slc u.me.isEmpty u.me.length (u.me.flatMap bH),.slc u.hf u.ho.length (u.ho.flatMap bL),.slc u.mr.isEmpty u.mr.length (u.mr.flatMap bB),.slc u.sf u.sg.length (bq u.sg),.slc u.pa.isEmpty u.pa.length (u.pa.flatMap bK)]] (.bool false),one 15 [] (.bool true)] ⟨bO q13,bO q40,bO Hd,trivial⟩ (by kernel_rfl);have a13:B 13 [.agg [.slc u.cf u.cl.length (bq u.cl),.slc u.mf u.me.length (u.me.flatMap bH),.slc u.hf u.ho.length (u.ho.flatMap bL),.slc u.kf u.mr.length (u.mr.flatMap bB),.slc u.sf u.sg.length (bq u.sg),.slc u.pf u.pa.length (u.pa.flatMap bK)]]=some (.agg [.slc u.cf u.cl.length (bq u.cl),.slc u.me.isEmpty u.me.length (u.me.flatMap bH),.slc u.hf u.ho.length (u.ho.flatMap bL),.slc u.mr.isEmpty u.mr.length (u.mr.flatMap bB),.slc u.sf u.sg.length (bq u.sg),.slc u.pa.isEmpty u.pa.length (u.pa.flatMap bK)]):=hF.1 ();have a40:B 40 [.agg [.slc u.cf u.cl.length (bq u.cl),.slc u.me.isEmpty u.me.length (u.me.flatMap bH),.slc u.hf u.ho.length (u.ho.flatMap bL),.slc u.mr.isEmpty u.mr.length (u.mr.flatMap bB),.slc u.sf u.sg.length (bq u.sg),.slc u.pa.isEmpty u.pa.length (u.pa.flatMap bK)]]=some (.bool false):=hF.2.1 ();have a15:B 15 []=some (.bool true):=hF.2.2.1 ();refine eM hB Tryz.func5 (ord:=O0) (N:=N5) (by kernel_rfl) ((CV _ _ _ _ _ _ _ _ _ _ _ _ _ _ _ _ _ _ _ _ _ _).trans ?_);rw[a13,bm,Ii,Ij,bG,Ik,bG,Il,bG,Im,bG,Io,bG,Ip,bG,a40,bm,bA,Bool.not_false,br,a15,bm,bA]
 |true=>
  obtain⟨hu,h39⟩:=Ib u hs;have q40:co 40 [.agg [.slc u.cf u.cl.length (bq u.cl),.slc u.me.isEmpty u.me.length (u.me.flatMap bH),.slc u.hf u.ho.length (u.ho.flatMap bL),.slc u.mr.isEmpty u.mr.length (u.mr.flatMap bB),.slc u.sf u.sg.length (bq u.sg),.slc u.pa.isEmpty u.pa.length (u.pa.flatMap bK)]] (.bool (uE u==0)):=by
   have:=Nq (E0 u) hu;rw[show zg (E0 u)=true from hs,Bool.true_and] at this;exact this
  by_cases hz:uE u≠0∨u.me=[]
  ·obtain⟨B,hB,hF⟩:=jK [one 13 [.agg [.slc u.cf u.cl.length (bq u.cl),.slc u.mf u.me.length (u.me.flatMap bH),.slc u.hf u.ho.length (u.ho.flatMap bL),.slc u.kf u.mr.length (u.mr.flatMap bB),.slc u.sf u.sg.length (bq u.sg),.slc u.pf u.pa.length (u.pa.flatMap bK)]] (.agg [.slc u.cf u.cl.length (bq u.cl),.slc u.me.isEmpty u.me.length (u.me.flatMap bH),.slc u.hf u.ho.length (u.ho.flatMap bL),.slc u.mr.isEmpty u.mr.length (u.mr.flatMap bB),.slc u.sf u.sg.length (bq u.sg),.slc u.pa.isEmpty u.pa.length (u.pa.flatMap bK)]),one 40 [.agg [.slc u.cf u.cl.length (bq u.cl),.slc u.me.isEmpty u.me.length (u.me.flatMap bH),.slc u.hf u.ho.length (u.ho.flatMap bL),.slc u.mr.isEmpty u.mr.length (u.mr.flatMap bB),.slc u.sf u.sg.length (bq u.sg),.slc u.pa.isEmpty u.pa.length (u.pa.flatMap bK)]] (.bool (uE u==0)),one 15 [] (.bool true)] ⟨bO q13,bO q40,bO Hd,trivial⟩ (by kernel_rfl);have a13:B 13 [.agg [.slc u.cf u.cl.length (bq u.cl),.slc u.mf u.me.length (u.me.flatMap bH),.slc u.hf u.ho.length (u.ho.flatMap bL),.slc u.kf u.mr.length (u.mr.flatMap bB),.slc u.sf u.sg.length (bq u.sg),.slc u.pf u.pa.length (u.pa.flatMap bK)]]=some (.agg [.slc u.cf u.cl.length (bq u.cl),.slc u.me.isEmpty u.me.length (u.me.flatMap bH),.slc u.hf u.ho.length (u.ho.flatMap bL),.slc u.mr.isEmpty u.mr.length (u.mr.flatMap bB),.slc u.sf u.sg.length (bq u.sg),.slc u.pa.isEmpty u.pa.length (u.pa.flatMap bK)]):=hF.1 ();have a40:B 40 [.agg [.slc u.cf u.cl.length (bq u.cl),.slc u.me.isEmpty u.me.length (u.me.flatMap bH),.slc u.hf u.ho.length (u.ho.flatMap bL),.slc u.mr.isEmpty u.mr.length (u.mr.flatMap bB),.slc u.sf u.sg.length (bq u.sg),.slc u.pa.isEmpty u.pa.length (u.pa.flatMap bK)]]=some (.bool (uE u==0)):=hF.2.1 ();have a15:B 15 []=some (.bool true):=hF.2.2.1 ();refine eM hB Tryz.func5 (ord:=O0) (N:=N5) (by kernel_rfl) ((CV _ _ _ _ _ _ _ _ _ _ _ _ _ _ _ _ _ _ _ _ _ _).trans ?_);rw[a13,bm,Ii,Ij,bG,Ik,bG,Il,bG,Im,bG,Io,bG,Ip,bG,a40,bm,bA,a15,bm,bA];rcases hz with hz|hz
   ·rw[beq_eq_false_iff_ne.2 hz,Bool.not_false,br]
   ·rw[hz];cases uE u==0<;>rfl
  ·have h0:uE u=0:=Classical.byContradiction fun h=>hz (Or.inl h);have hme:u.me≠[]:=fun h=>hz (Or.inr h);have hpos:0<u.me.length:=List.length_pos_iff.2 hme;have hlm:u.me.length≤100000:=hu.1.2.1;obtain⟨k,hk1,hk2⟩:∃k:Nat,Int.tmod v (u.me.length:Int)=(k:Int)∧k<u.me.length:=by
    obtain⟨w,rfl⟩:∃w:Nat,v=(w:Int):=⟨v.toNat,by omega⟩;exact⟨w%u.me.length,rfl,Nat.mod_lt _ hpos⟩
   obtain⟨pre,r,hd,hpl⟩:=kp (zc8 hk2);generalize u.me[k]=x at hd;have hmem:x∈u.me:=by rw[hd];simp
   have hnm:=CZ u h0 x hmem;have hmb:Ar u.me x.1=true:=List.any_eq_true.2 ⟨x,hmem,ng x.1⟩;have hch:l7 u x.1=0:=by unfold l7;rw[h0,hmb];rfl
   have hsz:x.1.size≤1000:=hu.2.2.1 x hmem;have ho:u.ho.length≤100000:=hu.1.2.2.1;have hm:u.mr.length≤100000:=hu.1.2.2.2.1;have q41:co 41 [.slc true 1 [.int .i64 4,.int .i64 1],.agg [.str x.1,.slc true 1 [.int .i64 4,.str (ByteArray.mk #[])]]] (.int .i64 0):=by
    have:=K3 (f:=true) (g:=true) (Ah [(4,1)]) x.1 [(4,ByteArray.mk #[])] (by omega) (by decide);rw[show jy [((4:Int),(1:Int))].length (hP [(4,1)]) (hS [(4,1)]) x.1 [(4,ByteArray.mk #[])]=0 by unfold jy;rw[hnm];decide+kernel] at this;exact this
   have q18:=Nd u hu x.1;have q19:=Ng u hu x.1;have q20:=Nh u hu x.1;have q21:=Nf u hu x.1;rw[hch,show((0:Int) !=0)=false from rfl,bo] at q18 q19 q20 q21;obtain⟨B,hB,hF⟩:=jK [one 13 [.agg [.slc u.cf u.cl.length (bq u.cl),.slc u.mf u.me.length (u.me.flatMap bH),.slc u.hf u.ho.length (u.ho.flatMap bL),.slc u.kf u.mr.length (u.mr.flatMap bB),.slc u.sf u.sg.length (bq u.sg),.slc u.pf u.pa.length (u.pa.flatMap bK)]] (.agg [.slc u.cf u.cl.length (bq u.cl),.slc u.me.isEmpty u.me.length (u.me.flatMap bH),.slc u.hf u.ho.length (u.ho.flatMap bL),.slc u.mr.isEmpty u.mr.length (u.mr.flatMap bB),.slc u.sf u.sg.length (bq u.sg),.slc u.pa.isEmpty u.pa.length (u.pa.flatMap bK)]),one 40 [.agg [.slc u.cf u.cl.length (bq u.cl),.slc u.me.isEmpty u.me.length (u.me.flatMap bH),.slc u.hf u.ho.length (u.ho.flatMap bL),.slc u.mr.isEmpty u.mr.length (u.mr.flatMap bB),.slc u.sf u.sg.length (bq u.sg),.slc u.pa.isEmpty u.pa.length (u.pa.flatMap bK)]] (.bool (uE u==0)),one 15 [] (.bool true),one 18 [.agg [.slc u.cf u.cl.length (bq u.cl),.slc u.mf u.me.length (u.me.flatMap bH),.slc u.hf u.ho.length (u.ho.flatMap bL),.slc u.kf u.mr.length (u.mr.flatMap bB),.slc u.sf u.sg.length (bq u.sg),.slc u.pf u.pa.length (u.pa.flatMap bK)],.str x.1] (.tup [.agg [.str x.1,eR ci (dS u.mr x.1 u.ho.length 0)],.int .i64 0]),one 19 [.agg [.slc u.cf u.cl.length (bq u.cl),.slc u.mf u.me.length (u.me.flatMap bH),.slc u.hf u.ho.length (u.ho.flatMap bL),.slc u.kf u.mr.length (u.mr.flatMap bB),.slc u.sf u.sg.length (bq u.sg),.slc u.pf u.pa.length (u.pa.flatMap bK)],.str x.1] (.tup [eR iD (c7 (eS u.mr x.1) u.ho.length 0),.int .i64 0]),one 20 [.agg [.slc u.cf u.cl.length (bq u.cl),.slc u.mf u.me.length (u.me.flatMap bH),.slc u.hf u.ho.length (u.ho.flatMap bL),.slc u.kf u.mr.length (u.mr.flatMap bB),.slc u.sf u.sg.length (bq u.sg),.slc u.pf u.pa.length (u.pa.flatMap bK)],.str x.1] (.tup [eR iD (c7 (eT u.mr x.1) u.ho.length 0),.int .i64 0]),one 21 [.agg [.slc u.cf u.cl.length (bq u.cl),.slc u.mf u.me.length (u.me.flatMap bH),.slc u.hf u.ho.length (u.ho.flatMap bL),.slc u.kf u.mr.length (u.mr.flatMap bB),.slc u.sf u.sg.length (bq u.sg),.slc u.pf u.pa.length (u.pa.flatMap bK)],.str x.1] (.int .i64 (gS u.mr u.ho.length x.1)),one 41 [.slc true 1 [.int .i64 4,.int .i64 1],.agg [.str x.1,.slc true 1 [.int .i64 4,.str (ByteArray.mk #[])]]] (.int .i64 0)]
    ⟨bO q13,bO q40,bO Hd,bO q18,bO q19,bO q20,bO q21,bO q41,trivial⟩ (by kernel_rfl)
   obtain⟨a13,a40,a15,a18,a19,a20,a21,a41,_⟩:=hF;have a13:B 13 [.agg [.slc u.cf u.cl.length (bq u.cl),.slc u.mf u.me.length (u.me.flatMap bH),.slc u.hf u.ho.length (u.ho.flatMap bL),.slc u.kf u.mr.length (u.mr.flatMap bB),.slc u.sf u.sg.length (bq u.sg),.slc u.pf u.pa.length (u.pa.flatMap bK)]]=some (.agg [.slc u.cf u.cl.length (bq u.cl),.slc u.me.isEmpty u.me.length (u.me.flatMap bH),.slc u.hf u.ho.length (u.ho.flatMap bL),.slc u.mr.isEmpty u.mr.length (u.mr.flatMap bB),.slc u.sf u.sg.length (bq u.sg),.slc u.pa.isEmpty u.pa.length (u.pa.flatMap bK)]):=a13 ();have a40:B 40 [.agg [.slc u.cf u.cl.length (bq u.cl),.slc u.me.isEmpty u.me.length (u.me.flatMap bH),.slc u.hf u.ho.length (u.ho.flatMap bL),.slc u.mr.isEmpty u.mr.length (u.mr.flatMap bB),.slc u.sf u.sg.length (bq u.sg),.slc u.pa.isEmpty u.pa.length (u.pa.flatMap bK)]]=some (.bool (uE u==0)):=a40 ();have a15:B 15 []=some (.bool true):=a15 ();have a18:B 18 [.agg [.slc u.cf u.cl.length (bq u.cl),.slc u.mf u.me.length (u.me.flatMap bH),.slc u.hf u.ho.length (u.ho.flatMap bL),.slc u.kf u.mr.length (u.mr.flatMap bB),.slc u.sf u.sg.length (bq u.sg),.slc u.pf u.pa.length (u.pa.flatMap bK)],.str x.1]=some (.tup [.agg [.str x.1,eR ci (dS u.mr x.1 u.ho.length 0)],.int .i64 0]):=a18 ();have a19:B 19 [.agg [.slc u.cf u.cl.length (bq u.cl),.slc u.mf u.me.length (u.me.flatMap bH),.slc u.hf u.ho.length (u.ho.flatMap bL),.slc u.kf u.mr.length (u.mr.flatMap bB),.slc u.sf u.sg.length (bq u.sg),.slc u.pf u.pa.length (u.pa.flatMap bK)],.str x.1]=some (.tup [eR iD (c7 (eS u.mr x.1) u.ho.length 0),.int .i64 0]):=a19 ();have a20:B 20 [.agg [.slc u.cf u.cl.length (bq u.cl),.slc u.mf u.me.length (u.me.flatMap bH),.slc u.hf u.ho.length (u.ho.flatMap bL),.slc u.kf u.mr.length (u.mr.flatMap bB),.slc u.sf u.sg.length (bq u.sg),.slc u.pf u.pa.length (u.pa.flatMap bK)],.str x.1]=some (.tup [eR iD (c7 (eT u.mr x.1) u.ho.length 0),.int .i64 0]):=a20 ();have a21:B 21 [.agg [.slc u.cf u.cl.length (bq u.cl),.slc u.mf u.me.length (u.me.flatMap bH),.slc u.hf u.ho.length (u.ho.flatMap bL),.slc u.kf u.mr.length (u.mr.flatMap bB),.slc u.sf u.sg.length (bq u.sg),.slc u.pf u.pa.length (u.pa.flatMap bK)],.str x.1]=some (.int .i64 (gS u.mr u.ho.length x.1)):=a21 ();have a41:=a41 ();have hc:∀(c:D→Option D),bn (u.me.flatMap bH) (Int.toNat (k:Int)*3+0) c=c (.str x.1):=fun c=>by rw[hd,←hpl];exact HY c pre x r
   have hin:decide ((0:Int)≤(k:Int)∧(k:Int)<(u.me.length:Int))=true:=by simp;omega
   have hnz:(!decide ((u.me.length:Int)=0))=true:=by simp;exact hme
   have hln:(((dS u.mr x.1 u.ho.length 0).length:Int) !=(u.ho.length:Int))=false:=by rw[nP];simp
   refine eM hB Tryz.func5 (ord:=O0) (N:=N5) (by kernel_rfl) ((CV _ _ _ _ _ _ _ _ _ _ _ _ _ _ _ _ _ _ _ _ _ _).trans ?_);rw[a13,bm,Ii,Ij,bG,Ik,bG,Il,bG,Im,bG,Io,bG,Ip,bG,a40,bm,bA,h0,show(!((0:Int)==0))=false from rfl,bo,show((u.me.length:Int)==0)=false from beq_eq_false_iff_ne.2 (by omega),bo];rw[CU (hC:=c1),cW (x:=v) (by omega),hnz,bv,hk1,hin,bv,hc,bu,a18,bm,nO,gp,oL,gp,bu,gq,d7,bG,gq,bp,a19,bm,nO,gp,d7,bG,gq,bp,a20,bm,nO,gp,d7,bG,gq,bp,show((0:Int) !=0)=false from rfl,bo,bo,bo,hln,bo,Am (hC:=c1),nP];exact LH u hm ho a21 a41 a15 rfl rfl u.ho.length 0 LL 0 (by omega) (by unfold LL;omega) (by omega)
end
end Go.Pd
end
