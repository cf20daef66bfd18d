import Derived.Test.YtmhbhlbnlmbhlaaGreatDoorCrA
import Derived.KernelRfl
import Derived.Test.YtmhbhlbnlmbhlaaGreatDoorCrB
import Derived.Laws.RangeString
import Derived.Laws.RangeAny
import Derived.Test.YtmhbhlbnlmbhlaaGreatDoorCrD
import Derived.Shelf.SlicesE.Clone
import Derived.RegionTactic
section
namespace Go.Pd
open Go Go.Proofs
set_option maxRecDepth 100000
def Ut:bY:=fun p=>match p with
 |26=>nm [0,6] [] [6]
 |_=>none
noncomputable def qa(call:CL)(L:Nat)(C:Nat→Nat)(n:Nat)(vs:ByteArray)(q:Nat):Option D:=
 cw (cF call L C) O0 Ut FinM.canon Tryz.f85 [true,false,true,false] [] n (St.mk (D.str vs::jn 5 (D.loc 6 0 0::jn 30 [])) (zn 6 ((1,some (Ob.sit vs q))::zn 30 [])))
theorem vP(call:CL)(L:Nat)(C:Nat→Nat)(n:Nat)(vs:ByteArray)(q:Nat):qa call L C (n+1) vs q=
 (bz (decide (q<ByteArray.size vs))
 (bB (call 141 [D.int IntKind.i32 (((Prod.fst (Utf8.decode vs q)):Nat):Int)]) fun r=>ce r fun b=>bz (!b)
 (bz ((q:Int)==0)
 (some (D.bool false))
 (bz ((((Prod.fst (Utf8.decode vs q)):Nat):Int) !=95)
 (bz (decide ((((Prod.fst (Utf8.decode vs q)):Nat):Int)<48))
 (some (D.bool false))
 (bz (decide ((((Prod.fst (Utf8.decode vs q)):Nat):Int)>57))
 (some (D.bool false))
 (qa call L C n vs (q+Prod.snd (Utf8.decode vs q)))))
 (qa call L C n vs (q+Prod.snd (Utf8.decode vs q)))))
 (qa call L C n vs (q+Prod.snd (Utf8.decode vs q))))
 (bz (!ByteArray.toList vs==ByteArray.toList (ByteArray.mk #[]))
 (some (D.bool (decide (((ByteArray.size vs):Int)≤24))))
 (some (D.bool false)))):=by kernel_rfl
theorem M0(call:CL)(L:Nat)(C:Nat→Nat)(vs:ByteArray):bT (cF call L C) O0 Ut FinM.canon Tryz.f85 [D.str vs]=
 (qa call L C L vs 0):=by kernel_rfl
theorem Js(call:CL)(L:Nat)(C:Nat→Nat)(q:Int):bT (cF call L C) O0 N0 FinM.canon Tryz.f141 [D.int IntKind.i32 q]=
 (bz (decide (q≥97))
 (bz (decide (q≤122))
 (some (D.bool true))
 (bz (decide (q≥65))
 (some (D.bool (decide (q≤90))))
 (some (D.bool false))))
 (bz (decide (q≥65))
 (some (D.bool (decide (q≤90))))
 (some (D.bool false)))):=by kernel_rfl
def PG:bY:=fun p=>match p with
 |7=>nm [0] [] []
 |58=>nm [0,3] [] []
 |467=>nm [0,3] [] []
 |3731=>nm [0,3,4,5] [] []
 |_=>none
noncomputable def kW(call:CL)(L:Nat)(C:Nat→Nat)(q:Nat)(vs:ByteArray)(z:Int):Option D:=
 eL (cF call L C) O0 PG FinM.canon Tryz.f75 (bt 8 203) [q] (C 467) (St.mk (D.str vs::J::J::D.int .i64 z::jn 52 []) (zn 56 []))
noncomputable def ip(call:CL)(L:Nat)(C:Nat→Nat)(q:Nat)(vs:ByteArray)(K z:Int)(M:Bool):Option D:=
 eL (cF call L C) O0 PG FinM.canon Tryz.f75 (bt 11 1611) [q] (C 3731) (St.mk (D.str vs::J::J::D.int .i64 K::D.int IntKind.u8 z::D.bool M::jn 50 []) (zn 56 []))
noncomputable def xB(call:CL)(L:Nat)(C:Nat→Nat)(q:Nat)(vs:ByteArray)(z:Int):Option D:=
 cw (cF call L C) O0 PG FinM.canon Tryz.f75 (bt 5 11) [] q (St.mk (D.str vs::J::J::D.int .i64 z::jn 52 []) (zn 56 []))
noncomputable def Gb(call:CL)(L:Nat)(C:Nat→Nat)(vs:ByteArray):Option D:=
 eL (cF call L C) O0 PG FinM.canon Tryz.f75 [true,true] [] (C 7) (St.mk (D.str vs::jn 55 []) (zn 56 []))
theorem BT(call:CL)(L:Nat)(C:Nat→Nat)(q:Nat)(vs:ByteArray)(z:Int)(hC:∀t,C t=1):kW call L C q vs z=
 (xB call L C q vs (IntKind.wrap .i64 (z+1))):=by
 unfold kW;rw[hC]
 kernel_rfl
theorem zi(call:CL)(L:Nat)(C:Nat→Nat)(z:Nat)(vs:ByteArray)(q J:Int)(K:Bool)(hC:∀t,C t=1):ip call L C z vs q J K=
 (bz (!K)
 (bz (q==0)
 (some (D.bool false))
 (bz (decide (J≥48))
 (bz (decide (J≤57))
 (kW call L C z vs q)
 (bz (!J==95)
 (some (D.bool false))
 (kW call L C z vs q)))
 (bz (!J==95)
 (some (D.bool false))
 (kW call L C z vs q))))
 (kW call L C z vs q)):=by
 unfold ip;rw[hC]
 kernel_rfl
theorem vQ(call:CL)(L:Nat)(C:Nat→Nat)(z:Nat)(vs:ByteArray)(q:Int):xB call L C (z+1) vs q=
 (bz (decide (q<((ByteArray.size vs):Int)))
 (bH (decide (0≤q∧Int.toNat q<ByteArray.size vs))
 (bz (decide (cA vs (Int.toNat q)≥97))
 (bz (decide (cA vs (Int.toNat q)≤122))
 (ip call L C z vs q (cA vs (Int.toNat q)) true)
 (bz (decide (cA vs (Int.toNat q)≥65))
 (ip call L C z vs q (cA vs (Int.toNat q)) (decide (cA vs (Int.toNat q)≤90)))
 (ip call L C z vs q (cA vs (Int.toNat q)) false)))
 (bz (decide (cA vs (Int.toNat q)≥65))
 (ip call L C z vs q (cA vs (Int.toNat q)) (decide (cA vs (Int.toNat q)≤90)))
 (ip call L C z vs q (cA vs (Int.toNat q)) false))))
 (some (D.bool true))):=by kernel_rfl
theorem Gc(call:CL)(L:Nat)(C:Nat→Nat)(vs:ByteArray)(hC:∀t,C t=1):Gb call L C vs=
 (xB call L C L vs 0):=by
 unfold Gb;rw[hC]
 kernel_rfl
theorem M1(call:CL)(L:Nat)(C:Nat→Nat)(vs:ByteArray):bT (cF call L C) O0 PG FinM.canon Tryz.f75 [D.str vs]=
 (bz (decide (((ByteArray.size vs):Int)<1))
 (some (D.bool false))
 (bz (decide (((ByteArray.size vs):Int)>24))
 (some (D.bool false))
 (Gb call L C vs))):=by kernel_rfl
theorem M2(call:CL)(L:Nat)(C:Nat→Nat)(z:Bool)(J:Nat)(q:List D)(K:ByteArray):bT (cF call L C) O0 N0 FinM.canon Tryz.f86 [D.slc z J q,D.str K]=
 (bB (call 142 [D.slc z J q,D.str K]) fun r=>bD .i64 r fun x=>some (D.bool (decide (x≥0)))):=by kernel_rfl
def M3:bY:=fun p=>match p with
 |26=>nm [0,1,7,8] [] []
 |_=>none
noncomputable def rO(call:CL)(L:Nat)(C:Nat→Nat)(n:Nat)(K:Bool)(M:Nat)(J:List D)(O:ByteArray)(q z:Int):Option D:=
 cw (cF call L C) O0 M3 FinM.canon Tryz.f142 [true,false,true,false] [] n (St.mk (D.slc K M J::D.str O::jn 5 (D.int .i64 q::D.int .i64 z::jn 10 [])) (zn 19 []))
theorem s5(call:CL)(L:Nat)(C:Nat→Nat)(n:Nat)(O:Bool)(K:Nat)(J:List D)(M:ByteArray)(z q:Int):rO call L C (n+1) O K J M z q=
 (bz (decide (q<z))
 (bH (decide (0≤q∧q<(K:Int)))
 (bu J (Int.toNat q*1) fun d=>bU d fun s=>bz (ByteArray.toList M==ByteArray.toList s)
 (some (D.int .i64 q))
 (rO call L C n O K J M z (IntKind.wrap .i64 (q+1)))))
 (some (D.int .i64 (-1)))):=by kernel_rfl
theorem Jt(call:CL)(L:Nat)(C:Nat→Nat)(J:Bool)(q:Nat)(z:List D)(K:ByteArray):bT (cF call L C) O0 M3 FinM.canon Tryz.f142 [D.slc J q z,D.str K]=
 (rO call L C L J q z K ((q:Int)) 0):=by kernel_rfl
theorem M4(call:CL)(L:Nat)(C:Nat→Nat):bT (cF call L C) O0 N0 FinM.canon Tryz.f44 []=
 (some (D.slc true 6 [D.str (ByteArray.mk #[103,114,101,101,110]),D.str (ByteArray.mk #[116,101,101]),D.str (ByteArray.mk #[98,117,110,107,101,114]),D.str (ByteArray.mk #[119,97,116,101,114]),D.str (ByteArray.mk #[102,97,105,114,119,97,121]),D.str (ByteArray.mk #[114,111,117,103,104])])):=by kernel_rfl
def Uu:bY:=fun p=>match p with
 |58=>nm [0,3,4] [] []
 |_=>none
noncomputable def xC(call:CL)(L:Nat)(C:Nat→Nat)(q:Nat)(vs:ByteArray)(M:Bool)(O:Nat)(K:List D)(z:Int):Option D:=
 cw (cF call L C) O0 Uu FinM.canon Tryz.f29 (bt 5 11) [] q (St.mk (D.str vs::J::J::D.slc M O K::D.int .i64 z::jn 13 []) (zn 18 []))
theorem vR(call:CL)(L:Nat)(C:Nat→Nat)(K:Nat)(vs:ByteArray)(M:Bool)(z:Nat)(J:List D)(q:Int):xC call L C (K+1) vs M z J q=
 (bz (decide (q<(z:Int)))
 (bH (decide (0≤q∧q<(z:Int)))
 (bu J (Int.toNat q*1) fun d=>bU d fun s=>bz (ByteArray.toList s==ByteArray.toList vs)
 (some (D.bool true))
 (xC call L C K vs M z J (IntKind.wrap .i64 (q+1)))))
 (some (D.bool false))):=by kernel_rfl
theorem M5(call:CL)(L:Nat)(C:Nat→Nat)(vs:ByteArray):bT (cF call L C) O0 Uu FinM.canon Tryz.f29 [D.str vs]=
 (bB (call 44 []) fun r=>dr r fun f n c=>xC call L C L vs f n c 0):=by kernel_rfl
def BE:bY:=fun p=>match p with
 |26=>nm [1,2,10,11] [9] [2,9]
 |6758=>nm [1,2,7,10,11,15,16,17] [9] [2,9]
 |_=>none
noncomputable def j9(call:CL)(L:Nat)(C:Nat→Nat)(n M:Nat)(a3:List D)(t11:Int)(z:Bool)(K:Nat)(q:List D)(U:ByteArray)(V W X Y:Int)(a1:Bool)(a2:Nat)(a0:List D)(a4:ByteArray)(O S:Int):Option D:=
 cw (cF call L C) O0 BE FinM.canon Tryz.f78 (bt 12 1637) [n] M (St.mk (J::D.fn (Fn.func 79) [] [D.snap a3 0]::D.loc 2 0 0::J::J::J::J::D.str a4::J::J::D.agg [D.str (ByteArray.mk #[103,114,101,101,110]),D.str (ByteArray.mk #[116,101,101]),D.str (ByteArray.mk #[98,117,110,107,101,114]),D.str (ByteArray.mk #[119,97,116,101,114]),D.str (ByteArray.mk #[102,97,105,114,119,97,121]),D.str (ByteArray.mk #[114,111,117,103,104])]::D.int .i64 t11::J::J::J::D.slc z K q::D.int .i64 O::D.int .i64 S::jn 17 []) (Z::Z::(1,some (Ob.box [D.str U,D.int .i64 V,D.int .i64 W,D.int .i64 X,D.int .i64 Y,D.slc a1 a2 a0,D.slc z K q] false))::zn 32 []))
noncomputable def ox(call:CL)(L:Nat)(C:Nat→Nat)(n:Nat)(a0:List D)(q:ByteArray)(z K M O:Int)(U:Bool)(V:Nat)(S:List D)(X:Bool)(Y:Nat)(W:List D)(t11:Int):Option D:=
 cw (cF call L C) O0 BE FinM.canon Tryz.f78 [true,false,true,false] [] n (St.mk (J::D.fn (Fn.func 79) [] [D.snap a0 0]::D.loc 2 0 0::jn 7 (D.agg [D.str (ByteArray.mk #[103,114,101,101,110]),D.str (ByteArray.mk #[116,101,101]),D.str (ByteArray.mk #[98,117,110,107,101,114]),D.str (ByteArray.mk #[119,97,116,101,114]),D.str (ByteArray.mk #[102,97,105,114,119,97,121]),D.str (ByteArray.mk #[114,111,117,103,104])]::D.int .i64 t11::jn 23 [])) (Z::Z::(1,some (Ob.box [D.str q,D.int .i64 z,D.int .i64 K,D.int .i64 M,D.int .i64 O,D.slc U V S,D.slc X Y W] false))::zn 32 []))
theorem oy(call:CL)(L:Nat)(C:Nat→Nat)(n a2:Nat)(K:List D)(t11:Int)(a1:Bool)(J:Nat)(z:List D)(S:ByteArray)(U V W X:Int)(Z:Bool)(a0:Nat)(Y:List D)(M:ByteArray)(O q:Int):j9 call L C n (a2+1) K t11 a1 J z S U V W X Z a0 Y M O q=
 (bz (decide (q<O))
 (bH (decide (0≤q∧q<(J:Int)))
 (bu z (Int.toNat q*2+0) fun a4=>bU a4 fun a3=>bu z (Int.toNat q*2+1) fun a5=>dr a5 fun f a6 c=>bz (ByteArray.toList a3==ByteArray.toList M)
 (bB (call 79 [D.agg [D.str a3,D.slc f a6 c],D.snap K 0]) fun r=>ce r fun b=>bz b
 (some (D.tup [D.str M,D.int .i64 q]))
 (j9 call L C n a2 K t11 a1 J z S U V W X Z a0 Y M O (IntKind.wrap .i64 (q+1))))
 (j9 call L C n a2 K t11 a1 J z S U V W X Z a0 Y M O (IntKind.wrap .i64 (q+1)))))
 (ox call L C n K S U V W X Z a0 Y a1 J z (IntKind.wrap .i64 (t11+1)))):=by kernel_rfl
theorem s6(call:CL)(L:Nat)(C:Nat→Nat)(n:Nat)(Y:List D)(z:ByteArray)(J K M O:Int)(U:Bool)(V:Nat)(S:List D)(X:Bool)(q:Nat)(W:List D)(t11:Int):ox call L C (n+1) Y z J K M O U V S X q W t11=
 (bz (decide (t11<6))
 (bH (decide (0≤t11∧t11<(6:Int)))
 (bu ([D.str (ByteArray.mk #[103,114,101,101,110]),D.str (ByteArray.mk #[116,101,101]),D.str (ByteArray.mk #[98,117,110,107,101,114]),D.str (ByteArray.mk #[119,97,116,101,114]),D.str (ByteArray.mk #[102,97,105,114,119,97,121]),D.str (ByteArray.mk #[114,111,117,103,104])]) (Int.toNat t11) fun d=>bU d fun s=>j9 call L C n L Y t11 X q W z J K M O U V S s ((q:Int)) 0))
 (some (D.tup [D.str (ByteArray.mk #[111,117,116]),D.int .i64 (-1)]))):=by kernel_rfl
theorem Ju(call:CL)(L:Nat)(C:Nat→Nat)(q:ByteArray)(z J K M:Int)(S:Bool)(U:Nat)(O:List D)(W:Bool)(X:Nat)(V Y:List D):bT (cF call L C) O0 BE FinM.canon Tryz.f78 [D.agg [D.str q,D.int .i64 z,D.int .i64 J,D.int .i64 K,D.int .i64 M,D.slc S U O,D.slc W X V],D.fn (Fn.func 79) [] [D.snap Y 0]]=
 (ox call L C L Y q z J K M S U O W X V 0):=by kernel_rfl
noncomputable def ka(call:CL)(L:Nat)(C:Nat→Nat)(n M:Nat)(a3:List D)(t11:Int)(z:Bool)(K:Nat)(q:List D)(U:ByteArray)(V W X Y:Int)(a1:Bool)(a2:Nat)(a0:List D)(a4:ByteArray)(O S:Int):Option D:=
 cw (cF call L C) O0 BE FinM.canon Tryz.f78 (bt 12 1637) [n] M (St.mk (J::D.fn (Fn.func 87) [] [D.snap a3 0]::D.loc 2 0 0::J::J::J::J::D.str a4::J::J::D.agg [D.str (ByteArray.mk #[103,114,101,101,110]),D.str (ByteArray.mk #[116,101,101]),D.str (ByteArray.mk #[98,117,110,107,101,114]),D.str (ByteArray.mk #[119,97,116,101,114]),D.str (ByteArray.mk #[102,97,105,114,119,97,121]),D.str (ByteArray.mk #[114,111,117,103,104])]::D.int .i64 t11::J::J::J::D.slc z K q::D.int .i64 O::D.int .i64 S::jn 17 []) (Z::Z::(1,some (Ob.box [D.str U,D.int .i64 V,D.int .i64 W,D.int .i64 X,D.int .i64 Y,D.slc a1 a2 a0,D.slc z K q] false))::zn 32 []))
noncomputable def oz(call:CL)(L:Nat)(C:Nat→Nat)(n:Nat)(a0:List D)(q:ByteArray)(z K M O:Int)(U:Bool)(V:Nat)(S:List D)(X:Bool)(Y:Nat)(W:List D)(t11:Int):Option D:=
 cw (cF call L C) O0 BE FinM.canon Tryz.f78 [true,false,true,false] [] n (St.mk (J::D.fn (Fn.func 87) [] [D.snap a0 0]::D.loc 2 0 0::jn 7 (D.agg [D.str (ByteArray.mk #[103,114,101,101,110]),D.str (ByteArray.mk #[116,101,101]),D.str (ByteArray.mk #[98,117,110,107,101,114]),D.str (ByteArray.mk #[119,97,116,101,114]),D.str (ByteArray.mk #[102,97,105,114,119,97,121]),D.str (ByteArray.mk #[114,111,117,103,104])]::D.int .i64 t11::jn 23 [])) (Z::Z::(1,some (Ob.box [D.str q,D.int .i64 z,D.int .i64 K,D.int .i64 M,D.int .i64 O,D.slc U V S,D.slc X Y W] false))::zn 32 []))
theorem oA(call:CL)(L:Nat)(C:Nat→Nat)(n a2:Nat)(K:List D)(t11:Int)(a1:Bool)(J:Nat)(z:List D)(S:ByteArray)(U V W X:Int)(Z:Bool)(a0:Nat)(Y:List D)(M:ByteArray)(O q:Int):ka call L C n (a2+1) K t11 a1 J z S U V W X Z a0 Y M O q=
 (bz (decide (q<O))
 (bH (decide (0≤q∧q<(J:Int)))
 (bu z (Int.toNat q*2+0) fun a4=>bU a4 fun a3=>bu z (Int.toNat q*2+1) fun a5=>dr a5 fun f a6 c=>bz (ByteArray.toList a3==ByteArray.toList M)
 (bB (call 87 [D.agg [D.str a3,D.slc f a6 c],D.snap K 0]) fun r=>ce r fun b=>bz b
 (some (D.tup [D.str M,D.int .i64 q]))
 (ka call L C n a2 K t11 a1 J z S U V W X Z a0 Y M O (IntKind.wrap .i64 (q+1))))
 (ka call L C n a2 K t11 a1 J z S U V W X Z a0 Y M O (IntKind.wrap .i64 (q+1)))))
 (oz call L C n K S U V W X Z a0 Y a1 J z (IntKind.wrap .i64 (t11+1)))):=by kernel_rfl
theorem s8(call:CL)(L:Nat)(C:Nat→Nat)(n:Nat)(Y:List D)(z:ByteArray)(J K M O:Int)(U:Bool)(V:Nat)(S:List D)(X:Bool)(q:Nat)(W:List D)(t11:Int):oz call L C (n+1) Y z J K M O U V S X q W t11=
 (bz (decide (t11<6))
 (bH (decide (0≤t11∧t11<(6:Int)))
 (bu ([D.str (ByteArray.mk #[103,114,101,101,110]),D.str (ByteArray.mk #[116,101,101]),D.str (ByteArray.mk #[98,117,110,107,101,114]),D.str (ByteArray.mk #[119,97,116,101,114]),D.str (ByteArray.mk #[102,97,105,114,119,97,121]),D.str (ByteArray.mk #[114,111,117,103,104])]) (Int.toNat t11) fun d=>bU d fun s=>ka call L C n L Y t11 X q W z J K M O U V S s ((q:Int)) 0))
 (some (D.tup [D.str (ByteArray.mk #[111,117,116]),D.int .i64 (-1)]))):=by kernel_rfl
theorem Jv(call:CL)(L:Nat)(C:Nat→Nat)(q:ByteArray)(z J K M:Int)(S:Bool)(U:Nat)(O:List D)(W:Bool)(X:Nat)(V Y:List D):bT (cF call L C) O0 BE FinM.canon Tryz.f78 [D.agg [D.str q,D.int .i64 z,D.int .i64 J,D.int .i64 K,D.int .i64 M,D.slc S U O,D.slc W X V],D.fn (Fn.func 87) [] [D.snap Y 0]]=
 (oz call L C L Y q z J K M S U O W X V 0):=by kernel_rfl
noncomputable def kb(call:CL)(L:Nat)(C:Nat→Nat)(n M:Nat)(a3:List D)(t11:Int)(z:Bool)(K:Nat)(q:List D)(U:ByteArray)(V W X Y:Int)(a1:Bool)(a2:Nat)(a0:List D)(a4:ByteArray)(O S:Int):Option D:=
 cw (cF call L C) O0 BE FinM.canon Tryz.f78 (bt 12 1637) [n] M (St.mk (J::D.fn (Fn.func 88) [] [D.snap a3 0]::D.loc 2 0 0::J::J::J::J::D.str a4::J::J::D.agg [D.str (ByteArray.mk #[103,114,101,101,110]),D.str (ByteArray.mk #[116,101,101]),D.str (ByteArray.mk #[98,117,110,107,101,114]),D.str (ByteArray.mk #[119,97,116,101,114]),D.str (ByteArray.mk #[102,97,105,114,119,97,121]),D.str (ByteArray.mk #[114,111,117,103,104])]::D.int .i64 t11::J::J::J::D.slc z K q::D.int .i64 O::D.int .i64 S::jn 17 []) (Z::Z::(1,some (Ob.box [D.str U,D.int .i64 V,D.int .i64 W,D.int .i64 X,D.int .i64 Y,D.slc a1 a2 a0,D.slc z K q] false))::zn 32 []))
noncomputable def oB(call:CL)(L:Nat)(C:Nat→Nat)(n:Nat)(a0:List D)(q:ByteArray)(z K M O:Int)(U:Bool)(V:Nat)(S:List D)(X:Bool)(Y:Nat)(W:List D)(t11:Int):Option D:=
 cw (cF call L C) O0 BE FinM.canon Tryz.f78 [true,false,true,false] [] n (St.mk (J::D.fn (Fn.func 88) [] [D.snap a0 0]::D.loc 2 0 0::jn 7 (D.agg [D.str (ByteArray.mk #[103,114,101,101,110]),D.str (ByteArray.mk #[116,101,101]),D.str (ByteArray.mk #[98,117,110,107,101,114]),D.str (ByteArray.mk #[119,97,116,101,114]),D.str (ByteArray.mk #[102,97,105,114,119,97,121]),D.str (ByteArray.mk #[114,111,117,103,104])]::D.int .i64 t11::jn 23 [])) (Z::Z::(1,some (Ob.box [D.str q,D.int .i64 z,D.int .i64 K,D.int .i64 M,D.int .i64 O,D.slc U V S,D.slc X Y W] false))::zn 32 []))
theorem oC(call:CL)(L:Nat)(C:Nat→Nat)(n a2:Nat)(K:List D)(t11:Int)(a1:Bool)(J:Nat)(z:List D)(S:ByteArray)(U V W X:Int)(Z:Bool)(a0:Nat)(Y:List D)(M:ByteArray)(O q:Int):kb call L C n (a2+1) K t11 a1 J z S U V W X Z a0 Y M O q=
 (bz (decide (q<O))
 (bH (decide (0≤q∧q<(J:Int)))
 (bu z (Int.toNat q*2+0) fun a4=>bU a4 fun a3=>bu z (Int.toNat q*2+1) fun a5=>dr a5 fun f a6 c=>bz (ByteArray.toList a3==ByteArray.toList M)
 (bB (call 88 [D.agg [D.str a3,D.slc f a6 c],D.snap K 0]) fun r=>ce r fun b=>bz b
 (some (D.tup [D.str M,D.int .i64 q]))
 (kb call L C n a2 K t11 a1 J z S U V W X Z a0 Y M O (IntKind.wrap .i64 (q+1))))
 (kb call L C n a2 K t11 a1 J z S U V W X Z a0 Y M O (IntKind.wrap .i64 (q+1)))))
 (oB call L C n K S U V W X Z a0 Y a1 J z (IntKind.wrap .i64 (t11+1)))):=by kernel_rfl
theorem s9(call:CL)(L:Nat)(C:Nat→Nat)(n:Nat)(Y:List D)(z:ByteArray)(J K M O:Int)(U:Bool)(V:Nat)(S:List D)(X:Bool)(q:Nat)(W:List D)(t11:Int):oB call L C (n+1) Y z J K M O U V S X q W t11=
 (bz (decide (t11<6))
 (bH (decide (0≤t11∧t11<(6:Int)))
 (bu ([D.str (ByteArray.mk #[103,114,101,101,110]),D.str (ByteArray.mk #[116,101,101]),D.str (ByteArray.mk #[98,117,110,107,101,114]),D.str (ByteArray.mk #[119,97,116,101,114]),D.str (ByteArray.mk #[102,97,105,114,119,97,121]),D.str (ByteArray.mk #[114,111,117,103,104])]) (Int.toNat t11) fun d=>bU d fun s=>kb call L C n L Y t11 X q W z J K M O U V S s ((q:Int)) 0))
 (some (D.tup [D.str (ByteArray.mk #[111,117,116]),D.int .i64 (-1)]))):=by kernel_rfl
theorem Jw(call:CL)(L:Nat)(C:Nat→Nat)(q:ByteArray)(z J K M:Int)(S:Bool)(U:Nat)(O:List D)(W:Bool)(X:Nat)(V Y:List D):bT (cF call L C) O0 BE FinM.canon Tryz.f78 [D.agg [D.str q,D.int .i64 z,D.int .i64 J,D.int .i64 K,D.int .i64 M,D.slc S U O,D.slc W X V],D.fn (Fn.func 88) [] [D.snap Y 0]]=
 (oB call L C L Y q z J K M S U O W X V 0):=by kernel_rfl
noncomputable def ke(call:CL)(L:Nat)(C:Nat→Nat)(n M:Nat)(a3:List D)(t11:Int)(z:Bool)(K:Nat)(q:List D)(U:ByteArray)(V W X Y:Int)(a1:Bool)(a2:Nat)(a0:List D)(a4:ByteArray)(O S:Int):Option D:=
 cw (cF call L C) O0 BE FinM.canon Tryz.f78 (bt 12 1637) [n] M (St.mk (J::D.fn (Fn.func 101) [] [D.snap a3 0]::D.loc 2 0 0::J::J::J::J::D.str a4::J::J::D.agg [D.str (ByteArray.mk #[103,114,101,101,110]),D.str (ByteArray.mk #[116,101,101]),D.str (ByteArray.mk #[98,117,110,107,101,114]),D.str (ByteArray.mk #[119,97,116,101,114]),D.str (ByteArray.mk #[102,97,105,114,119,97,121]),D.str (ByteArray.mk #[114,111,117,103,104])]::D.int .i64 t11::J::J::J::D.slc z K q::D.int .i64 O::D.int .i64 S::jn 17 []) (Z::Z::(1,some (Ob.box [D.str U,D.int .i64 V,D.int .i64 W,D.int .i64 X,D.int .i64 Y,D.slc a1 a2 a0,D.slc z K q] false))::zn 32 []))
noncomputable def oD(call:CL)(L:Nat)(C:Nat→Nat)(n:Nat)(a0:List D)(q:ByteArray)(z K M O:Int)(U:Bool)(V:Nat)(S:List D)(X:Bool)(Y:Nat)(W:List D)(t11:Int):Option D:=
 cw (cF call L C) O0 BE FinM.canon Tryz.f78 [true,false,true,false] [] n (St.mk (J::D.fn (Fn.func 101) [] [D.snap a0 0]::D.loc 2 0 0::jn 7 (D.agg [D.str (ByteArray.mk #[103,114,101,101,110]),D.str (ByteArray.mk #[116,101,101]),D.str (ByteArray.mk #[98,117,110,107,101,114]),D.str (ByteArray.mk #[119,97,116,101,114]),D.str (ByteArray.mk #[102,97,105,114,119,97,121]),D.str (ByteArray.mk #[114,111,117,103,104])]::D.int .i64 t11::jn 23 [])) (Z::Z::(1,some (Ob.box [D.str q,D.int .i64 z,D.int .i64 K,D.int .i64 M,D.int .i64 O,D.slc U V S,D.slc X Y W] false))::zn 32 []))
theorem oE(call:CL)(L:Nat)(C:Nat→Nat)(n a2:Nat)(K:List D)(t11:Int)(a1:Bool)(J:Nat)(z:List D)(S:ByteArray)(U V W X:Int)(Z:Bool)(a0:Nat)(Y:List D)(M:ByteArray)(O q:Int):ke call L C n (a2+1) K t11 a1 J z S U V W X Z a0 Y M O q=
 (bz (decide (q<O))
 (bH (decide (0≤q∧q<(J:Int)))
 (bu z (Int.toNat q*2+0) fun a4=>bU a4 fun a3=>bu z (Int.toNat q*2+1) fun a5=>dr a5 fun f a6 c=>bz (ByteArray.toList a3==ByteArray.toList M)
 (bB (call 101 [D.agg [D.str a3,D.slc f a6 c],D.snap K 0]) fun r=>ce r fun b=>bz b
 (some (D.tup [D.str M,D.int .i64 q]))
 (ke call L C n a2 K t11 a1 J z S U V W X Z a0 Y M O (IntKind.wrap .i64 (q+1))))
 (ke call L C n a2 K t11 a1 J z S U V W X Z a0 Y M O (IntKind.wrap .i64 (q+1)))))
 (oD call L C n K S U V W X Z a0 Y a1 J z (IntKind.wrap .i64 (t11+1)))):=by kernel_rfl
theorem ta(call:CL)(L:Nat)(C:Nat→Nat)(n:Nat)(Y:List D)(z:ByteArray)(J K M O:Int)(U:Bool)(V:Nat)(S:List D)(X:Bool)(q:Nat)(W:List D)(t11:Int):oD call L C (n+1) Y z J K M O U V S X q W t11=
 (bz (decide (t11<6))
 (bH (decide (0≤t11∧t11<(6:Int)))
 (bu ([D.str (ByteArray.mk #[103,114,101,101,110]),D.str (ByteArray.mk #[116,101,101]),D.str (ByteArray.mk #[98,117,110,107,101,114]),D.str (ByteArray.mk #[119,97,116,101,114]),D.str (ByteArray.mk #[102,97,105,114,119,97,121]),D.str (ByteArray.mk #[114,111,117,103,104])]) (Int.toNat t11) fun d=>bU d fun s=>ke call L C n L Y t11 X q W z J K M O U V S s ((q:Int)) 0))
 (some (D.tup [D.str (ByteArray.mk #[111,117,116]),D.int .i64 (-1)]))):=by kernel_rfl
theorem Jy(call:CL)(L:Nat)(C:Nat→Nat)(q:ByteArray)(z J K M:Int)(S:Bool)(U:Nat)(O:List D)(W:Bool)(X:Nat)(V Y:List D):bT (cF call L C) O0 BE FinM.canon Tryz.f78 [D.agg [D.str q,D.int .i64 z,D.int .i64 J,D.int .i64 K,D.int .i64 M,D.slc S U O,D.slc W X V],D.fn (Fn.func 101) [] [D.snap Y 0]]=
 (oD call L C L Y q z J K M S U O W X V 0):=by kernel_rfl
theorem M6(call:CL)(L:Nat)(C:Nat→Nat)(M:ByteArray)(J:Bool)(K:Nat)(z:List D)(q t11:Int):bT (cF call L C) O0 N0 FinM.canon Tryz.f79 [D.agg [D.str M,D.slc J K z],D.snap [D.int .i64 q,D.int .i64 t11] 0]=
 (bB (call 80 [D.slc J K z,D.agg [D.int .i64 q,D.int .i64 t11]]) fun r=>bD .i64 r fun x=>some (D.bool (decide (x≥0)))):=by kernel_rfl
theorem M7(call:CL)(L:Nat)(C:Nat→Nat)(a0:ByteArray)(J:Bool)(K:Nat)(z:List D)(M:ByteArray)(t11 q O S:Int)(V:Bool)(W:Nat)(U:List D)(Y:Bool)(Z:Nat)(X:List D):bT (cF call L C) O0 N0 FinM.canon Tryz.f87 [D.agg [D.str a0,D.slc J K z],D.snap [D.str M,D.int .i64 t11,D.int .i64 q,D.int .i64 O,D.int .i64 S,D.slc V W U,D.slc Y Z X] 0]=
 (bB (call 80 [D.slc J K z,D.agg [D.int .i64 t11,D.int .i64 q]]) fun r=>bD .i64 r fun x=>some (D.bool (decide (x≥0)))):=by kernel_rfl
theorem M8(call:CL)(L:Nat)(C:Nat→Nat)(a0:ByteArray)(K:Bool)(M:Nat)(J:List D)(O:ByteArray)(t11 S q z:Int)(V:Bool)(W:Nat)(U:List D)(Y:Bool)(Z:Nat)(X:List D):bT (cF call L C) O0 N0 FinM.canon Tryz.f88 [D.agg [D.str a0,D.slc K M J],D.snap [D.str O,D.int .i64 t11,D.int .i64 S,D.int .i64 q,D.int .i64 z,D.slc V W U,D.slc Y Z X] 0]=
 (bB (call 80 [D.slc K M J,D.agg [D.int .i64 q,D.int .i64 z]]) fun r=>bD .i64 r fun x=>some (D.bool (decide (x≥0)))):=by kernel_rfl
theorem Jz(call:CL)(L:Nat)(C:Nat→Nat)(M:ByteArray)(J:Bool)(K:Nat)(z:List D)(q t11:Int):bT (cF call L C) O0 N0 FinM.canon Tryz.f101 [D.agg [D.str M,D.slc J K z],D.snap [D.int .i64 q,D.int .i64 t11] 0]=
 (bB (call 80 [D.slc J K z,D.agg [D.int .i64 q,D.int .i64 t11]]) fun r=>bD .i64 r fun x=>some (D.bool (decide (x≥0)))):=by kernel_rfl
def Uv:bY:=fun p=>match p with
 |58=>nm [1,41,42,43] [5] [1,5]
 |_=>none
noncomputable def xD(call:CL)(L:Nat)(C:Nat→Nat)(n:Nat)(z:Bool)(K:Nat)(q:List D)(S:ByteArray)(U V W X:Int)(a0:Bool)(a1:Nat)(Y:List D)(M O:Int):Option D:=
 cw (cF call L C) O0 Uv FinM.canon Tryz.f21 (bt 5 11) [] n (St.mk (J::D.loc 1 0 0::jn 39 (D.slc z K q::D.int .i64 M::D.int .i64 O::jn 41 [])) (Z::(1,some (Ob.box [D.str S,D.int .i64 U,D.int .i64 V,D.int .i64 W,D.int .i64 X,D.slc a0 a1 Y,D.slc z K q] false))::zn 83 []))
theorem vS(call:CL)(L:Nat)(C:Nat→Nat)(n:Nat)(Y:Bool)(J:Nat)(q:List D)(K:ByteArray)(M O S U:Int)(W:Bool)(X:Nat)(V:List D)(Z z:Int):xD call L C (n+1) Y J q K M O S U W X V Z z=
 (bz (decide (z<Z))
 (bH (decide (0≤z∧z<(J:Int)))
 (bu q (Int.toNat z*2+0) fun d=>bU d fun s=>bu q (Int.toNat z*2+1) fun a5=>dr a5 fun f aa c=>bB (call 86 [D.slc true 6 [D.str (ByteArray.mk #[103,114,101,101,110]),D.str (ByteArray.mk #[116,101,101]),D.str (ByteArray.mk #[98,117,110,107,101,114]),D.str (ByteArray.mk #[119,97,116,101,114]),D.str (ByteArray.mk #[102,97,105,114,119,97,121]),D.str (ByteArray.mk #[114,111,117,103,104])],D.str s]) fun ah=>ce ah fun a4=>bB (call 84 [D.bool !a4,D.int .i64 13]) fun ai=>bD .i64 ai fun ao=>bB (call 50 [D.slc f aa c]) fun aj=>bD .i64 aj fun ap=>bB (call 76 [D.slc true 2 [D.int .i64 ao,D.int .i64 ap]]) fun ab=>bD .i64 ab fun a3=>bz (a3 !=0)
 (some (D.int .i64 a3))
 (xD call L C n Y J q K M O S U W X V Z (IntKind.wrap .i64 (z+1)))))
 (bB (call 78 [D.agg [D.str K,D.int .i64 M,D.int .i64 O,D.int .i64 S,D.int .i64 U,D.slc W X V,D.slc Y J q],D.fn (Fn.func 87) [] [D.snap [D.str K,D.int .i64 M,D.int .i64 O,D.int .i64 S,D.int .i64 U,D.slc W X V,D.slc Y J q] 0]]) fun ac=>cy ac 2 fun a0=>bu a0 0 fun a6=>bU a6 fun a2=>bu a0 1 fun a7=>bD .i64 a7 fun _x_9=>bB (call 78 [D.agg [D.str K,D.int .i64 M,D.int .i64 O,D.int .i64 S,D.int .i64 U,D.slc W X V,D.slc Y J q],D.fn (Fn.func 88) [] [D.snap [D.str K,D.int .i64 M,D.int .i64 O,D.int .i64 S,D.int .i64 U,D.slc W X V,D.slc Y J q] 0]]) fun ad=>cy ad 2 fun a1=>bu a1 0 fun a8=>bU a8 fun ak=>bu a1 1 fun a9=>bD .i64 a9 fun _x_10=>bz (ByteArray.toList a2==ByteArray.toList (ByteArray.mk #[119,97,116,101,114]))
 (bB (call 84 [D.bool true,D.int .i64 17]) fun ae=>bD .i64 ae fun al=>some (D.int .i64 al))
 (bz (ByteArray.toList a2==ByteArray.toList (ByteArray.mk #[111,117,116]))
 (bB (call 84 [D.bool true,D.int .i64 17]) fun af=>bD .i64 af fun am=>some (D.int .i64 am))
 (bB (call 84 [D.bool !ByteArray.toList ak==ByteArray.toList (ByteArray.mk #[103,114,101,101,110]),D.int .i64 17]) fun ag=>bD .i64 ag fun an=>some (D.int .i64 an))))):=by kernel_rfl
theorem M9(call:CL)(L:Nat)(C:Nat→Nat)(J:ByteArray)(K M O S:Int)(V:Bool)(q:Nat)(U:List D)(X:Bool)(z:Nat)(W:List D):bT (cF call L C) O0 Uv FinM.canon Tryz.f21 [D.agg [D.str J,D.int .i64 K,D.int .i64 M,D.int .i64 O,D.int .i64 S,D.slc V q U,D.slc X z W]]=
 (bB (call 85 [D.str J]) fun r=>ce r fun b=>bB (call 84 [D.bool !b,D.int .i64 8]) fun Z=>bD .i64 Z fun x=>bB (call 77 [D.slc true 2 [D.int .i64 K,D.int .i64 M,D.int .i64 O,D.int .i64 S]]) fun a0=>bD .i64 a0 fun a5=>bB (call 84 [D.bool (decide ((q:Int)>16)),D.int .i64 5]) fun a1=>bD .i64 a1 fun a6=>bB (call 77 [D.slc V q U]) fun a2=>bD .i64 a2 fun a7=>bB (call 84 [D.bool (decide ((z:Int)>32)),D.int .i64 5]) fun a3=>bD .i64 a3 fun a8=>bB (call 76 [D.slc true 5 [D.int .i64 x,D.int .i64 a5,D.int .i64 a6,D.int .i64 a7,D.int .i64 a8]]) fun a4=>bD .i64 a4 fun Y=>bz (Y !=0)
 (some (D.int .i64 Y))
 (xD call L C L X z W J K M O S V q U ((z:Int)) 0)):=by kernel_rfl
theorem Na(call:CL)(L:Nat)(C:Nat→Nat)(q:ByteArray):bT (cF call L C) O0 N0 FinM.canon Tryz.f93 [D.str q]=
 (bz (!ByteArray.toList q==ByteArray.toList (ByteArray.mk #[111,117,116]))
 (bB (call 86 [D.slc true 6 [D.str (ByteArray.mk #[103,114,101,101,110]),D.str (ByteArray.mk #[116,101,101]),D.str (ByteArray.mk #[98,117,110,107,101,114]),D.str (ByteArray.mk #[119,97,116,101,114]),D.str (ByteArray.mk #[102,97,105,114,119,97,121]),D.str (ByteArray.mk #[114,111,117,103,104])],D.str q]) fun r=>ce r fun b=>bB (call 84 [D.bool !b,D.int .i64 13]) fun z=>bD .i64 z fun x=>some (D.int .i64 x))
 (bB (call 84 [D.bool false,D.int .i64 13]) fun J=>bD .i64 J fun K=>some (D.int .i64 K))):=by kernel_rfl
theorem Nb(call:CL)(L:Nat)(C:Nat→Nat)(q:ByteArray)(z J K M:Int)(S:Bool)(U:Nat)(O:List D)(W:Bool)(X:Nat)(V:List D)(Y Z:Int):bT (cF call L C) O0 N0 FinM.canon Tryz.f19 [D.agg [D.str q,D.int .i64 z,D.int .i64 J,D.int .i64 K,D.int .i64 M,D.slc S U O,D.slc W X V],D.agg [D.int .i64 Y,D.int .i64 Z]]=
 (bB (call 21 [D.agg [D.str q,D.int .i64 z,D.int .i64 J,D.int .i64 K,D.int .i64 M,D.slc S U O,D.slc W X V]]) fun r=>bD .i64 r fun x=>bB (call 77 [D.slc true 1 [D.int .i64 Y,D.int .i64 Z]]) fun a2=>bD .i64 a2 fun a5=>bB (call 76 [D.slc true 2 [D.int .i64 x,D.int .i64 a5]]) fun a3=>bD .i64 a3 fun a0=>bz (a0 !=0)
 (some (D.tup [D.str (ByteArray.mk #[]),D.int .i64 0,D.int .i64 a0]))
 (bB (call 78 [D.agg [D.str q,D.int .i64 z,D.int .i64 J,D.int .i64 K,D.int .i64 M,D.slc S U O,D.slc W X V],D.fn (Fn.func 79) [] [D.snap [D.int .i64 Y,D.int .i64 Z] 0]]) fun a4=>cy a4 2 fun c=>bu c 0 fun d=>bU d fun s=>bu c 1 fun a1=>bD .i64 a1 fun a6=>some (D.tup [D.str s,D.int .i64 a6,D.int .i64 0]))):=by kernel_rfl
def Tw:bY:=fun p=>match p with
 |58=>nm [2,3,6,7] [] [2,3]
 |3730=>nm [2,3,6,7,8] [] [2,3]
 |_=>none
noncomputable def lZ(call:CL)(L:Nat)(C:Nat→Nat)(q z:Nat)(a5:Bool)(a6:Nat)(a4:List D)(vk:Int)(K:ByteArray)(M O S U:Int)(W:Bool)(X:Nat)(V:List D)(a0:Bool)(a1:Nat)(Y:List D)(a7 a8 vi:Int):Option D:=
 cw (cF call L C) O0 Tw FinM.canon Tryz.f25 (bt 11 587) [q] z (St.mk (J::J::D.loc 2 0 0::D.loc 3 0 0::J::J::D.slc a5 a6 a4::D.int .i64 vk::D.int .i64 vi::jn 41 []) (Z::Z::(1,some (Ob.box [D.str K,D.int .i64 M,D.int .i64 O,D.int .i64 S,D.int .i64 U,D.slc W X V,D.slc a0 a1 Y] false))::(1,some (Ob.box [D.int .i64 a7,D.int .i64 a8] false))::zn 46 []))
noncomputable def tc(call:CL)(L:Nat)(C:Nat→Nat)(q:Nat)(z:ByteArray)(K M O S:Int)(V:Bool)(W:Nat)(U:List D)(Y:Bool)(a0:Nat)(X:List D)(a5 a6:Int)(a3:Bool)(a4:Nat)(a2:List D)(vk:Int):Option D:=
 cw (cF call L C) O0 Tw FinM.canon Tryz.f25 (bt 5 11) [] q (St.mk (J::J::D.loc 2 0 0::D.loc 3 0 0::J::J::D.slc a3 a4 a2::D.int .i64 vk::jn 42 []) (Z::Z::(1,some (Ob.box [D.str z,D.int .i64 K,D.int .i64 M,D.int .i64 O,D.int .i64 S,D.slc V W U,D.slc Y a0 X] false))::(1,some (Ob.box [D.int .i64 a5,D.int .i64 a6] false))::zn 46 []))
theorem qK(call:CL)(L:Nat)(C:Nat→Nat)(V a6:Nat)(a5:Bool)(O:Nat)(M:List D)(z:Int)(W:ByteArray)(X Y Z a0:Int)(a2:Bool)(a3:Nat)(a1:List D)(a4:Bool)(J:Nat)(K:List D)(S U q:Int):lZ call L C V (a6+1) a5 O M z W X Y Z a0 a2 a3 a1 a4 J K S U q=
 (bz (decide (q<(J:Int)))
 (bH (decide (0≤q∧q<(J:Int)))
 (bu K (Int.toNat q*2+0) fun d=>bU d fun s=>bH (decide (0≤z∧z<(O:Int)))
 (bu M (Int.toNat z*1) fun a8=>bU a8 fun ae=>bz (ByteArray.toList s==ByteArray.toList ae)
 (bH (decide (0≤q∧q<(J:Int)))
 (bu K (Int.toNat q*2+1) fun a9=>dr a9 fun ab ac a7=>bB (call 54 [D.slc ab ac a7,D.agg [D.int .i64 S,D.int .i64 U]]) fun ad=>bD .i64 ad fun x=>bz (decide (x≥0))
 (bH (decide (0≤z∧z<(O:Int)))
 (bu M (Int.toNat z*1) fun aa=>bU aa fun af=>some (D.tup [D.str af,D.int .i64 q])))
 (lZ call L C V a6 a5 O M z W X Y Z a0 a2 a3 a1 a4 J K S U (IntKind.wrap .i64 (q+1)))))
 (lZ call L C V a6 a5 O M z W X Y Z a0 a2 a3 a1 a4 J K S U (IntKind.wrap .i64 (q+1))))))
 (tc call L C V W X Y Z a0 a2 a3 a1 a4 J K S U a5 O M (IntKind.wrap .i64 (z+1)))):=by kernel_rfl
theorem vT(call:CL)(L:Nat)(C:Nat→Nat)(J:Nat)(K:ByteArray)(M O S U:Int)(W:Bool)(X:Nat)(V:List D)(Z:Bool)(a0:Nat)(Y:List D)(a3 a4:Int)(a2:Bool)(z:Nat)(a1:List D)(q:Int):tc call L C (J+1) K M O S U W X V Z a0 Y a3 a4 a2 z a1 q=
 (bz (decide (q<(z:Int)))
 (lZ call L C J L a2 z a1 q K M O S U W X V Z a0 Y a3 a4 0)
 (some (D.tup [D.str (ByteArray.mk #[111,117,116]),D.int .i64 (-1)]))):=by kernel_rfl
theorem Nc(call:CL)(L:Nat)(C:Nat→Nat)(q:ByteArray)(z J K M:Int)(S:Bool)(U:Nat)(O:List D)(W:Bool)(X:Nat)(V:List D)(Y Z:Int):bT (cF call L C) O0 Tw FinM.canon Tryz.f25 [D.agg [D.str q,D.int .i64 z,D.int .i64 J,D.int .i64 K,D.int .i64 M,D.slc S U O,D.slc W X V],D.agg [D.int .i64 Y,D.int .i64 Z]]=
 (bB (call 44 []) fun r=>dr r fun f n c=>tc call L C L q z J K M S U O W X V Y Z f n c 0):=by kernel_rfl
def QM:bY:=fun p=>match p with
 |15=>nm [1] [] [1]
 |250=>nm [1,3] [] [1]
 |1018=>nm [1,4] [] [1]
 |_=>none
noncomputable def l5(call:CL)(L:Nat)(C:Nat→Nat)(q:Nat)(z:ByteArray)(K M O S:Int)(V:Bool)(W:Nat)(U:List D)(Y:Bool)(a0:Nat)(X:List D)(a1:Int):Option D:=
 cw (cF call L C) O0 QM FinM.canon Tryz.f18 (bt 9 191) [] q (St.mk (J::D.loc 1 0 0::J::J::D.int .i64 a1::jn 90 []) (Z::(1,some (Ob.box [D.str z,D.int .i64 K,D.int .i64 M,D.int .i64 O,D.int .i64 S,D.slc V W U,D.slc Y a0 X] false))::zn 93 []))
noncomputable def rP(call:CL)(L:Nat)(C:Nat→Nat)(q:Nat)(z:ByteArray)(K M O S:Int)(V:Bool)(W:Nat)(U:List D)(Y:Bool)(a0:Nat)(X:List D)(vi:Int):Option D:=
 cw (cF call L C) O0 QM FinM.canon Tryz.f18 (bt 7 47) [] q (St.mk (J::D.loc 1 0 0::J::D.int .i64 vi::jn 91 []) (Z::(1,some (Ob.box [D.str z,D.int .i64 K,D.int .i64 M,D.int .i64 O,D.int .i64 S,D.slc V W U,D.slc Y a0 X] false))::zn 93 []))
noncomputable def BU(call:CL)(L:Nat)(C:Nat→Nat)(q:ByteArray)(z K M O:Int)(U:Bool)(V:Nat)(S:List D)(X:Bool)(Y:Nat)(W:List D):Option D:=
 eL (cF call L C) O0 QM FinM.canon Tryz.f18 [true,true,true] [] (C 15) (St.mk (J::D.loc 1 0 0::jn 93 []) (Z::(1,some (Ob.box [D.str q,D.int .i64 z,D.int .i64 K,D.int .i64 M,D.int .i64 O,D.slc U V S,D.slc X Y W] false))::zn 93 []))
theorem qL(call:CL)(L:Nat)(C:Nat→Nat)(a1:Nat)(U:ByteArray)(K M O S:Int)(W:Bool)(X:Nat)(V:List D)(Y:Bool)(z:Nat)(J:List D)(q:Int):l5 call L C (a1+1) U K M O S W X V Y z J q=
 (bz (decide (q<(z:Int)))
 (bH (decide (0≤q∧q<(z:Int)))
 (bu J (Int.toNat q*2+0) fun a5=>bU a5 fun s=>bB (call 29 [D.str s]) fun ac=>ce ac fun a4=>bz (!a4)
 (some (D.int .i64 13))
 (bH (decide (0≤q∧q<(z:Int)))
 (bu J (Int.toNat q*2+1) fun a6=>dr a6 fun f ab c=>bB (call 49 [D.slc f ab c]) fun ad=>bD .i64 ad fun a3=>bz (a3 !=0)
 (some (D.int .i64 a3))
 (l5 call L C a1 U K M O S W X V Y z J (IntKind.wrap .i64 (q+1)))))))
 (bB (call 25 [D.agg [D.str U,D.int .i64 K,D.int .i64 M,D.int .i64 O,D.int .i64 S,D.slc W X V,D.slc Y z J],D.agg [D.int .i64 K,D.int .i64 M]]) fun ae=>cy ae 2 fun Z=>bu Z 0 fun a7=>bU a7 fun a2=>bu Z 1 fun a8=>bD .i64 a8 fun _x_6=>bB (call 25 [D.agg [D.str U,D.int .i64 K,D.int .i64 M,D.int .i64 O,D.int .i64 S,D.slc W X V,D.slc Y z J],D.agg [D.int .i64 O,D.int .i64 S]]) fun af=>cy af 2 fun a0=>bu a0 0 fun a9=>bU a9 fun ag=>bu a0 1 fun aa=>bD .i64 aa fun _x_7=>bz (ByteArray.toList a2==ByteArray.toList (ByteArray.mk #[119,97,116,101,114]))
 (some (D.int .i64 17))
 (bz (ByteArray.toList a2==ByteArray.toList (ByteArray.mk #[111,117,116]))
 (some (D.int .i64 17))
 (bz (!ByteArray.toList ag==ByteArray.toList (ByteArray.mk #[103,114,101,101,110]))
 (some (D.int .i64 17))
 (some (D.int .i64 0)))))):=by kernel_rfl
theorem tf(call:CL)(L:Nat)(C:Nat→Nat)(Z:Nat)(M:ByteArray)(O S U V:Int)(W:Bool)(J:Nat)(z:List D)(Y:Bool)(K:Nat)(X:List D)(q:Int):rP call L C (Z+1) M O S U V W J z Y K X q=
 (bz (decide (q<(J:Int)))
 (bH (decide (0≤q∧q<(J:Int)))
 (bu z (Int.toNat q*2+0) fun d=>bD .i64 d fun a2=>bu z (Int.toNat q*2+1) fun a0=>bD .i64 a0 fun a3=>bB (call 24 [D.agg [D.int .i64 a2,D.int .i64 a3]]) fun a1=>bD .i64 a1 fun a4=>bz (a4 !=0)
 (some (D.int .i64 3))
 (rP call L C Z M O S U V W J z Y K X (IntKind.wrap .i64 (q+1)))))
 (bz (decide ((K:Int)>32))
 (some (D.int .i64 5))
 (l5 call L C L M O S U V W J z Y K X 0))):=by kernel_rfl
theorem EF(call:CL)(L:Nat)(C:Nat→Nat)(z:ByteArray)(J K M O:Int)(U:Bool)(q:Nat)(S:List D)(W:Bool)(X:Nat)(V:List D)(hC:∀t,C t=1):BU call L C z J K M O U q S W X V=
 (bz (decide ((q:Int)>16))
 (some (D.int .i64 5))
 (rP call L C L z J K M O U q S W X V 0)):=by
 unfold BU;rw[hC]
 kernel_rfl
theorem Nd(call:CL)(L:Nat)(C:Nat→Nat)(q:ByteArray)(z J K M:Int)(S:Bool)(U:Nat)(O:List D)(W:Bool)(X:Nat)(V:List D):bT (cF call L C) O0 QM FinM.canon Tryz.f18 [D.agg [D.str q,D.int .i64 z,D.int .i64 J,D.int .i64 K,D.int .i64 M,D.slc S U O,D.slc W X V]]=
 (bB (call 75 [D.str q]) fun r=>ce r fun b=>bz (!b)
 (some (D.int .i64 8))
 (bB (call 24 [D.agg [D.int .i64 z,D.int .i64 J]]) fun Y=>bD .i64 Y fun x=>bz (x !=0)
 (some (D.int .i64 3))
 (bB (call 24 [D.agg [D.int .i64 K,D.int .i64 M]]) fun Z=>bD .i64 Z fun a0=>bz (a0 !=0)
 (some (D.int .i64 3))
 (BU call L C q z J K M S U O W X V)))):=by kernel_rfl
end Go.Pd
end
section
namespace Go.Pd
open Go Go.Proofs Go.RowKit
def gu(c:Int):Bool:=(decide (c≥97)&&decide (c≤122))||(decide (c≥65)&&decide (c≤90))
def jT(s:ByteArray)(i:Nat):Bool:=gu (cA s i)||(i !=0&&((decide (cA s i≥48)&&decide (cA s i≤57))||cA s i==95))
def gY(s:ByteArray):Nat→Nat→Bool
 |0,_=>true
 |m+1,i=>jT s i&&gY s m (i+1)
def gj(s:ByteArray):Bool:=bz (decide ((s.size:Int)<1)) false (bz (decide ((s.size:Int)>24)) false (gY s s.size 0))
theorem Uw{call:CL}{s:ByteArray}(hs:s.size≤24):∀(m i fuel:Nat),i+m=s.size→m<fuel→xB call LL C1 fuel s i=some (.bool (gY s m i)):=by
 intro m
 induction m with
 |zero=>
  intro i fuel hi hf;cases fuel with
  |zero=>exact absurd hf (Nat.not_lt_zero _)
  |succ fuel=>
   have h1:decide ((i:Int)<(s.size:Int))=false:=by simp;omega
   rw[vQ,h1,bv];rfl
 |succ m ih=>
  intro i fuel hi hf;cases fuel with
  |zero=>exact absurd hf (Nat.not_lt_zero _)
  |succ fuel=>
   have h1:decide ((i:Int)<(s.size:Int))=true:=by simp;omega
   have h2:decide ((0:Int)≤i∧Int.toNat (i:Int)<s.size)=true:=by simp;omega
   have hw:IntKind.wrap .i64 ((i:Int)+1)=((i+1:Nat):Int):=by rw[bS (by omega)];rfl
   have ih:=ih (i+1) fuel (by omega) (by omega);have h467:kW call LL C1 fuel s i=some (.bool (gY s m (i+1))):=by
    rw[BT _ _ _ _ _ _ (fun _=>rfl:∀t,C1 t=1),hw,ih]
   have h37:∀(c:Int) (b:Bool),ip call LL C1 fuel s i c b=some (.bool ((b||(i !=0&&((decide (c≥48)&&decide (c≤57))||c==95)))&&gY s m (i+1))):=fun c b=>by
    rw[zi _ _ _ _ _ _ _ _ (fun _=>rfl:∀t,C1 t=1),h467];have hz:((i:Int)==0)= !(i !=0):=by
     cases i<;>rfl
    rw[hz];generalize (i !=0)=q1;generalize decide (c≥48)=q2;generalize decide (c≤57)=q3;generalize (c==95)=q4;cases b<;>cases q1<;>cases q2<;>cases q3<;>cases q4<;>rfl
   rw[vQ,h1,bx,h2,bC,h37,h37,h37,show Int.toNat (i:Int)=i by simp];show _=some (D.bool (jT s i&&gY s m (i+1)));unfold jT gu;generalize (i !=0&&((decide (cA s i≥48)&&decide (cA s i≤57))||cA s i==95))=q0;generalize decide (cA s i≥97)=q1;generalize decide (cA s i≤122)=q2;generalize decide (cA s i≥65)=q3;generalize decide (cA s i≤90)=q4;cases q1<;>cases q2<;>cases q3<;>cases q4<;>rfl
theorem Ux(s:ByteArray):OK2 75 [.str s] (.bool (gj s)):=by
 refine dT cK Tryz.func75 (ord:=O0) (N:=PG) (by kernel_rfl) ((M1 _ _ _ s).trans ?_);unfold gj;cases decide ((s.size:Int)<1) with
 |true=>rfl
 |false=>
  rw[bv,bv];cases h2:decide ((s.size:Int)>24) with
  |true=>rfl
  |false=>
   simp only[decide_eq_false_iff_not] at h2;rw[bv,bv,Gc _ _ _ _ (fun _=>rfl:∀t,C1 t=1)];exact Uw (by omega) s.size 0 LL (by omega) (by unfold LL;omega)
theorem QN(c:Int):OK2 141 [.int .i32 c] (.bool (gu c)):=by
 refine dT cK Tryz.func141 (ord:=O0) (N:=N0) (by kernel_rfl) ((Js _ _ _ c).trans ?_);unfold gu;cases decide (c≥97)<;>cases decide (c≤122)<;>cases decide (c≥65)<;>cases decide (c≤90)<;>rfl
def JA:FuncId→List D→Option D:=fun k ds=>match k,ds with
 |141,[.int .i32 c]=>some (.bool (gu c))
 |_,_=>none
theorem JB:dA JA:=by
 intro k ds r h;unfold JA at h;split at h
 ·cases h;exact QN _
 ·cases h
theorem Uy(c:Int):bw JA 141 [.int .i32 c]=some (.bool (gu c)):=rfl
theorem tg{s:ByteArray}{i:Nat}(h:i<s.size):cA s i=(s[i]'h).toNat:=by
 unfold cA;have:s[i]?=some s[i]:=by simp[h]
 rw[this]
theorem Uz{s:ByteArray}:∀(m i fuel:Nat),i+m=s.size→m<fuel→qa (bw JA) LL C1 fuel s i=some (.bool (gY s m i&&(!(ByteArray.toList s==ByteArray.toList (ByteArray.mk #[]))&&decide ((s.size:Int)≤24)))):=by
 intro m
 induction m with
 |zero=>
  intro i fuel hi hf;cases fuel with
  |zero=>exact absurd hf (Nat.not_lt_zero _)
  |succ fuel=>
   have h1:decide (i<s.size)=false:=by simp;omega
   rw[vP,h1,bv];show _=some (D.bool (true&&_));cases (ByteArray.toList s==ByteArray.toList (ByteArray.mk #[]))<;>rfl
 |succ m ih=>
  intro i fuel hi hf;cases fuel with
  |zero=>exact absurd hf (Nat.not_lt_zero _)
  |succ fuel=>
   have hlt:i<s.size:=by omega
   have h1:decide (i<s.size)=true:=by simpa using hlt
   have hz:((i:Int)==0)= !(i !=0):=by cases i<;>rfl
   have hb:=tg hlt;rw[vP,h1,bx,Uy,bA,cj,hz];show _=some (D.bool ((jT s i&&gY s m (i+1))&&_));by_cases ha:(s[i]'hlt).toNat<128
   ·have hd:=decode_ascii s i hlt ha;rw[hd];dsimp only;rw[ih (i+1) fuel (by omega) (by omega)];unfold jT;rw[hb];have e1:(((s[i]'hlt).toNat:Int) !=95)= !(((s[i]'hlt).toNat:Int)==95):=rfl;have e2:decide (((s[i]'hlt).toNat:Int)≥48)= !decide (((s[i]'hlt).toNat:Int)<48):=by
     by_cases h:((s[i]'hlt).toNat:Int)<48
     ·rw[show decide (((s[i]'hlt).toNat:Int)<48)=true by simpa using h];simp;omega
     ·rw[show decide (((s[i]'hlt).toNat:Int)<48)=false by simpa using h];simp;omega
    have e3:decide (((s[i]'hlt).toNat:Int)≤57)= !decide (((s[i]'hlt).toNat:Int)>57):=by
     by_cases h:((s[i]'hlt).toNat:Int)>57
     ·rw[show decide (((s[i]'hlt).toNat:Int)>57)=true by simpa using h];simp;omega
     ·rw[show decide (((s[i]'hlt).toNat:Int)>57)=false by simpa using h];simp;omega
    rw[e1,e2,e3];generalize gu ((s[i]'hlt).toNat:Int)=q1;generalize (i !=0)=q2;generalize decide (((s[i]'hlt).toNat:Int)<48)=q3;generalize decide (((s[i]'hlt).toNat:Int)>57)=q4;generalize (((s[i]'hlt).toNat:Int)==95)=q5;generalize gY s m (i+1)=q6;cases q1<;>cases q2<;>cases q3<;>cases q4<;>cases q5<;>cases q6<;>rfl
   ·obtain⟨hd,_⟩:=decode_high s i hlt (by omega);generalize Utf8.decode s i=dd at hd;have l1:gu (dd.1:Int)=false:=by
     unfold gu;simp;omega
    have l2:((dd.1:Int) !=95)=true:=by simp;omega
    have l3:decide ((dd.1:Int)<48)=false:=by simp;omega
    have l4:decide ((dd.1:Int)>57)=true:=by simp;omega
    have n1:jT s i=false:=by
     unfold jT gu;rw[hb];simp;omega
    rw[l1,l2,l3,l4,n1];cases (i !=0)<;>rfl
theorem Gd(s:ByteArray):(gY s s.size 0&&(!(ByteArray.toList s==ByteArray.toList (ByteArray.mk #[]))&&decide ((s.size:Int)≤24)))=gj s:=by
 unfold gj;have h0:(ByteArray.toList s==ByteArray.toList (ByteArray.mk #[]))=decide ((s.size:Int)<1):=by
  rw[ByteArray.toList_eq,ByteArray.toList_eq];have hsz:s.data.toList.length=s.size:=by rw[Array.length_toList];rfl
  by_cases h:(s.size:Int)<1
  ·rw[show decide ((s.size:Int)<1)=true by simpa using h];have:s.data.toList=[]:=List.eq_nil_of_length_eq_zero (by omega);rw[this];rfl
  ·rw[show decide ((s.size:Int)<1)=false by simpa using h];cases hl:s.data.toList with
   |nil=>rw[hl] at hsz;simp at hsz;omega
   |cons x l=>rfl
 rw[h0];have h2:decide ((s.size:Int)≤24)= !decide ((s.size:Int)>24):=by
  by_cases h:(s.size:Int)>24
  ·rw[show decide ((s.size:Int)>24)=true by simpa using h];simp;omega
  ·rw[show decide ((s.size:Int)>24)=false by simpa using h];simp;omega
 rw[h2];cases decide ((s.size:Int)<1)<;>cases decide ((s.size:Int)>24)<;>cases gY s s.size 0<;>rfl
theorem UA(s:ByteArray)(hs:s.size<4611686018427387904):OK2 85 [.str s] (.bool (gj s)):=by
 refine dT JB Tryz.func85 (ord:=O0) (N:=Ut) (by kernel_rfl) ((M0 _ _ _ s).trans ?_);rw[←Gd];exact Uz s.size 0 LL (by omega) (by unfold LL;omega)
end Go.Pd
end
section
namespace Go.Pd
open Go Go.Proofs Go.RowKit
set_option maxRecDepth 100000
abbrev Ar:=ByteArray×Bool×List Pt
def Nf(a:Ar):List D:=[.str a.1,.slc a.2.1 a.2.2.length (bJ a.2.2)]
abbrev nC(a:Ar):D:= .agg [.str a.1,.slc a.2.1 a.2.2.length (bJ a.2.2)]
def bV(l:List Ar):List D:=l.flatMap Nf
section
variable {γ:Type}(pre:List Ar)(x:Ar)(r:List Ar){k:D→Option γ}
theorem a0:bu (bV (pre++x::r)) (Int.toNat (pre.length:Int)*2+0) k=k (.str x.1):=lT pre x r Nf 2 (fun _=>rfl) 0 (by omega) k
theorem a1:bu (bV (pre++x::r)) (Int.toNat (pre.length:Int)*2+1) k=k (.slc x.2.1 x.2.2.length (bJ x.2.2)):=lT pre x r Nf 2 (fun _=>rfl) 1 (by omega) k
end
theorem fT:∀{a b:List Pt},bJ a=bJ b→a=b
 |[],[],_=>rfl
 |[],y::b,h=>by cases h
 |x::a,[],h=>by cases h
 |x::a,y::b,h=>by
  have h:D.int .i64 x.1::D.int .i64 x.2::bJ a=D.int .i64 y.1::D.int .i64 y.2::bJ b:=h;simp only[zc5,D.int.injEq,true_and] at h;rw[fT h.2.2,show x=y from Prod.ext h.1 h.2.1]
theorem rQ{a b:Ar}(h:nC a=nC b):a=b:=by
 simp only[nC,D.agg.injEq,zc5,D.str.injEq,D.slc.injEq,and_true] at h;exact Prod.ext h.1 (Prod.ext h.2.1 (fT h.2.2.2))
structure Hl where
 name:ByteArray
 tee:Pt
 cup:Pt
 lf:Bool
 line:List Pt
 af:Bool
 areas:List Ar
def Hl.cells(h:Hl):List D:=[.str h.name,.int .i64 h.tee.1,.int .i64 h.tee.2,.int .i64 h.cup.1,.int .i64 h.cup.2,.slc h.lf h.line.length (bJ h.line),.slc h.af h.areas.length (bV h.areas)]
abbrev bQ(h:Hl):D:= .agg [.str h.name,.int .i64 h.tee.1,.int .i64 h.tee.2,.int .i64 h.cup.1,.int .i64 h.cup.2,.slc h.lf h.line.length (bJ h.line),.slc h.af h.areas.length (bV h.areas)]
abbrev nb(h:Hl):D:= .snap [.str h.name,.int .i64 h.tee.1,.int .i64 h.tee.2,.int .i64 h.cup.1,.int .i64 h.cup.2,.slc h.lf h.line.length (bJ h.line),.slc h.af h.areas.length (bV h.areas)] 0
structure Hl.Ok(h:Hl):Prop where
 n:h.name.size<4611686018427387904
 l:h.line.length≤1000
 a:h.areas.length≤1000
 c:∀a∈h.areas,a.2.2.length≤1000
def dn(a b:ByteArray):Bool:=ByteArray.toList a==ByteArray.toList b
def kinds6:List ByteArray:=[ByteArray.mk #[103,114,101,101,110],ByteArray.mk #[116,101,101],ByteArray.mk #[98,117,110,107,101,114],ByteArray.mk #[119,97,116,101,114],ByteArray.mk #[102,97,105,114,119,97,121],ByteArray.mk #[114,111,117,103,104]]
def th:ByteArray:=ByteArray.mk #[111,117,116]
def dF(l:List ByteArray):List D:=l.map D.str
def eA(has:Ar→Bool)(kind:ByteArray):List Ar→Nat→Option Nat
 |[],_=>none
 |a::r,i=>bz (dn a.1 kind) (bz (has a) (some i) (eA has kind r (i+1))) (eA has kind r (i+1))
def gO(has:Ar→Bool)(l:List Ar):List ByteArray→ByteArray×Int
 |[]=>(th,-1)
 |k::r=>match eA has k l 0 with
  |some i=>(k,(i:Int))
  |none=>gO has l r
def fH(x:ByteArray×Int):D:= .tup [.str x.1,.int .i64 x.2]
theorem oF{γ:Type}{pre r:List ByteArray}{x:ByteArray}{k:D→Option γ}:bu (dF (pre++x::r)) (Int.toNat (pre.length:Int)) k=k (.str x):=by
 refine cT ?_ k;simp[dF]
theorem ti{γ:Type}{pre r:List ByteArray}{x:ByteArray}{k:D→Option γ}:bu (dF (pre++x::r)) (Int.toNat (pre.length:Int)*1) k=k (.str x):=by
 rw[Nat.mul_one];exact oF
def EG(p:Pt)(a:Ar):Bool:=decide (gt p (ff a.2.2) (-1)≥0)
def iG(p:Pt)(a:Ar):Bool:=decide (m5 p (ff a.2.2) false≥0)
theorem tj{f g:Ar→Bool}{kind:ByteArray}:∀{l:List Ar} (i:Nat),(∀a∈l,f a=g a)→eA f kind l i=eA g kind l i
 |[],_,_=>rfl
 |a::l,i,h=>by
  unfold eA;rw[h a (za4 ..),tj (i+1) fun b hb=>h b (za5 _ hb)]
theorem to{f g:Ar→Bool}{l:List Ar}(h:∀a∈l,f a=g a):∀ks,gO f l ks=gO g l ks
 |[]=>rfl
 |k::ks=>by
  unfold gO;rw[tj 0 h,to h ks]
theorem Ng{call:CL}{has:Ar→Bool}{cs:List D}{h:Hl}(h1:∀a∈h.areas,call 79 [nC a,.snap cs 0]=some (.bool (has a)))(hl:h.areas.length≤1000){kind:ByteArray}{t11:Int}{n:Nat}:
  ∀(r pre:List Ar) (fuel:Nat),pre++r=h.areas→r.length<fuel→j9 call LL C1 n fuel cs t11 h.af h.areas.length (bV h.areas) h.name h.tee.1 h.tee.2 h.cup.1 h.cup.2 h.lf h.line.length (bJ h.line) kind (h.areas.length:Int) (pre.length:Int)=
   match eA has kind r pre.length with
   |some i=>some (fH (kind,(i:Int)))
   |none=>ox call LL C1 n cs h.name h.tee.1 h.tee.2 h.cup.1 h.cup.2 h.lf h.line.length (bJ h.line) h.af h.areas.length (bV h.areas) (IntKind.wrap .i64 (t11+1)):=by
 intro r
 induction r with
 |nil=>
  intro pre fuel hn hf;cases fuel with
  |zero=>exact absurd hf (Nat.not_lt_zero _)
  |succ fuel=>
   have hlen:pre.length=h.areas.length:=by rw[←hn];simp
   rw[oy,hlen,dH,bv];rfl
 |cons x r ih=>
  intro pre fuel hn hf;cases fuel with
  |zero=>exact absurd hf (Nat.not_lt_zero _)
  |succ fuel=>
   have ih:=ih (pre++[x]) fuel (by rw[gb];exact hn) (by simp at hf;omega);rw[za6,zb4] at ih;have hlt:pre.length<h.areas.length:=by rw[←hn];simp
   have e:call 79 [D.agg [.str x.1,.slc x.2.1 x.2.2.length (bJ x.2.2)],.snap cs 0]=some (.bool (has x)):=h1 x (by rw[←hn];simp);have c0:∀k:D→Option D,bu (bV h.areas) (Int.toNat (pre.length:Int)*2+0) k=k (.str x.1):=fun k=>by rw[←hn];exact a0 pre x r
   have c1':∀k:D→Option D,bu (bV h.areas) (Int.toNat (pre.length:Int)*2+1) k=k (.slc x.2.1 x.2.2.length (bJ x.2.2)):=fun k=>by rw[←hn];exact a1 pre x r
   rw[oy,dP hlt,bx,c5 hlt,bC,c0,bP,c1',cL,e,bA,cj,show IntKind.wrap .i64 ((pre.length:Int)+1)=((pre.length+1:Nat):Int) from cE _ 1 (by omega),ih];rw[show eA has kind (x::r) pre.length=bz (dn x.1 kind) (bz (has x) (some pre.length) (eA has kind r (pre.length+1))) (eA has kind r (pre.length+1)) from rfl];show bz (dn x.1 kind) _ _=_;cases dn x.1 kind
   ·rfl
   ·cases has x<;>rfl
theorem QO{call:CL}{has:Ar→Bool}{cs:List D}{h:Hl}(h1:∀a∈h.areas,call 79 [nC a,.snap cs 0]=some (.bool (has a)))(hl:h.areas.length≤1000):
  ∀(r pre:List ByteArray) (fuel:Nat),pre++r=kinds6→r.length<fuel→ox call LL C1 fuel cs h.name h.tee.1 h.tee.2 h.cup.1 h.cup.2 h.lf h.line.length (bJ h.line) h.af h.areas.length (bV h.areas) (pre.length:Int)=some (fH (gO has h.areas r)):=by
 intro r
 induction r with
 |nil=>
  intro pre fuel hn hf;cases fuel with
  |zero=>exact absurd hf (Nat.not_lt_zero _)
  |succ fuel=>
   have hlen:pre.length=6:=by
    have:=congrArg List.length hn;simpa [kinds6] using this
   rw[s6,hlen,show decide (((6:Nat):Int)<6)=false from rfl,bv];rfl
 |cons x r ih=>
  intro pre fuel hn hf;cases fuel with
  |zero=>exact absurd hf (Nat.not_lt_zero _)
  |succ fuel=>
   have ih:=ih (pre++[x]) fuel (by rw[gb];exact hn) (by simp at hf;omega);rw[za6,zb4] at ih;have hlt:pre.length<6:=by
    have:=congrArg List.length hn;simp[kinds6] at this;omega
   have c0:∀k:D→Option D,bu [D.str (ByteArray.mk #[103,114,101,101,110]),D.str (ByteArray.mk #[116,101,101]),D.str (ByteArray.mk #[98,117,110,107,101,114]),D.str (ByteArray.mk #[119,97,116,101,114]),D.str (ByteArray.mk #[102,97,105,114,119,97,121]),D.str (ByteArray.mk #[114,111,117,103,104])] (Int.toNat (pre.length:Int)) k=k (.str x):=fun k=>by
    show bu (dF kinds6) _ k=_;rw[←hn];exact oF
   have hi:=Ng h1 hl (kind:=x) (t11:=(pre.length:Int)) (n:=fuel) h.areas [] LL rfl (by unfold LL;omega);rw[show(([]:List Ar).length:Int)=0 from rfl,show([]:List Ar).length=0 from rfl,show IntKind.wrap .i64 ((pre.length:Int)+1)=((pre.length+1:Nat):Int) from cE _ 1 (by omega),ih] at hi;rw[s6,show decide (((pre.length:Nat):Int)<6)=true from dP (n:=6) hlt,bx,show decide ((0:Int)≤((pre.length:Nat):Int)∧((pre.length:Nat):Int)<(6:Int))=true from c5 (n:=6) hlt,bC,c0,bP,hi];rw[show gO has h.areas (x::r)=(match eA has x h.areas 0 with|some i=>(x,(i:Int))|none=>gO has h.areas r) from rfl];cases eA has x h.areas 0<;>rfl
theorem QQ{has:Ar→Bool}{cs:List D}{h:Hl}(h1:∀a∈h.areas,OK2 79 [nC a,.snap cs 0] (.bool (has a)))(hl:h.areas.length≤1000):OK2 78 [bQ h,.fn (.func 79) [] [.snap cs 0]] (fH (gO has h.areas kinds6)):=by
 obtain⟨B,hb,e1,_⟩:=fP [⟨79,{a:Ar//a∈h.areas},fun a=>[nC a.1,.snap cs 0],fun a=> .bool (has a.1)⟩] ⟨⟨fun a=>h1 a.1 a.2,fun x y e=>by
  have e:[nC x.1,D.snap cs 0]=[nC y.1,D.snap cs 0]:=e;simp only[zc5,and_true] at e;show D.bool (has x.1)= .bool (has y.1);rw[rQ e],fun _=>rfl⟩,trivial⟩ rfl
 exact dT hb Tryz.func78 (ord:=O0) (N:=BE) (by kernel_rfl) ((Ju _ _ _ h.name h.tee.1 h.tee.2 h.cup.1 h.cup.2 h.lf h.line.length (bJ h.line) h.af h.areas.length (bV h.areas) cs).trans (QO (fun a ha=>e1 ⟨a,ha⟩) hl kinds6 [] LL rfl (by unfold LL;simp[kinds6])))
theorem Nh{call:CL}{has:Ar→Bool}{cs:List D}{h:Hl}(h1:∀a∈h.areas,call 87 [nC a,.snap cs 0]=some (.bool (has a)))(hl:h.areas.length≤1000){kind:ByteArray}{t11:Int}{n:Nat}:
  ∀(r pre:List Ar) (fuel:Nat),pre++r=h.areas→r.length<fuel→ka call LL C1 n fuel cs t11 h.af h.areas.length (bV h.areas) h.name h.tee.1 h.tee.2 h.cup.1 h.cup.2 h.lf h.line.length (bJ h.line) kind (h.areas.length:Int) (pre.length:Int)=
   match eA has kind r pre.length with
   |some i=>some (fH (kind,(i:Int)))
   |none=>oz call LL C1 n cs h.name h.tee.1 h.tee.2 h.cup.1 h.cup.2 h.lf h.line.length (bJ h.line) h.af h.areas.length (bV h.areas) (IntKind.wrap .i64 (t11+1)):=by
 intro r
 induction r with
 |nil=>
  intro pre fuel hn hf;cases fuel with
  |zero=>exact absurd hf (Nat.not_lt_zero _)
  |succ fuel=>
   have hlen:pre.length=h.areas.length:=by rw[←hn];simp
   rw[oA,hlen,dH,bv];rfl
 |cons x r ih=>
  intro pre fuel hn hf;cases fuel with
  |zero=>exact absurd hf (Nat.not_lt_zero _)
  |succ fuel=>
   have ih:=ih (pre++[x]) fuel (by rw[gb];exact hn) (by simp at hf;omega);rw[za6,zb4] at ih;have hlt:pre.length<h.areas.length:=by rw[←hn];simp
   have e:call 87 [D.agg [.str x.1,.slc x.2.1 x.2.2.length (bJ x.2.2)],.snap cs 0]=some (.bool (has x)):=h1 x (by rw[←hn];simp);have c0:∀k:D→Option D,bu (bV h.areas) (Int.toNat (pre.length:Int)*2+0) k=k (.str x.1):=fun k=>by rw[←hn];exact a0 pre x r
   have c1':∀k:D→Option D,bu (bV h.areas) (Int.toNat (pre.length:Int)*2+1) k=k (.slc x.2.1 x.2.2.length (bJ x.2.2)):=fun k=>by rw[←hn];exact a1 pre x r
   rw[oA,dP hlt,bx,c5 hlt,bC,c0,bP,c1',cL,e,bA,cj,show IntKind.wrap .i64 ((pre.length:Int)+1)=((pre.length+1:Nat):Int) from cE _ 1 (by omega),ih];rw[show eA has kind (x::r) pre.length=bz (dn x.1 kind) (bz (has x) (some pre.length) (eA has kind r (pre.length+1))) (eA has kind r (pre.length+1)) from rfl];show bz (dn x.1 kind) _ _=_;cases dn x.1 kind
   ·rfl
   ·cases has x<;>rfl
theorem QR{call:CL}{has:Ar→Bool}{cs:List D}{h:Hl}(h1:∀a∈h.areas,call 87 [nC a,.snap cs 0]=some (.bool (has a)))(hl:h.areas.length≤1000):
  ∀(r pre:List ByteArray) (fuel:Nat),pre++r=kinds6→r.length<fuel→oz call LL C1 fuel cs h.name h.tee.1 h.tee.2 h.cup.1 h.cup.2 h.lf h.line.length (bJ h.line) h.af h.areas.length (bV h.areas) (pre.length:Int)=some (fH (gO has h.areas r)):=by
 intro r
 induction r with
 |nil=>
  intro pre fuel hn hf;cases fuel with
  |zero=>exact absurd hf (Nat.not_lt_zero _)
  |succ fuel=>
   have hlen:pre.length=6:=by
    have:=congrArg List.length hn;simpa [kinds6] using this
   rw[s8,hlen,show decide (((6:Nat):Int)<6)=false from rfl,bv];rfl
 |cons x r ih=>
  intro pre fuel hn hf;cases fuel with
  |zero=>exact absurd hf (Nat.not_lt_zero _)
  |succ fuel=>
   have ih:=ih (pre++[x]) fuel (by rw[gb];exact hn) (by simp at hf;omega);rw[za6,zb4] at ih;have hlt:pre.length<6:=by
    have:=congrArg List.length hn;simp[kinds6] at this;omega
   have c0:∀k:D→Option D,bu [D.str (ByteArray.mk #[103,114,101,101,110]),D.str (ByteArray.mk #[116,101,101]),D.str (ByteArray.mk #[98,117,110,107,101,114]),D.str (ByteArray.mk #[119,97,116,101,114]),D.str (ByteArray.mk #[102,97,105,114,119,97,121]),D.str (ByteArray.mk #[114,111,117,103,104])] (Int.toNat (pre.length:Int)) k=k (.str x):=fun k=>by
    show bu (dF kinds6) _ k=_;rw[←hn];exact oF
   have hi:=Nh h1 hl (kind:=x) (t11:=(pre.length:Int)) (n:=fuel) h.areas [] LL rfl (by unfold LL;omega);rw[show(([]:List Ar).length:Int)=0 from rfl,show([]:List Ar).length=0 from rfl,show IntKind.wrap .i64 ((pre.length:Int)+1)=((pre.length+1:Nat):Int) from cE _ 1 (by omega),ih] at hi;rw[s8,show decide (((pre.length:Nat):Int)<6)=true from dP (n:=6) hlt,bx,show decide ((0:Int)≤((pre.length:Nat):Int)∧((pre.length:Nat):Int)<(6:Int))=true from c5 (n:=6) hlt,bC,c0,bP,hi];rw[show gO has h.areas (x::r)=(match eA has x h.areas 0 with|some i=>(x,(i:Int))|none=>gO has h.areas r) from rfl];cases eA has x h.areas 0<;>rfl
theorem QS{has:Ar→Bool}{cs:List D}{h:Hl}(h1:∀a∈h.areas,OK2 87 [nC a,.snap cs 0] (.bool (has a)))(hl:h.areas.length≤1000):OK2 78 [bQ h,.fn (.func 87) [] [.snap cs 0]] (fH (gO has h.areas kinds6)):=by
 obtain⟨B,hb,e1,_⟩:=fP [⟨87,{a:Ar//a∈h.areas},fun a=>[nC a.1,.snap cs 0],fun a=> .bool (has a.1)⟩] ⟨⟨fun a=>h1 a.1 a.2,fun x y e=>by
  have e:[nC x.1,D.snap cs 0]=[nC y.1,D.snap cs 0]:=e;simp only[zc5,and_true] at e;show D.bool (has x.1)= .bool (has y.1);rw[rQ e],fun _=>rfl⟩,trivial⟩ rfl
 exact dT hb Tryz.func78 (ord:=O0) (N:=BE) (by kernel_rfl) ((Jv _ _ _ h.name h.tee.1 h.tee.2 h.cup.1 h.cup.2 h.lf h.line.length (bJ h.line) h.af h.areas.length (bV h.areas) cs).trans (QR (fun a ha=>e1 ⟨a,ha⟩) hl kinds6 [] LL rfl (by unfold LL;simp[kinds6])))
theorem Ni{call:CL}{has:Ar→Bool}{cs:List D}{h:Hl}(h1:∀a∈h.areas,call 88 [nC a,.snap cs 0]=some (.bool (has a)))(hl:h.areas.length≤1000){kind:ByteArray}{t11:Int}{n:Nat}:
  ∀(r pre:List Ar) (fuel:Nat),pre++r=h.areas→r.length<fuel→kb call LL C1 n fuel cs t11 h.af h.areas.length (bV h.areas) h.name h.tee.1 h.tee.2 h.cup.1 h.cup.2 h.lf h.line.length (bJ h.line) kind (h.areas.length:Int) (pre.length:Int)=
   match eA has kind r pre.length with
   |some i=>some (fH (kind,(i:Int)))
   |none=>oB call LL C1 n cs h.name h.tee.1 h.tee.2 h.cup.1 h.cup.2 h.lf h.line.length (bJ h.line) h.af h.areas.length (bV h.areas) (IntKind.wrap .i64 (t11+1)):=by
 intro r
 induction r with
 |nil=>
  intro pre fuel hn hf;cases fuel with
  |zero=>exact absurd hf (Nat.not_lt_zero _)
  |succ fuel=>
   have hlen:pre.length=h.areas.length:=by rw[←hn];simp
   rw[oC,hlen,dH,bv];rfl
 |cons x r ih=>
  intro pre fuel hn hf;cases fuel with
  |zero=>exact absurd hf (Nat.not_lt_zero _)
  |succ fuel=>
   have ih:=ih (pre++[x]) fuel (by rw[gb];exact hn) (by simp at hf;omega);rw[za6,zb4] at ih;have hlt:pre.length<h.areas.length:=by rw[←hn];simp
   have e:call 88 [D.agg [.str x.1,.slc x.2.1 x.2.2.length (bJ x.2.2)],.snap cs 0]=some (.bool (has x)):=h1 x (by rw[←hn];simp);have c0:∀k:D→Option D,bu (bV h.areas) (Int.toNat (pre.length:Int)*2+0) k=k (.str x.1):=fun k=>by rw[←hn];exact a0 pre x r
   have c1':∀k:D→Option D,bu (bV h.areas) (Int.toNat (pre.length:Int)*2+1) k=k (.slc x.2.1 x.2.2.length (bJ x.2.2)):=fun k=>by rw[←hn];exact a1 pre x r
   rw[oC,dP hlt,bx,c5 hlt,bC,c0,bP,c1',cL,e,bA,cj,show IntKind.wrap .i64 ((pre.length:Int)+1)=((pre.length+1:Nat):Int) from cE _ 1 (by omega),ih];rw[show eA has kind (x::r) pre.length=bz (dn x.1 kind) (bz (has x) (some pre.length) (eA has kind r (pre.length+1))) (eA has kind r (pre.length+1)) from rfl];show bz (dn x.1 kind) _ _=_;cases dn x.1 kind
   ·rfl
   ·cases has x<;>rfl
theorem QT{call:CL}{has:Ar→Bool}{cs:List D}{h:Hl}(h1:∀a∈h.areas,call 88 [nC a,.snap cs 0]=some (.bool (has a)))(hl:h.areas.length≤1000):
  ∀(r pre:List ByteArray) (fuel:Nat),pre++r=kinds6→r.length<fuel→oB call LL C1 fuel cs h.name h.tee.1 h.tee.2 h.cup.1 h.cup.2 h.lf h.line.length (bJ h.line) h.af h.areas.length (bV h.areas) (pre.length:Int)=some (fH (gO has h.areas r)):=by
 intro r
 induction r with
 |nil=>
  intro pre fuel hn hf;cases fuel with
  |zero=>exact absurd hf (Nat.not_lt_zero _)
  |succ fuel=>
   have hlen:pre.length=6:=by
    have:=congrArg List.length hn;simpa [kinds6] using this
   rw[s9,hlen,show decide (((6:Nat):Int)<6)=false from rfl,bv];rfl
 |cons x r ih=>
  intro pre fuel hn hf;cases fuel with
  |zero=>exact absurd hf (Nat.not_lt_zero _)
  |succ fuel=>
   have ih:=ih (pre++[x]) fuel (by rw[gb];exact hn) (by simp at hf;omega);rw[za6,zb4] at ih;have hlt:pre.length<6:=by
    have:=congrArg List.length hn;simp[kinds6] at this;omega
   have c0:∀k:D→Option D,bu [D.str (ByteArray.mk #[103,114,101,101,110]),D.str (ByteArray.mk #[116,101,101]),D.str (ByteArray.mk #[98,117,110,107,101,114]),D.str (ByteArray.mk #[119,97,116,101,114]),D.str (ByteArray.mk #[102,97,105,114,119,97,121]),D.str (ByteArray.mk #[114,111,117,103,104])] (Int.toNat (pre.length:Int)) k=k (.str x):=fun k=>by
    show bu (dF kinds6) _ k=_;rw[←hn];exact oF
   have hi:=Ni h1 hl (kind:=x) (t11:=(pre.length:Int)) (n:=fuel) h.areas [] LL rfl (by unfold LL;omega);rw[show(([]:List Ar).length:Int)=0 from rfl,show([]:List Ar).length=0 from rfl,show IntKind.wrap .i64 ((pre.length:Int)+1)=((pre.length+1:Nat):Int) from cE _ 1 (by omega),ih] at hi;rw[s9,show decide (((pre.length:Nat):Int)<6)=true from dP (n:=6) hlt,bx,show decide ((0:Int)≤((pre.length:Nat):Int)∧((pre.length:Nat):Int)<(6:Int))=true from c5 (n:=6) hlt,bC,c0,bP,hi];rw[show gO has h.areas (x::r)=(match eA has x h.areas 0 with|some i=>(x,(i:Int))|none=>gO has h.areas r) from rfl];cases eA has x h.areas 0<;>rfl
theorem QU{has:Ar→Bool}{cs:List D}{h:Hl}(h1:∀a∈h.areas,OK2 88 [nC a,.snap cs 0] (.bool (has a)))(hl:h.areas.length≤1000):OK2 78 [bQ h,.fn (.func 88) [] [.snap cs 0]] (fH (gO has h.areas kinds6)):=by
 obtain⟨B,hb,e1,_⟩:=fP [⟨88,{a:Ar//a∈h.areas},fun a=>[nC a.1,.snap cs 0],fun a=> .bool (has a.1)⟩] ⟨⟨fun a=>h1 a.1 a.2,fun x y e=>by
  have e:[nC x.1,D.snap cs 0]=[nC y.1,D.snap cs 0]:=e;simp only[zc5,and_true] at e;show D.bool (has x.1)= .bool (has y.1);rw[rQ e],fun _=>rfl⟩,trivial⟩ rfl
 exact dT hb Tryz.func78 (ord:=O0) (N:=BE) (by kernel_rfl) ((Jw _ _ _ h.name h.tee.1 h.tee.2 h.cup.1 h.cup.2 h.lf h.line.length (bJ h.line) h.af h.areas.length (bV h.areas) cs).trans (QT (fun a ha=>e1 ⟨a,ha⟩) hl kinds6 [] LL rfl (by unfold LL;simp[kinds6])))
theorem Nj{call:CL}{has:Ar→Bool}{cs:List D}{h:Hl}(h1:∀a∈h.areas,call 101 [nC a,.snap cs 0]=some (.bool (has a)))(hl:h.areas.length≤1000){kind:ByteArray}{t11:Int}{n:Nat}:
  ∀(r pre:List Ar) (fuel:Nat),pre++r=h.areas→r.length<fuel→ke call LL C1 n fuel cs t11 h.af h.areas.length (bV h.areas) h.name h.tee.1 h.tee.2 h.cup.1 h.cup.2 h.lf h.line.length (bJ h.line) kind (h.areas.length:Int) (pre.length:Int)=
   match eA has kind r pre.length with
   |some i=>some (fH (kind,(i:Int)))
   |none=>oD call LL C1 n cs h.name h.tee.1 h.tee.2 h.cup.1 h.cup.2 h.lf h.line.length (bJ h.line) h.af h.areas.length (bV h.areas) (IntKind.wrap .i64 (t11+1)):=by
 intro r
 induction r with
 |nil=>
  intro pre fuel hn hf;cases fuel with
  |zero=>exact absurd hf (Nat.not_lt_zero _)
  |succ fuel=>
   have hlen:pre.length=h.areas.length:=by rw[←hn];simp
   rw[oE,hlen,dH,bv];rfl
 |cons x r ih=>
  intro pre fuel hn hf;cases fuel with
  |zero=>exact absurd hf (Nat.not_lt_zero _)
  |succ fuel=>
   have ih:=ih (pre++[x]) fuel (by rw[gb];exact hn) (by simp at hf;omega);rw[za6,zb4] at ih;have hlt:pre.length<h.areas.length:=by rw[←hn];simp
   have e:call 101 [D.agg [.str x.1,.slc x.2.1 x.2.2.length (bJ x.2.2)],.snap cs 0]=some (.bool (has x)):=h1 x (by rw[←hn];simp);have c0:∀k:D→Option D,bu (bV h.areas) (Int.toNat (pre.length:Int)*2+0) k=k (.str x.1):=fun k=>by rw[←hn];exact a0 pre x r
   have c1':∀k:D→Option D,bu (bV h.areas) (Int.toNat (pre.length:Int)*2+1) k=k (.slc x.2.1 x.2.2.length (bJ x.2.2)):=fun k=>by rw[←hn];exact a1 pre x r
   rw[oE,dP hlt,bx,c5 hlt,bC,c0,bP,c1',cL,e,bA,cj,show IntKind.wrap .i64 ((pre.length:Int)+1)=((pre.length+1:Nat):Int) from cE _ 1 (by omega),ih];rw[show eA has kind (x::r) pre.length=bz (dn x.1 kind) (bz (has x) (some pre.length) (eA has kind r (pre.length+1))) (eA has kind r (pre.length+1)) from rfl];show bz (dn x.1 kind) _ _=_;cases dn x.1 kind
   ·rfl
   ·cases has x<;>rfl
theorem QV{call:CL}{has:Ar→Bool}{cs:List D}{h:Hl}(h1:∀a∈h.areas,call 101 [nC a,.snap cs 0]=some (.bool (has a)))(hl:h.areas.length≤1000):
  ∀(r pre:List ByteArray) (fuel:Nat),pre++r=kinds6→r.length<fuel→oD call LL C1 fuel cs h.name h.tee.1 h.tee.2 h.cup.1 h.cup.2 h.lf h.line.length (bJ h.line) h.af h.areas.length (bV h.areas) (pre.length:Int)=some (fH (gO has h.areas r)):=by
 intro r
 induction r with
 |nil=>
  intro pre fuel hn hf;cases fuel with
  |zero=>exact absurd hf (Nat.not_lt_zero _)
  |succ fuel=>
   have hlen:pre.length=6:=by
    have:=congrArg List.length hn;simpa [kinds6] using this
   rw[ta,hlen,show decide (((6:Nat):Int)<6)=false from rfl,bv];rfl
 |cons x r ih=>
  intro pre fuel hn hf;cases fuel with
  |zero=>exact absurd hf (Nat.not_lt_zero _)
  |succ fuel=>
   have ih:=ih (pre++[x]) fuel (by rw[gb];exact hn) (by simp at hf;omega);rw[za6,zb4] at ih;have hlt:pre.length<6:=by
    have:=congrArg List.length hn;simp[kinds6] at this;omega
   have c0:∀k:D→Option D,bu [D.str (ByteArray.mk #[103,114,101,101,110]),D.str (ByteArray.mk #[116,101,101]),D.str (ByteArray.mk #[98,117,110,107,101,114]),D.str (ByteArray.mk #[119,97,116,101,114]),D.str (ByteArray.mk #[102,97,105,114,119,97,121]),D.str (ByteArray.mk #[114,111,117,103,104])] (Int.toNat (pre.length:Int)) k=k (.str x):=fun k=>by
    show bu (dF kinds6) _ k=_;rw[←hn];exact oF
   have hi:=Nj h1 hl (kind:=x) (t11:=(pre.length:Int)) (n:=fuel) h.areas [] LL rfl (by unfold LL;omega);rw[show(([]:List Ar).length:Int)=0 from rfl,show([]:List Ar).length=0 from rfl,show IntKind.wrap .i64 ((pre.length:Int)+1)=((pre.length+1:Nat):Int) from cE _ 1 (by omega),ih] at hi;rw[ta,show decide (((pre.length:Nat):Int)<6)=true from dP (n:=6) hlt,bx,show decide ((0:Int)≤((pre.length:Nat):Int)∧((pre.length:Nat):Int)<(6:Int))=true from c5 (n:=6) hlt,bC,c0,bP,hi];rw[show gO has h.areas (x::r)=(match eA has x h.areas 0 with|some i=>(x,(i:Int))|none=>gO has h.areas r) from rfl];cases eA has x h.areas 0<;>rfl
theorem QW{has:Ar→Bool}{cs:List D}{h:Hl}(h1:∀a∈h.areas,OK2 101 [nC a,.snap cs 0] (.bool (has a)))(hl:h.areas.length≤1000):OK2 78 [bQ h,.fn (.func 101) [] [.snap cs 0]] (fH (gO has h.areas kinds6)):=by
 obtain⟨B,hb,e1,_⟩:=fP [⟨101,{a:Ar//a∈h.areas},fun a=>[nC a.1,.snap cs 0],fun a=> .bool (has a.1)⟩] ⟨⟨fun a=>h1 a.1 a.2,fun x y e=>by
  have e:[nC x.1,D.snap cs 0]=[nC y.1,D.snap cs 0]:=e;simp only[zc5,and_true] at e;show D.bool (has x.1)= .bool (has y.1);rw[rQ e],fun _=>rfl⟩,trivial⟩ rfl
 exact dT hb Tryz.func78 (ord:=O0) (N:=BE) (by kernel_rfl) ((Jy _ _ _ h.name h.tee.1 h.tee.2 h.cup.1 h.cup.2 h.lf h.line.length (bJ h.line) h.af h.areas.length (bV h.areas) cs).trans (QV (fun a ha=>e1 ⟨a,ha⟩) hl kinds6 [] LL rfl (by unfold LL;simp[kinds6])))
theorem UB(p:Pt)(a:Ar)(ha:a.2.2.length≤1000):OK2 79 [nC a,.snap [.int .i64 p.1,.int .i64 p.2] 0] (.bool (EG p a)):=by
 obtain⟨B,hb,e⟩:=je (F6 (f:=a.2.1) a.2.2 p ha) rfl;refine dT hb Tryz.func79 (ord:=O0) (N:=N0) (by kernel_rfl) ((M6 _ _ _ a.1 a.2.1 _ _ p.1 p.2).trans ?_);have e':bw B 80 [.slc a.2.1 a.2.2.length (bJ a.2.2),.agg [.int .i64 p.1,.int .i64 p.2]]=_:=e;rw[e',bA,bF];rfl
theorem QX(p:Pt)(a:Ar)(ha:a.2.2.length≤1000):OK2 101 [nC a,.snap [.int .i64 p.1,.int .i64 p.2] 0] (.bool (EG p a)):=by
 obtain⟨B,hb,e⟩:=je (F6 (f:=a.2.1) a.2.2 p ha) rfl;refine dT hb Tryz.func101 (ord:=O0) (N:=N0) (by kernel_rfl) ((Jz _ _ _ a.1 a.2.1 _ _ p.1 p.2).trans ?_);have e':bw B 80 [.slc a.2.1 a.2.2.length (bJ a.2.2),.agg [.int .i64 p.1,.int .i64 p.2]]=_:=e;rw[e',bA,bF];rfl
theorem UC(h:Hl)(a:Ar)(ha:a.2.2.length≤1000):OK2 87 [nC a,nb h] (.bool (EG h.tee a)):=by
 obtain⟨B,hb,e⟩:=je (F6 (f:=a.2.1) a.2.2 h.tee ha) rfl;refine dT hb Tryz.func87 (ord:=O0) (N:=N0) (by kernel_rfl) ((M7 _ _ _ a.1 a.2.1 _ _ _ _ _ _ _ _ _ _ _ _ _).trans ?_);have e':bw B 80 [.slc a.2.1 a.2.2.length (bJ a.2.2),.agg [.int .i64 h.tee.1,.int .i64 h.tee.2]]=_:=e;rw[e',bA,bF];rfl
theorem UD(h:Hl)(a:Ar)(ha:a.2.2.length≤1000):OK2 88 [nC a,nb h] (.bool (EG h.cup a)):=by
 obtain⟨B,hb,e⟩:=je (F6 (f:=a.2.1) a.2.2 h.cup ha) rfl;refine dT hb Tryz.func88 (ord:=O0) (N:=N0) (by kernel_rfl) ((M8 _ _ _ a.1 a.2.1 _ _ _ _ _ _ _ _ _ _ _ _ _).trans ?_);have e':bw B 80 [.slc a.2.1 a.2.2.length (bJ a.2.2),.agg [.int .i64 h.cup.1,.int .i64 h.cup.2]]=_:=e;rw[e',bA,bF];rfl
def gv(h:Hl)(p:Pt):ByteArray×Int:=gO (EG p) h.areas kinds6
def oG(v:ByteArray):List ByteArray→Nat→Int
 |[],_=> -1
 |s::r,i=>bz (dn v s) (i:Int) (oG v r (i+1))
theorem QY{call:CL}{f:Bool}{n:Nat}{v:ByteArray}:∀(r pre:List ByteArray) (fuel:Nat),(pre++r).length=n→n≤1000000→r.length<fuel→rO call LL C1 fuel f n (dF (pre++r)) v n (pre.length:Int)=some (.int .i64 (oG v r pre.length)):=by
 intro r
 induction r with
 |nil=>
  intro pre fuel hn hB hf;cases fuel with
  |zero=>exact absurd hf (Nat.not_lt_zero _)
  |succ fuel=>
   subst hn;rw[s5,mF,bv];rfl
 |cons x r ih=>
  intro pre fuel hn hB hf;cases fuel with
  |zero=>exact absurd hf (Nat.not_lt_zero _)
  |succ fuel=>
   have ih:=ih (pre++[x]) fuel (by rw[gb];exact hn) hB (by simp at hf;omega);rw[gb,za6,zb4] at ih;subst hn;have hs:=j6 pre x r (by omega);rw[za6,zb4] at hs;rw[s5,pX,bx,pY,bC,ti,bP,hs,ih];rw[show oG v (x::r) pre.length=bz (dn v x) (pre.length:Int) (oG v r (pre.length+1)) from rfl];show bz (dn v x) _ _=_;cases dn v x<;>rfl
theorem Dw(v:ByteArray):∀(l:List ByteArray) (i:Nat),decide (oG v l i≥0)=l.any (dn v)
 |[],_=>rfl
 |p::r,i=>by
  have:=Dw v r (i+1);rw[show oG v (p::r) i=bz (dn v p) (i:Int) (oG v r (i+1)) from rfl,List.any_cons];cases dn v p
  ·rw[bv,Bool.false_or,this]
  ·rw[bx,Bool.true_or,za1 (by omega)]
theorem LM{f:Bool}(l:List ByteArray)(v:ByteArray)(hl:l.length≤1000000):OK2 142 [.slc f l.length (dF l),.str v] (.int .i64 (oG v l 0)):=
 dT cK Tryz.func142 (ord:=O0) (N:=M3) (by kernel_rfl) ((Jt _ _ _ _ _ _ v).trans (QY (f:=f) l [] LL rfl hl (by unfold LL;omega)))
theorem QZ{f:Bool}(l:List ByteArray)(v:ByteArray)(hl:l.length≤1000000):OK2 86 [.slc f l.length (dF l),.str v] (.bool (l.any (dn v))):=by
 obtain⟨B,hb,e⟩:=je (LM (f:=f) l v hl) rfl;refine dT hb Tryz.func86 (ord:=O0) (N:=N0) (by kernel_rfl) ((M2 _ _ _ _ _ _ v).trans ?_);rw[e,bA,bF,Dw]
def fw(v:ByteArray):Bool:=kinds6.any (dn v)
def fam86:Fam:=⟨86,ByteArray,fun v=>[.slc true 6 (dF kinds6),.str v],fun v=> .bool (fw v)⟩
theorem tp:fam86.Good:=⟨fun v=>QZ (f:=true) kinds6 v (by simp[kinds6]),fun(x y:ByteArray) e=>by
 have e:[D.slc true 6 (dF kinds6),.str x]=[D.slc true 6 (dF kinds6),.str y]:=e;cases e;rfl,fun _=>rfl⟩
def Dx(a:Ar):Int:=cI [bz (!fw a.1) 13 0,dG a.2.2]
def gZ:List Ar→Int
 |[]=>0
 |a::r=>bz (Dx a !=0) (Dx a) (gZ r)
def BV:ByteArray:=ByteArray.mk #[119,97,116,101,114]
def BW:ByteArray:=ByteArray.mk #[103,114,101,101,110]
def vn(t c:ByteArray):Int:=bz (dn t BV) 17 (bz (dn t th) 17 (bz (!dn c BW) 17 0))
theorem UE{call:CL}{h:Hl}(hk:h.Ok)(h86:∀v,call 86 [.slc true 6 (dF kinds6),.str v]=some (.bool (fw v)))(h84:∀b e,call 84 [.bool b,.int .i64 e]=some (.int .i64 (bz b e 0)))
  (h50:∀a∈h.areas,call 50 [.slc a.2.1 a.2.2.length (bJ a.2.2)]=some (.int .i64 (dG a.2.2))) (h76:∀x y:Int,call 76 [.slc true 2 [.int .i64 x,.int .i64 y]]=some (.int .i64 (cI [x,y])))
  (ht:call 78 [bQ h,.fn (.func 87) [] [nb h]]=some (fH (gv h h.tee))) (hc:call 78 [bQ h,.fn (.func 88) [] [nb h]]=some (fH (gv h h.cup))):
  ∀(r pre:List Ar) (fuel:Nat),pre++r=h.areas→r.length<fuel→xD call LL C1 fuel h.af h.areas.length (bV h.areas) h.name h.tee.1 h.tee.2 h.cup.1 h.cup.2 h.lf h.line.length (bJ h.line) (h.areas.length:Int) (pre.length:Int)=
   some (.int .i64 (bz (gZ r !=0) (gZ r) (vn (gv h h.tee).1 (gv h h.cup).1))):=by
 intro r;have hal:=hk.a
 induction r with
 |nil=>
  intro pre fuel hn hf;cases fuel with
  |zero=>exact absurd hf (Nat.not_lt_zero _)
  |succ fuel=>
   have hlen:pre.length=h.areas.length:=by rw[←hn];simp
   have rd:∀(x:ByteArray×Int) (k:ByteArray→Int→Option D),(cy (fH x) 2 fun c=>bu c 0 fun d=>bU d fun s=>bu c 1 fun d'=>bD .i64 d' fun y=>k s y)=k x.1 x.2:=fun _ _=>rfl;rw[vS,hlen,dH,bv,ht,bA,rd,hc,bA,rd];simp only[h84,bA,bF];rw[show gZ []=0 from rfl,show((0:Int) !=0)=false from rfl,bv];unfold vn dn BV th BW;generalize (ByteArray.toList (gv h h.tee).1==ByteArray.toList (ByteArray.mk #[119,97,116,101,114]))=b1;generalize (ByteArray.toList (gv h h.tee).1==ByteArray.toList (ByteArray.mk #[111,117,116]))=b2;cases b1<;>cases b2<;>rfl
 |cons x r ih=>
  intro pre fuel hn hf;cases fuel with
  |zero=>exact absurd hf (Nat.not_lt_zero _)
  |succ fuel=>
   have ih:=ih (pre++[x]) fuel (by rw[gb];exact hn) (by simp at hf;omega);rw[za6,zb4] at ih;have hlt:pre.length<h.areas.length:=by rw[←hn];simp
   have c0:∀k:D→Option D,bu (bV h.areas) (Int.toNat (pre.length:Int)*2+0) k=k (.str x.1):=fun k=>by rw[←hn];exact a0 pre x r
   have c1':∀k:D→Option D,bu (bV h.areas) (Int.toNat (pre.length:Int)*2+1) k=k (.slc x.2.1 x.2.2.length (bJ x.2.2)):=fun k=>by rw[←hn];exact a1 pre x r
   have e86:call 86 [D.slc true 6 [D.str (ByteArray.mk #[103,114,101,101,110]),D.str (ByteArray.mk #[116,101,101]),D.str (ByteArray.mk #[98,117,110,107,101,114]),D.str (ByteArray.mk #[119,97,116,101,114]),D.str (ByteArray.mk #[102,97,105,114,119,97,121]),D.str (ByteArray.mk #[114,111,117,103,104])],.str x.1]=some (.bool (fw x.1)):=h86 x.1;rw[vS,dP hlt,bx,c5 hlt,bC,c0,bP,c1',cL,e86,bA,cj,h84,bA,bF,h50 x (by rw[←hn];simp),bA,bF,h76,bA,bF,
    show IntKind.wrap .i64 ((pre.length:Int)+1)=((pre.length+1:Nat):Int) from cE _ 1 (by omega),ih]
   rw[show gZ (x::r)=bz (Dx x !=0) (Dx x) (gZ r) from rfl,show cI [bz (!fw x.1) 13 0,dG x.2.2]=Dx x from rfl];generalize Dx x=z;cases hz:z !=0<;>simp only[bx,bv,hz]
def oH(h:Hl):Int:=cI [bz (!gj h.name) 8 0,bz ([h.tee,h.cup].any cb) 3 0,bz (decide ((h.line.length:Int)>16)) 5 0,bz (h.line.any cb) 3 0,bz (decide ((h.areas.length:Int)>32)) 5 0]
def cv(h:Hl):Int:=bz (oH h !=0) (oH h) (bz (gZ h.areas !=0) (gZ h.areas) (vn (gv h h.tee).1 (gv h h.cup).1))
theorem Ge(h:Hl)(hk:h.Ok):OK2 21 [bQ h] (.int .i64 (cv h)):=by
 obtain⟨B,hb,e85,e84,e77,e76,e86,e50,e78,_⟩:=fP [one 85 [.str h.name] (.bool (gj h.name)),sT 84,⟨77,Bool,fun b=>match b with|true=>[.slc true 2 (bJ [h.tee,h.cup])]|false=>[.slc h.lf h.line.length (bJ h.line)],fun b=>match b with|true=> .int .i64 (bz ([h.tee,h.cup].any cb) 3 0)|false=> .int .i64 (bz (h.line.any cb) 3 0)⟩,vL 76,fam86,
   ⟨50,{a:Ar//a∈h.areas},fun a=>[.slc a.1.2.1 a.1.2.2.length (bJ a.1.2.2)],fun a=> .int .i64 (dG a.1.2.2)⟩,⟨78,Bool,fun b=>match b with|true=>[bQ h,.fn (.func 87) [] [nb h]]|false=>[bQ h,.fn (.func 88) [] [nb h]],fun b=>match b with|true=>fH (gv h h.tee)|false=>fH (gv h h.cup)⟩]
  ⟨bM (UA h.name hk.n) rfl,jc EC (fun _ _=>rfl),⟨fun b=>match b with|true=>Jq [h.tee,h.cup] (by simp)|false=>Jq h.line hk.l,fun x y e=>by
    cases x<;>cases y
    ·rfl
    ·have e:[D.slc h.lf h.line.length (bJ h.line)]=[D.slc true [h.tee,h.cup].length (bJ [h.tee,h.cup])]:=e;simp only[zc5,D.slc.injEq,and_true] at e;have:=fT e.2.2;show D.int .i64 (bz (h.line.any cb) 3 0)= .int .i64 (bz ([h.tee,h.cup].any cb) 3 0);rw[this]
    ·have e:[D.slc true [h.tee,h.cup].length (bJ [h.tee,h.cup])]=[D.slc h.lf h.line.length (bJ h.line)]:=e;simp only[zc5,D.slc.injEq,and_true] at e;have:=fT e.2.2;show D.int .i64 (bz ([h.tee,h.cup].any cb) 3 0)= .int .i64 (bz (h.line.any cb) 3 0);rw[this]
    ·rfl,fun b=>by cases b<;>rfl⟩,jd (fun l hl=>ED l hl) (fun _ _=>rfl),tp,
   ⟨fun a=>Jr a.1.2.2 (hk.c a.1 a.2),fun x y e=>by
    have e:[D.slc x.1.2.1 x.1.2.2.length (bJ x.1.2.2)]=[D.slc y.1.2.1 y.1.2.2.length (bJ y.1.2.2)]:=e;simp only[zc5,D.slc.injEq,and_true] at e;show D.int .i64 (dG x.1.2.2)= .int .i64 (dG y.1.2.2);rw[fT e.2.2],fun _=>rfl⟩,⟨fun b=>match b with|true=>QS (fun a ha=>UC h a (hk.c a ha)) hk.a|false=>QU (fun a ha=>UD h a (hk.c a ha)) hk.a,fun x y e=>by
    cases x<;>cases y
    ·rfl
    ·have e:[bQ h,D.fn (.func 88) [] [nb h]]=[bQ h,D.fn (.func 87) [] [nb h]]:=e;simp at e
    ·have e:[bQ h,D.fn (.func 87) [] [nb h]]=[bQ h,D.fn (.func 88) [] [nb h]]:=e;simp at e
    ·rfl,fun b=>by cases b<;>rfl⟩,trivial⟩ rfl
 refine dT hb Tryz.func21 (ord:=O0) (N:=Uv) (by kernel_rfl) ((M9 _ _ _ h.name h.tee.1 h.tee.2 h.cup.1 h.cup.2 h.lf h.line.length (bJ h.line) h.af h.areas.length (bV h.areas)).trans ?_);have f85:bw B 85 [.str h.name]=some (.bool (gj h.name)):=e85 ();have f84:∀b e,bw B 84 [.bool b,.int .i64 e]=some (.int .i64 (bz b e 0)):=fun b e=>e84 (b,e);have f77:bw B 77 [.slc true 2 [.int .i64 h.tee.1,.int .i64 h.tee.2,.int .i64 h.cup.1,.int .i64 h.cup.2]]=some (.int .i64 (bz ([h.tee,h.cup].any cb) 3 0)):=e77 true;have f77l:bw B 77 [.slc h.lf h.line.length (bJ h.line)]=some (.int .i64 (bz (h.line.any cb) 3 0)):=e77 false;have f76:bw B 76 [.slc true 5 [.int .i64 (bz (!gj h.name) 8 0),.int .i64 (bz ([h.tee,h.cup].any cb) 3 0),.int .i64 (bz (decide ((h.line.length:Int)>16)) 5 0),.int .i64 (bz (h.line.any cb) 3 0),.int .i64 (bz (decide ((h.areas.length:Int)>32)) 5 0)]]=some (.int .i64 (oH h)):=
  e76 ⟨[bz (!gj h.name) 8 0,bz ([h.tee,h.cup].any cb) 3 0,bz (decide ((h.line.length:Int)>16)) 5 0,bz (h.line.any cb) 3 0,bz (decide ((h.areas.length:Int)>32)) 5 0],by simp⟩
 have main:=UE (call:=bw B) hk (fun v=>e86 v) f84 (fun a ha=>e50 ⟨a,ha⟩) (fun x y=>e76 ⟨[x,y],by simp⟩) (e78 true) (e78 false) h.areas [] LL rfl (by have:=hk.a;unfold LL;omega);rw[f85,bA,cj,f84,bA,bF,f77,bA,bF,f84,bA,bF,f77l,bA,bF,f84,bA,bF,f76,bA,bF];unfold cv;generalize oH h=z;cases hz:z !=0
 ·rw[bv,bv];exact main
 ·rfl
def xE(e:Int)(x:ByteArray×Int):D:=bz (e !=0) (.tup [.str (ByteArray.mk #[]),.int .i64 0,.int .i64 e]) (.tup [.str x.1,.int .i64 x.2,.int .i64 0])
theorem Q0(h:Hl)(hk:h.Ok)(p:Pt):OK2 19 [bQ h,bW p] (xE (cI [cv h,bz (cb p) 3 0]) (gv h p)):=by
 obtain⟨B,hb,e21,e77,e76,e78,_⟩:=fP [one 21 [bQ h] (.int .i64 (cv h)),one 77 [.slc true 1 [.int .i64 p.1,.int .i64 p.2]] (.int .i64 (bz (cb p) 3 0)),vL 76,one 78 [bQ h,.fn (.func 79) [] [.snap [.int .i64 p.1,.int .i64 p.2] 0]] (fH (gv h p))]
  ⟨bM (Ge h hk) rfl,bM (BQ p) rfl,jd (fun l hl=>ED l hl) (fun _ _=>rfl),bM (QQ (fun a ha=>UB p a (hk.c a ha)) hk.a) rfl,trivial⟩ rfl
 refine dT hb Tryz.func19 (ord:=O0) (N:=N0) (by kernel_rfl) ((Nb _ _ _ h.name h.tee.1 h.tee.2 h.cup.1 h.cup.2 h.lf h.line.length (bJ h.line) h.af h.areas.length (bV h.areas) p.1 p.2).trans ?_);have f21:bw B 21 [bQ h]=some (.int .i64 (cv h)):=e21 ();have f77:bw B 77 [.slc true 1 [.int .i64 p.1,.int .i64 p.2]]=some (.int .i64 (bz (cb p) 3 0)):=e77 ();have f76:bw B 76 [.slc true 2 [.int .i64 (cv h),.int .i64 (bz (cb p) 3 0)]]=some (.int .i64 (cI [cv h,bz (cb p) 3 0])):=e76 ⟨[cv h,bz (cb p) 3 0],by simp⟩;have f78:bw B 78 [bQ h,.fn (.func 79) [] [.snap [.int .i64 p.1,.int .i64 p.2] 0]]=some (fH (gv h p)):=e78 ();have rd:∀(x:ByteArray×Int) (k:ByteArray→Int→Option D),(cy (fH x) 2 fun c=>bu c 0 fun d=>bU d fun s=>bu c 1 fun d'=>bD .i64 d' fun y=>k s y)=k x.1 x.2:=fun _ _=>rfl;rw[f21,bA,bF,f77,bA,bF,f76,bA,bF,f78,bA,rd];generalize cI [cv h,bz (cb p) 3 0]=z;unfold xE;cases z !=0<;>rfl
end Go.Pd
end
section
namespace Go.Pd
open Go Go.Proofs
set_option maxRecDepth 100000
theorem Nk(call:CL)(L:Nat)(C:Nat→Nat)(q z J K:Int):bT (cF call L C) O0 N0 FinM.canon Tryz.f83 [D.agg [D.int .i64 q,D.int .i64 z],D.agg [D.int .i64 J,D.int .i64 K]]=
 (bB (call 140 [D.agg [D.int .i64 q,D.int .i64 z],D.agg [D.int .i64 J,D.int .i64 K]]) fun r=>dq r 2 fun c=>bu c 0 fun d=>bD .i64 d fun x=>bu c 1 fun O=>bD .i64 O fun X=>bB (call 140 [D.agg [D.int .i64 q,D.int .i64 z],D.agg [D.int .i64 J,D.int .i64 K]]) fun V=>dq V 2 fun M=>bu M 0 fun S=>bD .i64 S fun Y=>bu M 1 fun U=>bD .i64 U fun Z=>bB (call 139 [D.agg [D.int .i64 x,D.int .i64 X],D.agg [D.int .i64 Y,D.int .i64 Z]]) fun W=>bD .i64 W fun a0=>some (D.int .i64 a0)):=by kernel_rfl
end Go.Pd
end
section
namespace Go.Pd
open Go Go.Proofs Go.RowKit
set_option maxRecDepth 100000
def tt(a b:Pt):Int:=y6 (cW a b) (cW a b)
theorem UF(a b:Pt):OK2 83 [bW a,bW b] (.int .i64 (tt a b)):=by
 obtain⟨B,hb,h140,h139,_⟩:=fP [lH 140 fun a b=>bW (cW a b),lH 139 fun a b=> .int .i64 (y6 a b)] ⟨ek Dm (fun _ _=>rfl),ek F4 (fun _ _=>rfl),trivial⟩ rfl;refine dT hb Tryz.func83 (ord:=O0) (N:=N0) (by kernel_rfl) ((Nk _ _ _ a.1 a.2 b.1 b.2).trans ?_);have e1:bw B 140 [.agg [.int .i64 a.1,.int .i64 a.2],.agg [.int .i64 b.1,.int .i64 b.2]]=some (bW (cW a b)):=h140 (a,b);have e2:bw B 139 [.agg [.int .i64 (cW a b).1,.int .i64 (cW a b).2],.agg [.int .i64 (cW a b).1,.int .i64 (cW a b).2]]=some (.int .i64 (y6 (cW a b) (cW a b))):=h139 (cW a b,cW a b);have rd:∀(x:Pt) (k:Int→Int→Option D),(dq (bW x) 2 fun c=>bu c 0 fun d=>bD .i64 d fun u=>bu c 1 fun d'=>bD .i64 d' fun v=>k u v)=k x.1 x.2:=fun _ _=>rfl;rw[e1,bA,rd,bA,rd,e2,bA,bF];rfl
end Go.Pd
end
section
namespace Go.Pd
open Go Go.Proofs
set_option maxRecDepth 100000
def UG:bY:=fun p=>match p with
 |58=>nm [0,1,5] [] []
 |_=>none
noncomputable def xF(call:CL)(L:Nat)(C:Nat→Nat)(n:Nat)(z:Bool)(K:Nat)(q:List D)(O:Bool)(S:Nat)(M:List D)(U:Int):Option D:=
 cw (cF call L C) O0 UG FinM.canon Tryz.f42 (bt 5 11) [] n (St.mk (D.slc z K q::D.slc O S M::J::J::J::D.int .i64 U::jn 20 []) (zn 26 []))
theorem vU(call:CL)(L:Nat)(C:Nat→Nat)(n:Nat)(O:Bool)(z:Nat)(J:List D)(S:Bool)(M:Nat)(K:List D)(q:Int):xF call L C (n+1) O z J S M K q=
 (bz (decide (q<(z:Int)))
 (bH (decide (0≤q∧q<(z:Int)))
 (bu J (Int.toNat q*1) fun d=>bD .i64 d fun x=>bH (decide (0≤q∧q<(M:Int)))
 (bu K (Int.toNat q*1) fun U=>bD .i64 U fun V=>bz (x !=V)
 (some (D.bool false))
 (xF call L C n O z J S M K (IntKind.wrap .i64 (q+1))))))
 (some (D.bool true))):=by kernel_rfl
theorem Nl(call:CL)(L:Nat)(C:Nat→Nat)(K:Bool)(q:Nat)(J:List D)(O:Bool)(z:Nat)(M:List D):bT (cF call L C) O0 UG FinM.canon Tryz.f42 [D.slc K q J,D.slc O z M]=
 (bz ((q:Int) !=(z:Int))
 (some (D.bool false))
 (xF call L C L K q J O z M 0)):=by kernel_rfl
end Go.Pd
end
section
namespace Go.Pd
open Go Go.Proofs Go.RowKit
set_option maxRecDepth 100000
theorem Q1{call:CL}{f g:Bool}:∀(r pre:List Int) (fuel:Nat),(pre++r).length≤4611686018427387904→r.length<fuel→xF call LL C1 fuel f (pre++r).length (dE (pre++r)) g (pre++r).length (dE (pre++r)) (pre.length:Int)=some (.bool true)
 |[],pre,fuel+1,_,_=>by rw[vU,mF,bv]
 |x::r,pre,fuel+1,hB,hf=>by
  have ih:=Q1 (call:=call) (f:=f) (g:=g) r (pre++[x]) fuel (by rw[gb];exact hB) (by simp at hf;omega);rw[gb] at ih;rw[vU,pX,bx,pY,bC,pZ,bF,bC,pZ,bF,j6 _ _ _ hB,ih,show(x !=x)=false by simp,bv]
theorem Nm{f g:Bool}(l:List Int)(hl:l.length<4611686018427387904):OK2 42 [.slc f l.length (dE l),.slc g l.length (dE l)] (.bool true):=by
 refine dT cK Tryz.func42 (ord:=O0) (N:=UG) (by kernel_rfl) ((Nl _ _ _ _ _ _ _ _ _).trans ?_);rw[show((l.length:Int) !=l.length)=false by simp,bv];exact Q1 (f:=f) (g:=g) l [] LL (by simp;omega) (by unfold LL;omega)
def zj:Go.Shelf.Ren:=⟨fun|41=>81|n=>n,fun|22=>24|23=>23|4=>4|n=>n,fun|n=>n⟩
theorem Dy:Go.Proofs.SlLaysE0.n41 Tryz.prog zj:={
 mixed:=by kernel_rfl
 f41:=⟨Tryz.f81.name,by decide,Tryz.func81.trans (congrArg some (by kernel_rfl))⟩
 t4:=Tryz.underlying4
 a4:=Tryz.isAgg4
 z4:=Tryz.sizeOf4
 v4:=Tryz.zeroValue4
 t22:=Tryz.underlying24
 a22:=Tryz.isAgg24
 z22:=Tryz.sizeOf24
 v22:=Tryz.zeroValue24}
noncomputable def Nn:TypeInfo:=(Tryz.prog.info? 23).get (by kernel_rfl)
theorem vV{w:World}{a:Addr}{v:Value}(h:w.cell? a=some v):a.spot=none:=by
 unfold World.cell? at h;split at h
 ·split at h
  ·cases h
  ·rename_i hs;cases e:a.spot with
   |none=>rfl
   |some x=>rw[e] at hs;exact absurd rfl hs
 ·cases h
theorem rR{vs:Array Value}(h:1=vs.size):∃v,vs= #[v]:=by
 refine⟨vs[0],?_⟩;apply Array.ext
 ·simp[←h]
 ·intro i hi _;have:i=0:=by omega
  subst this;rfl
theorem BX{w w':World}{e:TypeId}{size:Nat}{v':Value}{n:Nat}{news:List Value}{cs:List D}(hl:cs.length=n*size)(hd:∀(j:Nat) (d:D) (u:Value),cs[j]?=some d→news[j]?=some u→d.toV=some u)
  (h:w'.ownsRow w.heap.size e size v' n news) (hnil:v'≠ .slice none 0 0) (hbel:Blw (·<w.heap.size) w w'):
  Blw (·<w.heap.size) w w'∧∃(b cap:Nat) (c:Array Value),Ending.returned v'= .returned (.slice (some ⟨b,0,none⟩) n cap)∧w.heap.size≤b∧w'.heap[b]?=some (.cells c e (0,0))∧c.size=cap*size∧cap≤maxLen∧n≤cap∧cs.length=n*size∧
   ∀(j:Nat) (d:D) (v:Value),cs[j]?=some d→c[j]?=some v→d.toV=some v:=by
 obtain⟨_,⟨h1,_⟩|⟨g,cap,cur,rfl,h2,h3,h4,h5,h6,h7⟩⟩:=h
 ·exact absurd h1 hnil
 ·refine⟨hbel,g,cap,cur,rfl,h2,h3,h6,h5,h4,hl,fun j d v hj hv=>hd j d v hj ?_⟩;have hlt:j<n*size:=by rw[←hl];exact(zc1.1 hj).1
  rw[←h7,List.getElem?_take_of_lt hlt,Array.getElem?_toList];exact hv
section
variable {P:Program}
theorem zk{ops:Array Oper}{rest:List Oper}{o:Oper}{a:Act}{w:World}{Q:Exit→Act→World→Prop}(hgd:o.guard=none)(s x:Operand)(t:TypeId)(ho:o.op= .call {callee:= .builtin .append,args:= #[s,x],argTypes:= #[t,t]})
  (base:Nat) (e:TypeId) (i:TypeInfo) (z:Value) (size bytes:Nat) (ht:P.underlying t=some (.slice e)) (hi:P.info? e=some i) (hz:i.zero=some z) (hsize:i.size=size) (hby:i.bytes=bytes) (hzs:z.cells.size=size) (hsz:0<size)
  (v:Value) (n:Nat) (xs:List Value) (hs:a.eval s=v) (hown:w.ownsRow base e size v n xs) (ad:Addr) (m c:Nat) (news:List Value) (hx:a.eval x= .slice (some ad) m c) (hl:news.length=m*size) (hnews:∀j u,news[j]?=some u→w.cell? (ad.add j)=some u) (h1:∀u∈news,u.oneCell'=true)
  (h63:n+m≤maxLen) (hbytes:(n+m)*bytes≤140737488355328) (hbase:base≤w.heap.size)
  (h:∀v' w',w'.ownsRow base e size v' (n+m) (xs++news)→w.grownBy w' v.ownBlock→(v'= .slice none 0 0↔v= .slice none 0 0∧m=0)→wpList P ops Q rest (a.put o.dst v') w'):wpList P ops Q (o::rest) a w:=by
 refine wpList_plain hgd fun K hK=> ?_;obtain⟨v',w',hr,h2,h3,h4⟩:=run_append_own (P:=P) w base t o.type e i z size bytes ht hi hz hsize hby hzs hsz v n xs hown ad m c news hl hnews h1 h63 hbytes hbase;unfold Oper.wp execOp;simp only[ho,resolve,invoke,builtin,Sem.run_bind,Sem.run_pure,Result.andThen_ok,List.map_toArray,List.map_cons,List.map_nil,hs,hx,hr];exact hK _ _ (h v' w' h2 h3 h4)
end
set_option maxHeartbeats 2000000 in
theorem JC{ρ:Go.Shelf.Ren}(L:Go.Proofs.SlLaysE0.n41 Tryz.prog ρ)(i0:TypeInfo)(z:Value)(size bytes:Nat)(hi:Tryz.prog.info? (ρ.t 23)=some i0)(hz0:i0.zero=some z)(hz1:i0.size=size)(hz2:i0.bytes=bytes)(hzs:z.cells.size=size)(hsz:0<size)(z23:∀w,(Go.sizeOf (ρ.t 23)).run Tryz.prog w= .ok size w)
  (b off n c:Nat) (news:List Value) (w:World) (hl:news.length=n*size) (hn:n≤maxLen) (hbig:n*bytes≤140737488355328) (hc:∀j u,news[j]?=some u→w.cell? ⟨b,off+j,none⟩=some u) (h1:∀u∈news,u.oneCell'=true):
  Calls Tryz.prog (ρ.f 41) #[.slice (some ⟨b,off,none⟩) n c] w fun e w'=>∃v',e= .returned v'∧w'.ownsRow w.heap.size (ρ.t 23) size v' n news∧v'≠ .slice none 0 0∧Blw (·<w.heap.size) w w':=by
 have mixed:=L.mixed;have t4:=L.t4;have a4:=L.a4;have z4:=L.z4;have v4:=L.v4;have t22:=L.t22;have a22:=L.a22;have z22:=L.z22;have v22:=L.v22;have q22:∀(w:World) (a:Option Addr) (n c n' c':Nat),(binOp .eql (ρ.t 22) (.slice a n c) (.slice none n' c')).run Tryz.prog w= .ok (.bool a.isNone) w:=fun w a n c n' c'=>Lib.run_eql_slice_nil w _ _ a n c n' c' L.t22;have u22:∀w,Sem.run Tryz.prog (underlying (ρ.t 22)) w= .ok (TypeDesc.slice (ρ.t 23)) w:=run_underlying t22;have A:Aside (∀j u,news[j]?=some u→w.cell? ⟨b,off+j,none⟩=some u):=hc;clear hc;obtain⟨_,_,FG⟩:=L.f41
 go_enter FG,Go.Proofs.SlBodyN.n41_ntmps ρ
 go_wp2_with (at_builtin;refine zk rfl _ _ (ρ.t 22) rfl w.heap.size (ρ.t 23) i0 z size bytes t22 hi hz0 hz1 hz2 hzs hsz _ _ _ rfl (World.ownsRow_made w #[] 0 (zb0 _) (Nat.zero_le _) (by simp)) ⟨b,off,none⟩ n c news rfl ?qc1 ?qc2 ?qc3 ?qc4 ?qc5 ?qc6 ?_)
 case qc1=>exact hl
 case qc2=>
  intro j u hj;rw[Addr.add_lit];exact Lib.cell?_alloc_some _ (A.out j u hj)
 case qc3=>exact h1
 case qc4=>rw[Nat.zero_add];exact hn
 case qc5=>rw[Nat.zero_add];exact hbig
 case qc6=>simp
 intro v' w1 hown hgrow hnil
 go_wp2
 go_ret
 refine⟨v',rfl,by simpa using hown,?_,?_⟩
 ·exact hnil
 ·exact Blw.of_below (((Below.refl _ w).alloc (zb0 _) _).grown hgrow (by simp) (by intro k hk;simp[Value.ownBlock] at hk;omega))
theorem vW{ρ:Go.Shelf.Ren}(L:Go.Proofs.SlLaysE0.n41 Tryz.prog ρ)(i0:TypeInfo)(z:Value)(size bytes:Nat)(hi:Tryz.prog.info? (ρ.t 23)=some i0)(hz0:i0.zero=some z)(hz1:i0.size=size)(hz2:i0.bytes=bytes)(hzs:z.cells.size=size)(hsz:0<size)(z23:∀w,(Go.sizeOf (ρ.t 23)).run Tryz.prog w= .ok size w)
  {f:Bool} {n:Nat} {cs:List D} (hn:0<n) (hm:n≤maxLen) (hl:cs.length=n*size) (hb:n*bytes≤140737488355328) (hp:cs.all D.plain=true) (h1:cs.all D.one=true):CC Tryz.prog ig (ρ.f 41) (ρ.t 23) size [.slc f n cs] n cs:=by
 intro I w vs hI hgl hvs hrel;obtain⟨v,rfl⟩:=rR hvs;have hv:=hrel 0 _ v rfl rfl;rcases hv.slc_inv with⟨h0,_,_⟩|⟨ad,cap,us,rfl,q1,q2,q3,q4,q5⟩
 ·omega
 have hget:∀j (hj:j<cs.length),cs[j]?=some cs[j]:=fun j hj=>zd5 hj;have hpos:0<n*size:=Nat.mul_pos hn hsz;have had:ad.spot=none:=vV (w:=w) (q4 0 _ (hget 0 (by omega)));obtain⟨b,off,sp⟩:=ad;simp only at had;subst had;have hus:∀j u,((List.range cs.length).map us)[j]?=some u→∃d,cs[j]?=some d∧u=us j:=fun j u hj=>by
  have hlt:j<cs.length:=by have:=(zc1.1 hj).1;simpa using this
  simp[hlt] at hj;exact⟨_,hget j hlt,hj.symm⟩
 refine(JC L i0 z size bytes hi hz0 hz1 hz2 hzs hsz z23 b off n cap ((List.range cs.length).map us) w (by simp[hl]) hm hb ?_ ?_).mono ?_
 ·intro j u hj;obtain⟨d,hd,rfl⟩:=hus j u hj;have:=q4 j d hd;unfold Addr.add at this;split at this
  ·rename_i h0;subst h0;exact this
  ·exact this
 ·intro u hu;obtain⟨j,hj,rfl⟩:=List.getElem_of_mem hu;obtain⟨d,hd,e⟩:=hus j _ (zd5 hj);rw[e];exact(q5 j d hd).one (zd9.1 h1 d (List.mem_of_getElem? hd))
 ·rintro e w' ⟨v',rfl,hrow,hnil,hbel⟩
  refine BX hl (fun j d u hd hu=> ?_) hrow hnil hbel;obtain⟨d',hd',rfl⟩:=hus j u hu;rw[hd] at hd';cases hd';obtain⟨u',hu'⟩:=Option.isSome_iff_exists.1 (zd9.1 hp d (List.mem_of_getElem? hd));rw[(q5 j d hd).toV hu'];exact hu'
theorem zl{k:FuncId}{e:TypeId}{m n:Nat}{ds cs:List D}(hen:∀vs w,(callFunc k vs).run Tryz.prog w= .ok (.enter k vs) w)(h:CC Tryz.prog ig k e m ds n cs):OK2 k ds (.slc false n cs):=by
 refine⟨hen,fun I w vs hI hgl hl hr=>(h I w vs hI hgl hl hr).mono ?_⟩
 rintro en w' ⟨hbel,b,cap,c,rfl,hb,hc,hcs,hm,hle,hcl,hd⟩
 refine⟨_,rfl,?_,hbel⟩;have hbw:b<w'.heap.size:=(zc0.1 hc).1;have hlt:∀j,j<cs.length→j<c.size:=fun j hj=>by rw[hcs];have:=Nat.mul_le_mul_right m hle;omega
 refine .slc false n cs ⟨b,0,none⟩ cap (fun j=>c.getD j undef) (fun _=> .inr ⟨hb,hbw⟩) (fun hf=>by cases hf) hle (fun j d hj=> ?_) (fun j d hj=> ?_)
 ·have:=hlt j (zc1.1 hj).1;rw[ep hc];simp[this]
 ·have hj':=hlt j (zc1.1 hj).1;exact gF (hd j d _ hj (by simp[hj']))
theorem JD(ad:Addr)(cap:Nat)(w:World):Calls Tryz.prog 81 #[.slice (some ad) 0 cap] w fun e w'=>e= .returned (.slice (some ⟨w.heap.size,0,none⟩) 0 0)∧w'=w.alloc (.cells #[] 23):=by
 have mixed:Tryz.prog.follows .mixedOrders=true:=by kernel_rfl
 have t22:=Tryz.underlying24;have q22:∀(w:World) (a:Option Addr) (n c n' c':Nat),(binOp .eql 24 (.slice a n c) (.slice none n' c')).run Tryz.prog w= .ok (.bool a.isNone) w:=fun w a n c n' c'=>Lib.run_eql_slice_nil w _ _ a n c n' c' t22
 go_enter Tryz.func81,Tryz.ntmps81
 go_wp2
 go_ret
 exact⟨rfl,rfl⟩
theorem JE(ad:Addr)(cap:Nat)(w:World):Calls Tryz.prog 173 #[.slice (some ad) 0 cap] w fun e w'=>e= .returned (.slice (some ⟨w.heap.size,0,none⟩) 0 0)∧w'=w.alloc (.cells #[] 3):=by
 have mixed:Tryz.prog.follows .mixedOrders=true:=by kernel_rfl
 have t22:=Tryz.underlying69;have q22:∀(w:World) (a:Option Addr) (n c n' c':Nat),(binOp .eql 69 (.slice a n c) (.slice none n' c')).run Tryz.prog w= .ok (.bool a.isNone) w:=fun w a n c n' c'=>Lib.run_eql_slice_nil w _ _ a n c n' c' t22
 go_enter Tryz.func173,Tryz.ntmps173
 go_wp2
 go_ret
 exact⟨rfl,rfl⟩
theorem tu{k:FuncId}{e:TypeId}{f:Bool}(hen:∀vs w,(callFunc k vs).run Tryz.prog w= .ok (.enter k vs) w)(hnil:∀w,Calls Tryz.prog k #[.slice none 0 0] w fun en w'=>en= .returned (.slice none 0 0)∧w'=w)
  (h0:∀ad cap w,Calls Tryz.prog k #[.slice (some ad) 0 cap] w fun en w'=>en= .returned (.slice (some ⟨w.heap.size,0,none⟩) 0 0)∧w'=w.alloc (.cells #[] e)):OK2 k [.slc f 0 []] (.slc true 0 []):=by
 refine⟨hen,fun I w vs hI hgl hl hr=> ?_⟩;obtain⟨v,rfl⟩:=rR hl;have hv:=hr 0 _ v rfl rfl;rcases hv.slc_inv with⟨_,_,rfl⟩|⟨ad,cap,us,rfl,_⟩
 ·refine(hnil w).mono ?_
  rintro en w' ⟨rfl,rfl⟩
  exact⟨_,rfl,.slcn _,.refl _ _⟩
 ·refine(h0 ad cap w).mono ?_
  rintro en w' ⟨rfl,rfl⟩
  exact⟨_,rfl,.slc true 0 [] _ 0 (fun _=>undef) (fun h=>by simp at h) (fun _=>rfl) (zb0 _) (fun j d hj=>by simp at hj) (fun j d hj=>by simp at hj),Blw.of_below ((Below.refl _ _).alloc (zb0 _) _)⟩
def zm:Go.Shelf.Ren:=⟨fun|41=>173|n=>n,fun|22=>69|23=>3|4=>4|n=>n,fun|n=>n⟩
theorem Dz:Go.Proofs.SlLaysE0.n41 Tryz.prog zm:={
 mixed:=by kernel_rfl
 f41:=⟨Tryz.f173.name,by decide,Tryz.func173.trans (congrArg some (by kernel_rfl))⟩
 t4:=Tryz.underlying4
 a4:=Tryz.isAgg4
 z4:=Tryz.sizeOf4
 v4:=Tryz.zeroValue4
 t22:=Tryz.underlying69
 a22:=Tryz.isAgg69
 z22:=Tryz.sizeOf69
 v22:=Tryz.zeroValue69}
noncomputable def UH:TypeInfo:=(Tryz.prog.info? 3).get (by kernel_rfl)
theorem BY{f:Bool}{n:Nat}{cs:List D}(hn:0<n)(hm:n≤maxLen)(hl:cs.length=n*2)(hb:n*16≤140737488355328)(hp:cs.all D.plain=true)(h1:cs.all D.one=true):CC Tryz.prog ig 81 23 2 [.slc f n cs] n cs:=
 vW Dy Nn (.agg #[.int .i64 0,.int .i64 0]) 2 16 (by kernel_rfl) (by kernel_rfl) (by kernel_rfl) (by kernel_rfl) rfl (by decide) Tryz.sizeOf23 hn hm hl hb hp h1
theorem tw{f:Bool}{n:Nat}{cs:List D}(hn:0<n)(hm:n≤maxLen)(hl:cs.length=n*1)(hb:n*8≤140737488355328)(hp:cs.all D.plain=true)(h1:cs.all D.one=true):CC Tryz.prog ig 173 3 1 [.slc f n cs] n cs:=
 vW Dz UH (.int .i64 0) 1 8 (by kernel_rfl) (by kernel_rfl) (by kernel_rfl) (by kernel_rfl) rfl (by decide) Tryz.sizeOf3 hn hm hl hb hp h1
def Tx(n:Nat)(cs:List D):D:=match n with
 |0=> .slc true 0 []
 |m+1=> .slc false (m+1) cs
theorem Q2:∀vs w,(callFunc 81 vs).run Tryz.prog w= .ok (.enter 81 vs) w:=enters_of Tryz.func81 (by kernel_rfl) rfl
theorem Gf:∀vs w,(callFunc 173 vs).run Tryz.prog w= .ok (.enter 173 vs) w:=enters_of Tryz.func173 (by kernel_rfl) rfl
theorem UI{f:Bool}{n:Nat}{cs:List D}(hm:n≤1000000)(hl:cs.length=n*2)(hp:cs.all D.plain=true)(h1:cs.all D.one=true):OK2 81 [.slc f n cs] (Tx n cs):=by
 cases n with
 |zero=>
  have:cs=[]:=List.eq_nil_of_length_eq_zero (by omega);subst this;exact tu Q2 (AnyE.slices_Clone_nil Dy 0 0) JD
 |succ n=>exact zl Q2 (BY (by omega) (by unfold maxLen;omega) hl (by omega) hp h1)
theorem Q3{f:Bool}{n:Nat}{cs:List D}(hm:n≤1000000)(hl:cs.length=n*1)(hp:cs.all D.plain=true)(h1:cs.all D.one=true):OK2 173 [.slc f n cs] (Tx n cs):=by
 cases n with
 |zero=>
  have:cs=[]:=List.eq_nil_of_length_eq_zero (by omega);subst this;exact tu Gf (AnyE.slices_Clone_nil Dz 0 0) JE
 |succ n=>exact zl Gf (tw (by omega) (by unfold maxLen;omega) hl (by omega) hp h1)
end Go.Pd
end
section
namespace Go.Pd
open Go Go.Proofs
set_option maxRecDepth 100000
end Go.Pd
end
section
namespace Go.Pd
open Go Go.Proofs Go.RowKit
set_option maxRecDepth 100000
theorem zo:∀l:List Pt,(bJ l).length=l.length*2
 |[]=>rfl
 |_::l=>by
  show(_::_::bJ l).length=_;simp only[za7,zo l];omega
theorem jB:∀{l:List Int},cI l=0→∀x∈l,x=0
 |[],_,x,hx=>by cases hx
 |y::l,h,x,hx=>by
  rw[show cI (y::l)=bz (y !=0) y (cI l) from rfl] at h;by_cases hy:y=0
  ·rw[show(y !=0)=false by simpa using hy,bv] at h;rcases List.mem_cons.1 hx with rfl|hx
   ·exact hy
   ·exact jB h x hx
  ·rw[show(y !=0)=true by simpa using hy,bx] at h;exact absurd h hy
theorem l6{b:Bool}(h:bz b (3:Int) 0=0):b=false:=by
 cases b
 ·rfl
 ·cases h
theorem JF{h:Hl}(hz:cv h=0):cb h.tee=false∧cb h.cup=false∧h.line.any cb=false∧h.line.length≤16:=by
 unfold cv at hz;by_cases hp:oH h=0
 ·have h1:=jB hp;refine⟨?_,?_,?_,?_⟩
  ·have:=h1 (bz ([h.tee,h.cup].any cb) 3 0) (by simp);have:=l6 this;simp at this;exact this.1
  ·have:=h1 (bz ([h.tee,h.cup].any cb) 3 0) (by simp);have:=l6 this;simp at this;exact this.2
  ·exact l6 (h1 (bz (h.line.any cb) 3 0) (by simp))
  ·have h2:=h1 (bz (decide ((h.line.length:Int)>16)) 5 0) (by simp);have h3:decide ((h.line.length:Int)>16)=false:=by
    cases hd:decide ((h.line.length:Int)>16)
    ·rfl
    ·rw[hd] at h2;cases h2
   simp at h3;omega
 ·rw[show(oH h !=0)=true by simpa using hp,bx] at hz;exact absurd hz hp
end Go.Pd
end
