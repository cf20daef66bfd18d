import Derived.Test.YtjhoaknnmfifgaaGreatDoorUnA
import Derived.KernelRfl
import Derived.Test.YtjhoaknnmfifgaaGreatDoorUnM
import Derived.Test.YtjhoaknnmfifgaaGreatDoorUnQ
section
namespace Go.Pd
open Go Go.Proofs
set_option maxRecDepth 100000
def N6:bP:=fun p=>match p with
 |1018=>nm [1,2,5,6,8,39,40,41] [10,14,18,19,23,206] [2,5,10,14,18,19,23,38,206]
 |2042=>nm [1,2,6,8,157,158,159] [5,10,14,18,19,23,206] [2,5,10,14,18,19,23,38,206]
 |65535=>nm [6,8,18,19] [2,5,10,14,23] [2,5,10,14,18,19,23,38,206]
 |130355=>nm [1,2,5,6,8,9,10,39,40,41] [14,18,19,23,206] [2,5,10,14,18,19,23,38,206]
 |260709=>nm [1,2,5,6,8,9,10,12,39,40,41] [14,18,19,23,206] [2,5,10,14,18,19,23,38,206]
 |260711=>nm [1,2,5,6,8,10,39,40,41] [14,18,19,23,206] [2,5,10,14,18,19,23,38,206]
 |262143=>nm [8,18,20] [2,5,10,14,19,23,206] [2,5,10,14,18,19,23,38,206]
 |2097146=>nm [8,18,257,258,259] [2,5,10,14,19,23,206] [2,5,10,14,18,19,23,38,206]
 |_=>none
noncomputable def gn(call:CL)(L:Nat)(C:Nat→Nat)(q:Nat)(a2:Int)(a0:Bool)(a1:Nat)(Y:List D)(O:Bool)(U:Nat)(M:List D)(V W:Int)(a6:Bool)(a7:Nat)(a5:List D)(a9:Bool)(aa:Nat)(a8:List D)(ac:Bool)(ad:Nat)(ab:List D)(af:Bool)(ag:Nat)(ae:List D)(ai:Bool)(aj:Nat)(ah:List D)(al:Bool)(am:Nat)(ak:List D)(aF:Bool)(aG:Nat)(aE:List D)(ao:Bool)(ap:Nat)(an:List D)(ar:Bool)(au:Nat)(aq:List D)(aw:Bool)(ax:Nat)(av:List D)(az:Bool)(aA:Nat)(ay:List D)(aC:Bool)(aD:Nat)(aB:List D)(vs:ByteArray)(a3 a4:Int)(z K:List D):Option D:=
 eM (cD call L C) O0 N6 FinM.canon Tryz.f6 (bt 17 117951) [q] (C 260711) (St.mk (J::D.int IntKind.u8 a2::D.loc 2 0 0::J::J::D.loc 5 0 0::D.slc a0 a1 Y::J::D.mloc 38 0::J::D.loc 10 0 0::jn 28 (D.slc O U M::D.int .i64 V::D.int .i64 W::jn 237 [])) (Z::Z::(1,some (Ob.box [D.slc a6 a7 a5,D.slc a9 aa a8,D.slc ac ad ab,D.slc af ag ae,D.slc ai aj ah,D.slc al am ak] false))::Z::Z::(1,some (Ob.box [D.slc aF aG aE,D.slc ao ap an,D.slc ar au aq,D.slc aw ax av,D.slc az aA ay,D.slc aC aD aB] false))::Z::Z::Z::Z::(1,some (Ob.box [D.str vs,D.int .i64 a3,D.int .i64 a4] false))::zn 27 ((1,some (Ob.map z K false))::zn 240 [])))
noncomputable def g9(call:CL)(L:Nat)(C:Nat→Nat)(z:Nat)(a2:Int)(a0:Bool)(a1:Nat)(Y:List D)(q:Int)(U:Bool)(V:Nat)(O:List D)(W:Int)(a6:Bool)(a7:Nat)(a5:List D)(a9:Bool)(aa:Nat)(a8:List D)(ac:Bool)(ad:Nat)(ab:List D)(af:Bool)(ag:Nat)(ae:List D)(ai:Bool)(aj:Nat)(ah:List D)(al:Bool)(am:Nat)(ak:List D)(aF:Bool)(aG:Nat)(aE:List D)(ao:Bool)(ap:Nat)(an:List D)(ar:Bool)(au:Nat)(aq:List D)(aw:Bool)(ax:Nat)(av:List D)(az:Bool)(aA:Nat)(ay:List D)(aC:Bool)(aD:Nat)(aB:List D)(vs:ByteArray)(a3 a4:Int)(K M:List D):Option D:=
 eM (cD call L C) O0 N6 FinM.canon Tryz.f6 (bt 16 52415) [z] (C 130355) (St.mk (J::D.int IntKind.u8 a2::D.loc 2 0 0::J::J::D.loc 5 0 0::D.slc a0 a1 Y::J::D.mloc 38 0::D.int .i64 q::D.loc 10 0 0::jn 28 (D.slc U V O::D.int .i64 W::D.int .i64 q::jn 237 [])) (Z::Z::(1,some (Ob.box [D.slc a6 a7 a5,D.slc a9 aa a8,D.slc ac ad ab,D.slc af ag ae,D.slc ai aj ah,D.slc al am ak] false))::Z::Z::(1,some (Ob.box [D.slc aF aG aE,D.slc ao ap an,D.slc ar au aq,D.slc aw ax av,D.slc az aA ay,D.slc aC aD aB] false))::Z::Z::Z::Z::(1,some (Ob.box [D.str vs,D.int .i64 a3,D.int .i64 a4] false))::zn 27 ((1,some (Ob.map K M false))::zn 240 [])))
noncomputable def lv(call:CL)(L:Nat)(C:Nat→Nat)(z:Nat)(a2:Int)(a0:Bool)(a1:Nat)(Y:List D)(q:Int)(U:Bool)(V:Nat)(O:List D)(W:Int)(a7:Bool)(a8:Nat)(a6:List D)(aa:Bool)(ab:Nat)(a9:List D)(ad:Bool)(ae:Nat)(ac:List D)(ag:Bool)(ah:Nat)(af:List D)(aj:Bool)(ak:Nat)(ai:List D)(am:Bool)(an:Nat)(al:List D)(aG:Bool)(aH:Nat)(aF:List D)(ap:Bool)(aq:Nat)(ao:List D)(au:Bool)(av:Nat)(ar:List D)(ax:Bool)(ay:Nat)(aw:List D)(aA:Bool)(aB:Nat)(az:List D)(aD:Bool)(aE:Nat)(aC K M:List D)(a5:Bool)(vs:ByteArray)(a3 a4:Int):Option D:=
 eM (cD call L C) O0 N6 FinM.canon Tryz.f6 (bt 17 85183) [z] (C 260709) (St.mk (J::D.int IntKind.u8 a2::D.loc 2 0 0::J::J::D.loc 5 0 0::D.slc a0 a1 Y::J::D.mloc 38 0::D.int .i64 q::D.loc 10 0 0::J::D.bool a5::jn 26 (D.slc U V O::D.int .i64 W::D.int .i64 q::jn 237 [])) (Z::Z::(1,some (Ob.box [D.slc a7 a8 a6,D.slc aa ab a9,D.slc ad ae ac,D.slc ag ah af,D.slc aj ak ai,D.slc am an al] false))::Z::Z::(1,some (Ob.box [D.slc aG aH aF,D.slc ap aq ao,D.slc au av ar,D.slc ax ay aw,D.slc aA aB az,D.slc aD aE aC] false))::Z::Z::Z::Z::(1,some (Ob.box [D.str vs,D.int .i64 a3,D.int .i64 a4] false))::zn 27 ((1,some (Ob.map K M false))::zn 240 [])))
noncomputable def fw(call:CL)(L:Nat)(C:Nat→Nat)(q:Nat)(U:Bool)(V:Nat)(O:List D)(W Y:ByteArray)(Z a0:Int)(a1:ByteArray)(K M:List D)(z J:Int):Option D:=
 ch (cD call L C) O0 N6 FinM.canon Tryz.f6 (bt 20 393215) [] q (St.mk (jn 8 (D.mloc 38 0::jn 9 (D.loc 18 0 0::jn 238 (D.slc U V O::D.int .i64 z::D.int .i64 J::jn 19 [])))) (zn 18 ((1,some (Ob.box [D.str W,D.str Y,D.int .i64 Z,D.int .i64 a0,D.str a1] false))::zn 19 ((1,some (Ob.map K M false))::zn 240 []))))
noncomputable def oO(call:CL)(L:Nat)(C:Nat→Nat)(U V:ByteArray)(W Y:Int)(Z:ByteArray)(q z:List D)(M:Bool)(O:Nat)(K:List D):Option D:=
 eM (cD call L C) O0 N6 FinM.canon Tryz.f6 (bt 17 131071) [] (C 262143) (St.mk (jn 8 (D.mloc 38 0::jn 9 (D.loc 18 0 0::J::D.slc M O K::jn 258 []))) (zn 18 ((1,some (Ob.box [D.str U,D.str V,D.int .i64 W,D.int .i64 Y,D.str Z] false))::zn 19 ((1,some (Ob.map q z false))::zn 240 []))))
noncomputable def sv(call:CL)(L:Nat)(C:Nat→Nat)(O:Bool)(U:Nat)(M:List D)(a2:Bool)(a3:Nat)(a1:List D)(a5:Bool)(a6:Nat)(a4:List D)(a8:Bool)(a9:Nat)(a7:List D)(ab:Bool)(ac:Nat)(aa:List D)(ae:Bool)(af:Nat)(ad z K:List D)(V W:ByteArray)(Y Z:Int)(a0:ByteArray)(ag:Nat)(q:List D):Option D:=
 eM (cD call L C) O0 N6 FinM.canon Tryz.f6 (bt 15 32767) [] (C 65535) (St.mk (jn 6 (D.slc O U M::J::D.mloc 38 0::jn 9 (D.loc 18 0 0::D.loc 19 0 0::jn 259 []))) (zn 18 ((1,some (Ob.box [D.str V,D.str W,D.int .i64 Y,D.int .i64 Z,D.str a0] false))::(1,some (Ob.box [D.slc a2 a3 a1,D.slc a5 a6 a4,D.slc a8 a9 a7,D.own 206 0 ag,D.slc ab ac aa,D.slc ae af ad] false))::zn 18 ((1,some (Ob.map z K false))::zn 167 ((1,some (Ob.arr 80 5 q true))::zn 72 [])))))
noncomputable def gV(call:CL)(L:Nat)(C:Nat→Nat)(M:Nat)(a2:Int)(a0:Bool)(a1:Nat)(Y:List D)(z:Bool)(K:Nat)(q:List D)(a4:Bool)(a5:Nat)(a3:List D)(a7:Bool)(a8:Nat)(a6:List D)(aa:Bool)(ab:Nat)(a9:List D)(ad:Bool)(ae:Nat)(ac:List D)(ag:Bool)(ah:Nat)(af V W:List D)(O U:Int):Option D:=
 ch (cD call L C) O0 N6 FinM.canon Tryz.f6 (bt 10 383) [] M (St.mk (J::D.int IntKind.u8 a2::D.loc 2 0 0::J::J::J::D.slc a0 a1 Y::J::D.mloc 38 0::jn 148 (D.slc z K q::D.int .i64 O::D.int .i64 U::jn 119 [])) (Z::Z::(1,some (Ob.box [D.slc a4 a5 a3,D.slc a7 a8 a6,D.slc aa ab a9,D.slc z K q,D.slc ad ae ac,D.slc ag ah af] false))::zn 35 ((1,some (Ob.map V W false))::zn 240 [])))
noncomputable def qh(call:CL)(L:Nat)(C:Nat→Nat)(q:Nat)(a2:Int)(a4:Bool)(a5:Nat)(a3:List D)(a7:Bool)(a8:Nat)(a6:List D)(aa:Bool)(ab:Nat)(a9:List D)(ad:Bool)(ae:Nat)(ac:List D)(ag:Bool)(ah:Nat)(af:List D)(aj:Bool)(ak:Nat)(ai:List D)(a0:Bool)(a1:Nat)(Y:List D)(O:Bool)(U:Nat)(M:List D)(V W:Int)(aD:Bool)(aE:Nat)(aC:List D)(am:Bool)(an:Nat)(al:List D)(ap:Bool)(aq:Nat)(ao:List D)(au:Bool)(av:Nat)(ar:List D)(ax:Bool)(ay:Nat)(aw:List D)(aA:Bool)(aB:Nat)(az z K:List D):Option D:=
 ch (cD call L C) O0 N6 FinM.canon Tryz.f6 (bt 9 191) [] q (St.mk (J::D.int IntKind.u8 a2::D.loc 2 0 0::J::J::D.loc 5 0 0::D.slc a0 a1 Y::J::D.mloc 38 0::jn 30 (D.slc O U M::D.int .i64 V::D.int .i64 W::jn 237 [])) (Z::Z::(1,some (Ob.box [D.slc a4 a5 a3,D.slc a7 a8 a6,D.slc aa ab a9,D.slc ad ae ac,D.slc ag ah af,D.slc aj ak ai] false))::Z::Z::(1,some (Ob.box [D.slc aD aE aC,D.slc am an al,D.slc ap aq ao,D.slc au av ar,D.slc ax ay aw,D.slc aA aB az] false))::zn 32 ((1,some (Ob.map z K false))::zn 240 [])))
theorem vR(call:CL)(L:Nat)(C:Nat→Nat)(q:Nat)(a0:Int)(Y:Bool)(Z:Nat)(W:List D)(M:Bool)(O:Nat)(K:List D)(U V:Int)(a3:Bool)(a4:Nat)(a2:List D)(a6:Bool)(a7:Nat)(a5:List D)(a9:Bool)(aa:Nat)(a8:List D)(ac:Bool)(ad:Nat)(ab:List D)(af:Bool)(ag:Nat)(ae:List D)(ai:Bool)(aj:Nat)(ah:List D)(aC:Bool)(aD:Nat)(aB:List D)(al:Bool)(am:Nat)(ak:List D)(ao:Bool)(ap:Nat)(an:List D)(ar:Bool)(au:Nat)(aq:List D)(aw:Bool)(ax:Nat)(av:List D)(az:Bool)(aA:Nat)(ay:List D)(vs:ByteArray)(aE a1:Int)(z J:List D)(hC:∀t,C t=1):gn call L C q a0 Y Z W M O K U V a3 a4 a2 a6 a7 a5 a9 aa a8 ac ad ab af ag ae ai aj ah aC aD aB al am ak ao ap an ar au aq aw ax av az aA ay vs aE a1 z J=
 (kj (iA (D.str vs) (D.int .i64 a1) z J) fun ks aF=>qh call L C q a0 a3 a4 a2 a6 a7 a5 a9 aa a8 ac ad ab af ag ae ai aj ah Y Z W M O K U (IntKind.wrap .i64 (V+1)) aC aD aB al am ak ao ap an ar au aq aw ax av az aA ay ks aF):=by
 unfold gn;rw[hC]
 kernel_rfl
theorem nR(call:CL)(L:Nat)(C:Nat→Nat)(ac:Nat)(ak:Int)(aj:Bool)(J:Nat)(z:List D)(q:Int)(ag:Bool)(ah:Nat)(af:List D)(ai:Int)(am:Bool)(an:Nat)(al:List D)(ap:Bool)(aq:Nat)(ao:List D)(au:Bool)(av:Nat)(ar:List D)(ax:Bool)(ay:Nat)(aw:List D)(aA:Bool)(aB:Nat)(az:List D)(aD:Bool)(aE:Nat)(aC:List D)(a8:Bool)(a9:Nat)(a7:List D)(M:Bool)(O:Nat)(K:List D)(V:Bool)(W:Nat)(U:List D)(Z:Bool)(a0:Nat)(Y:List D)(a2:Bool)(a3:Nat)(a1:List D)(a5:Bool)(a6:Nat)(a4:List D)(vs:ByteArray)(aa ab:Int)(ad ae:List D)(hC:∀t,C t=1):g9 call L C ac ak aj J z q ag ah af ai am an al ap aq ao au av ar ax ay aw aA aB az aD aE aC a8 a9 a7 M O K V W U Z a0 Y a2 a3 a1 a5 a6 a4 vs aa ab ad ae=
 (bC (decide (q>0))
 (bL (decide (0≤IntKind.wrap .i64 (q-1)∧IntKind.wrap .i64 (q-1)<(J:Int)))
 (bu z (Int.toNat (IntKind.wrap .i64 (q-1))*3+2) fun aF=>bF .i64 aF fun aM=>bC (aM==ab)
 (bL (decide (0≤IntKind.wrap .i64 (q-1)∧IntKind.wrap .i64 (q-1)<(J:Int)))
 (bu z (Int.toNat (IntKind.wrap .i64 (q-1))*3+1) fun aG=>bF .i64 aG fun aN=>bC (aN==aa)
 (bL (decide (0≤IntKind.wrap .i64 (q-1)∧IntKind.wrap .i64 (q-1)<(J:Int)))
 (bu z (Int.toNat (IntKind.wrap .i64 (q-1))*3+0) fun aH=>bY aH fun aK=>bG (call 23 [D.agg [D.slc a8 a9 a7,D.slc M O K,D.slc V W U,D.slc Z a0 Y,D.slc a2 a3 a1,D.slc a5 a6 a4],D.str aK]) fun aI=>bF .i64 aI fun aO=>bG (call 23 [D.agg [D.slc a8 a9 a7,D.slc M O K,D.slc V W U,D.slc Z a0 Y,D.slc a2 a3 a1,D.slc a5 a6 a4],D.str vs]) fun aJ=>bF .i64 aJ fun aL=>bC (decide (aO>aL))
 (some (D.bool false))
 (gn call L C ac ak aj J z ag ah af ai q am an al ap aq ao au av ar ax ay aw aA aB az aD aE aC a8 a9 a7 M O K V W U Z a0 Y a2 a3 a1 a5 a6 a4 vs aa ab ad ae)))
 (gn call L C ac ak aj J z ag ah af ai q am an al ap aq ao au av ar ax ay aw aA aB az aD aE aC a8 a9 a7 M O K V W U Z a0 Y a2 a3 a1 a5 a6 a4 vs aa ab ad ae)))
 (gn call L C ac ak aj J z ag ah af ai q am an al ap aq ao au av ar ax ay aw aA aB az aD aE aC a8 a9 a7 M O K V W U Z a0 Y a2 a3 a1 a5 a6 a4 vs aa ab ad ae)))
 (gn call L C ac ak aj J z ag ah af ai q am an al ap aq ao au av ar ax ay aw aA aB az aD aE aC a8 a9 a7 M O K V W U Z a0 Y a2 a3 a1 a5 a6 a4 vs aa ab ad ae)):=by
 unfold g9;rw[hC]
 kernel_rfl
theorem vS(call:CL)(L:Nat)(C:Nat→Nat)(ad:Nat)(al:Int)(ak:Bool)(J:Nat)(z:List D)(q:Int)(ah:Bool)(ai:Nat)(ag:List D)(aj:Int)(an:Bool)(ao:Nat)(am:List D)(aq:Bool)(ar:Nat)(ap:List D)(av:Bool)(O:Nat)(au:List D)(ax:Bool)(ay:Nat)(aw:List D)(aA:Bool)(aB:Nat)(az:List D)(aD:Bool)(aE:Nat)(aC:List D)(ab:Bool)(ac:Nat)(aa:List D)(V:Bool)(W:Nat)(U:List D)(Z:Bool)(a0:Nat)(Y:List D)(a2:Bool)(a3:Nat)(a1:List D)(a5:Bool)(a6:Nat)(a4:List D)(a8:Bool)(a9:Nat)(a7 ae af:List D)(aF:Bool)(vs:ByteArray)(K M:Int)(hC:∀t,C t=1):lv call L C ad al ak J z q ah ai ag aj an ao am aq ar ap av O au ax ay aw aA aB az aD aE aC ab ac aa V W U Z a0 Y a2 a3 a1 a5 a6 a4 a8 a9 a7 ae af aF vs K M=
 (bC aF
 (some (D.bool false))
 (bG (call 23 [D.agg [D.slc ab ac aa,D.slc V W U,D.slc Z a0 Y,D.slc a2 a3 a1,D.slc a5 a6 a4,D.slc a8 a9 a7],D.str vs]) fun aJ=>bF .i64 aJ fun aK=>bC (decide (aK<0))
 (some (D.bool false))
 (bC (decide (K<1))
 (some (D.bool false))
 (bC (decide (K>(O:Int)))
 (some (D.bool false))
 (bC (decide (q>0))
 (bL (decide (0≤IntKind.wrap .i64 (q-1)∧IntKind.wrap .i64 (q-1)<(J:Int)))
 (bu z (Int.toNat (IntKind.wrap .i64 (q-1))*3+2) fun aG=>bF .i64 aG fun aL=>bC (decide (aL>M))
 (some (D.bool false))
 (bL (decide (0≤IntKind.wrap .i64 (q-1)∧IntKind.wrap .i64 (q-1)<(J:Int)))
 (bu z (Int.toNat (IntKind.wrap .i64 (q-1))*3+2) fun aH=>bF .i64 aH fun aM=>bC (aM==M)
 (bL (decide (0≤IntKind.wrap .i64 (q-1)∧IntKind.wrap .i64 (q-1)<(J:Int)))
 (bu z (Int.toNat (IntKind.wrap .i64 (q-1))*3+1) fun aI=>bF .i64 aI fun aN=>bC (decide (aN<K))
 (some (D.bool false))
 (g9 call L C ad al ak J z q ah ai ag aj an ao am aq ar ap av O au ax ay aw aA aB az aD aE aC ab ac aa V W U Z a0 Y a2 a3 a1 a5 a6 a4 a8 a9 a7 vs K M ae af)))
 (g9 call L C ad al ak J z q ah ai ag aj an ao am aq ar ap av O au ax ay aw aA aB az aD aE aC ab ac aa V W U Z a0 Y a2 a3 a1 a5 a6 a4 a8 a9 a7 vs K M ae af)))))
 (g9 call L C ad al ak J z q ah ai ag aj an ao am aq ar ap av O au ax ay aw aA aB az aD aE aC ab ac aa V W U Z a0 Y a2 a3 a1 a5 a6 a4 a8 a9 a7 vs K M ae af)))))):=by
 unfold lv;rw[hC]
 kernel_rfl
theorem lV(call:CL)(L:Nat)(C:Nat→Nat)(V:Nat)(W:Bool)(O:Nat)(z:List D)(U Y:ByteArray)(Z a0:Int)(a1:ByteArray)(J K:List D)(M q:Int):fw call L C (V+1) W O z U Y Z a0 a1 J K M q=
 (bC (decide (q<M))
 (bL (decide (0≤q∧q<(O:Int)))
 (bu z (Int.toNat q*3+0) fun a5=>bY a5 fun a3=>bu z (Int.toNat q*3+1) fun a6=>bF .i64 a6 fun _x_21=>bu z (Int.toNat q*3+2) fun a7=>bF .i64 a7 fun a2=>bC (ByteArray.toList a3==ByteArray.toList U)
 (fa (cx (D.str a3) J 0)
 (bC (a2 !=IntKind.wrap .i64 (0+1))
 (some (D.bool false))
 (fw call L C V W O z U Y Z a0 a1 J K M (IntKind.wrap .i64 (q+1)))) fun aa=>bu K aa fun a8=>bF .i64 a8 fun ad=>bC (a2 !=IntKind.wrap .i64 (ad+1))
 (some (D.bool false))
 (fw call L C V W O z U Y Z a0 a1 J K M (IntKind.wrap .i64 (q+1))))
 (fa (cx (D.str a3) J 0)
 (bC (a2 !=IntKind.wrap .i64 (0+0))
 (some (D.bool false))
 (fw call L C V W O z U Y Z a0 a1 J K M (IntKind.wrap .i64 (q+1)))) fun ab=>bu K ab fun a9=>bF .i64 a9 fun ae=>bC (a2 !=IntKind.wrap .i64 (ae+0))
 (some (D.bool false))
 (fw call L C V W O z U Y Z a0 a1 J K M (IntKind.wrap .i64 (q+1))))))
 (bG (call 15 []) fun ac=>bW ac fun a4=>some (D.bool a4))):=by kernel_rfl
theorem vT(call:CL)(L:Nat)(C:Nat→Nat)(O U:ByteArray)(V W:Int)(Y:ByteArray)(z J:List D)(M:Bool)(q:Nat)(K:List D)(hC:∀t,C t=1):oO call L C O U V W Y z J M q K=
 (fw call L C L M q K O U V W Y z J ((q:Int)) 0):=by
 unfold oO;rw[hC]
 kernel_rfl
theorem x4(call:CL)(L:Nat)(C:Nat→Nat)(am:Bool)(O:Nat)(al:List D)(a1:Bool)(a2:Nat)(a0:List D)(a4:Bool)(a5:Nat)(a3:List D)(a7:Bool)(a8:Nat)(a6:List D)(aa:Bool)(ab:Nat)(a9:List D)(ad:Bool)(ae:Nat)(ac K M:List D)(U V:ByteArray)(W Y:Int)(Z:ByteArray)(af:Nat)(J:List D)(hC:∀t,C t=1):sv call L C am O al a1 a2 a0 a4 a5 a3 a7 a8 a6 aa ab a9 ad ae ac K M U V W Y Z af J=
 (bG (call 32 [D.agg [D.slc a1 a2 a0,D.slc a4 a5 a3,D.slc a7 a8 a6,D.slc false af J,D.slc aa ab a9,D.slc ad ae ac]]) fun ak=>fY ak 2 fun q=>bu q 0 fun ah=>cV ah fun aj z ag=>bu q 1 fun ai=>bF .i64 ai fun an=>bC (an !=0)
 (some (D.bool false))
 (bC ((z:Int) !=(O:Int))
 (some (D.bool false))
 (oO call L C U V W Y Z K M aj z ag))):=by
 unfold sv;rw[hC]
 kernel_rfl
theorem sw(call:CL)(L:Nat)(C:Nat→Nat)(af:Nat)(z:Int)(ad:Bool)(ae:Nat)(ac:List D)(ag:Bool)(q:Nat)(J:List D)(W:Bool)(Y:Nat)(V:List D)(a0:Bool)(a1:Nat)(Z:List D)(a3:Bool)(a4:Nat)(a2:List D)(a6:Bool)(a7:Nat)(a5:List D)(a9:Bool)(aa:Nat)(a8 O U:List D)(ab K:Int):gV call L C (af+1) z ad ae ac ag q J W Y V a0 a1 Z a3 a4 a2 a6 a7 a5 a9 aa a8 O U ab K=
 (bC (decide (K<ab))
 (bL (decide (0≤K∧K<(q:Int)))
 (bu J (Int.toNat K*5+0) fun az=>bY az fun ai=>bu J (Int.toNat K*5+1) fun aA=>bY aA fun bj=>bu J (Int.toNat K*5+2) fun aB=>bF .i64 aB fun _x_12=>bu J (Int.toNat K*5+3) fun aC=>bF .i64 aC fun _x_13=>bu J (Int.toNat K*5+4) fun aD=>bY aD fun bk=>
 (fa (cx (D.str ai) O 0)
 (bC (!ByteArray.toList bj==ByteArray.toList ai)
 (bC (!ByteArray.toList bk==ByteArray.toList (ByteArray.mk #[45]))
 (some (D.bool false))
 (gV call L C af z ad ae ac ag q J W Y V a0 a1 Z a3 a4 a2 a6 a7 a5 a9 aa a8 O U ab (IntKind.wrap .i64 (K+1))))
 (gV call L C af z ad ae ac ag q J W Y V a0 a1 Z a3 a4 a2 a6 a7 a5 a9 aa a8 O U ab (IntKind.wrap .i64 (K+1)))) fun aY=>bu U aY fun aE=>bF .i64 aE fun _x_14=>gV call L C af z ad ae ac ag q J W Y V a0 a1 Z a3 a4 a2 a6 a7 a5 a9 aa a8 O U ab (IntKind.wrap .i64 (K+1)))))
 (bC ((q:Int)==0)
 (bG (call 15 []) fun bg=>bW bg fun am=>some (D.bool am))
 (bL (!decide ((q:Int)=0))
 (bL (decide (0≤Int.tmod (IntKind.wrap .i64 z) (q:Int)∧Int.tmod (IntKind.wrap .i64 z) (q:Int)<(q:Int)))
 (bu J (Int.toNat (Int.tmod (IntKind.wrap .i64 z) (q:Int))*5+0) fun aF=>bY aF fun aj=>bu J (Int.toNat (Int.tmod (IntKind.wrap .i64 z) (q:Int))*5+1) fun aG=>bY aG fun ak=>bu J (Int.toNat (Int.tmod (IntKind.wrap .i64 z) (q:Int))*5+2) fun aH=>bF .i64 aH fun bm=>bu J (Int.toNat (Int.tmod (IntKind.wrap .i64 z) (q:Int))*5+3) fun aI=>bF .i64 aI fun ah=>bu J (Int.toNat (Int.tmod (IntKind.wrap .i64 z) (q:Int))*5+4) fun aJ=>bY aJ fun bl=>bL (decide (List.length J=q*5))
 (bL (List.all J D.one)
 (bC (decide (q=0))
 (bL (decide (0≤Int.tmod (IntKind.wrap .i64 z) (q:Int)∧Int.tmod (IntKind.wrap .i64 z) (q:Int)<(0:Int)))
 (bu ([]) (Int.toNat (Int.tmod (IntKind.wrap .i64 z) (q:Int))*5+3+0) fun aK=>bF .i64 aK fun _x_17=>bL (decide (0≤Int.tmod (IntKind.wrap .i64 z) (q:Int)∧Int.tmod (IntKind.wrap .i64 z) (q:Int)<(0:Int)))
 none))
 (bL (decide (0<q∧0=0∧(0+q)*64≤cB∧0+q≤4611686018427387903))
 (bL (decide (0≤Int.tmod (IntKind.wrap .i64 z) (q:Int)∧Int.tmod (IntKind.wrap .i64 z) (q:Int)<(((0+q):Nat):Int)))
 (bu J (Int.toNat (Int.tmod (IntKind.wrap .i64 z) (q:Int))*5+3+0) fun aL=>bF .i64 aL fun al=>bL (decide (0≤Int.tmod (IntKind.wrap .i64 z) (q:Int)∧Int.tmod (IntKind.wrap .i64 z) (q:Int)<(((0+q):Nat):Int)))
 (bL (decide (Int.toNat (Int.tmod (IntKind.wrap .i64 z) (q:Int))*5+3+0+1≤List.length J))
 (bC (ByteArray.toList ak==ByteArray.toList aj)
 (bG (call 15 []) fun bh=>bW bh fun an=>some (D.bool an))
 (bC (ah==0)
 (bG (call 15 []) fun bi=>bW bi fun ao=>some (D.bool ao))
 (bC (ah==99)
 (bG (call 15 []) fun bb=>bW bb fun ap=>some (D.bool ap))
 (bG (call 13 [D.agg [D.slc W Y V,D.slc a0 a1 Z,D.slc a3 a4 a2,D.slc false (0+q) (cr J (Int.toNat (Int.tmod (IntKind.wrap .i64 z) (q:Int))*5+3+0) [D.int .i64 (IntKind.wrap .i64 (al+1))]),D.slc a6 a7 a5,D.slc a9 aa a8]]) fun bc=>gG bc 6 fun M=>bu M 0 fun aM=>cV aM fun aV aZ ar=>bu M 1 fun aN=>cV aN fun aW b6 au=>bu M 2 fun aO=>cV aO fun aX b7 av=>bu M 3 fun aP=>cV aP fun aS b8 aw=>bu M 4 fun aQ=>cV aQ fun aT b9 ax=>bu M 5 fun aR=>cV aR fun aU ba ay=>bG (call 16 [D.agg [D.slc aV aZ ar,D.slc aW b6 au,D.slc aX b7 av,D.slc aS b8 aw,D.slc aT b9 ax,D.slc aU ba ay]]) fun bd=>bF .i64 bd fun bn=>bC (bn !=0)
 (bG (call 15 []) fun be=>bW be fun aq=>some (D.bool aq))
 (sv call L C ad ae ac W Y V a0 a1 Z a3 a4 a2 a6 a7 a5 a9 aa a8 O U aj ak bm ah bl (0+q) (cr J (Int.toNat (Int.tmod (IntKind.wrap .i64 z) (q:Int))*5+3+0) [D.int .i64 (IntKind.wrap .i64 (al+1))]))))))))))))))))):=by kernel_rfl
theorem sx(call:CL)(L:Nat)(C:Nat→Nat)(ah:Nat)(Z:Int)(a1:Bool)(a2:Nat)(a0:List D)(a4:Bool)(a5:Nat)(a3:List D)(a7:Bool)(a8:Nat)(a6:List D)(aa:Bool)(M:Nat)(a9:List D)(ac:Bool)(ad:Nat)(ab:List D)(af:Bool)(ag:Nat)(ae:List D)(W:Bool)(Y:Nat)(V:List D)(ai:Bool)(O:Nat)(z:List D)(U q:Int)(aB:Bool)(aC:Nat)(aA:List D)(ak:Bool)(al:Nat)(aj:List D)(an:Bool)(ao:Nat)(am:List D)(aq:Bool)(ar:Nat)(ap:List D)(av:Bool)(aw:Nat)(au:List D)(ay:Bool)(az:Nat)(ax J K:List D):qh call L C (ah+1) Z a1 a2 a0 a4 a5 a3 a7 a8 a6 aa M a9 ac ad ab af ag ae W Y V ai O z U q aB aC aA ak al aj an ao am aq ar ap av aw au ay az ax J K=
 (bC (decide (q<U))
 (bL (decide (0≤q∧q<(O:Int)))
 (bu z (Int.toNat q*3+0) fun aH=>bY aH fun s=>bu z (Int.toNat q*3+1) fun aI=>bF .i64 aI fun aD=>bu z (Int.toNat q*3+2) fun aF=>bF .i64 aF fun aE=>
 (fa (cx (D.str s) J 0)
 (lv call L C ah Z W Y V q ai O z U a1 a2 a0 a4 a5 a3 a7 a8 a6 aa M a9 ac ad ab af ag ae aB aC aA ak al aj an ao am aq ar ap av aw au ay az ax J K false s aD aE) fun i=>bu K i fun aG=>bF .i64 aG fun _x_11=>lv call L C ah Z W Y V q ai O z U a1 a2 a0 a4 a5 a3 a7 a8 a6 aa M a9 ac ad ab af ag ae aB aC aA ak al aj an ao am aq ar ap av aw au ay az ax J K true s aD aE)))
 (gV call L C L Z W Y V aa M a9 a1 a2 a0 a4 a5 a3 a7 a8 a6 ac ad ab af ag ae J K ((M:Int)) 0)):=by kernel_rfl
theorem EG(call:CL)(L:Nat)(C:Nat→Nat)(z:Bool)(J:Nat)(q:List D)(M:Bool)(O:Nat)(K:List D)(V:Bool)(W:Nat)(U:List D)(Z:Bool)(a0:Nat)(Y:List D)(a2:Bool)(a3:Nat)(a1:List D)(a5:Bool)(a6:Nat)(a4:List D)(ar:Int):bS (cD call L C) O0 N6 FinM.canon Tryz.f6 [D.agg [D.slc z J q,D.slc M O K,D.slc V W U,D.slc Z a0 Y,D.slc a2 a3 a1,D.slc a5 a6 a4],D.int IntKind.u8 ar]=
 (bG (call 13 [D.agg [D.slc z J q,D.slc M O K,D.slc V W U,D.slc Z a0 Y,D.slc a2 a3 a1,D.slc a5 a6 a4]]) fun r=>gG r 6 fun c=>bu c 0 fun d=>cV d fun f n a8=>bu c 1 fun av=>cV av fun ag am a9=>bu c 2 fun aw=>cV aw fun ah an aa=>bu c 3 fun ax=>cV ax fun ai ao ab=>bu c 4 fun ay=>cV ay fun aj ap ac=>bu c 5 fun az=>cV az fun ak aq ad=>bG (call 40 [D.agg [D.slc f n a8,D.slc ag am a9,D.slc ah an aa,D.slc ai ao ab,D.slc aj ap ac,D.slc ak aq ad]]) fun aC=>bW aC fun b=>bC (!b)
 (bG (call 15 []) fun aD=>bW aD fun au=>some (D.bool au))
 (bG (call 32 [D.agg [D.slc z J q,D.slc M O K,D.slc V W U,D.slc Z a0 Y,D.slc a2 a3 a1,D.slc a5 a6 a4]]) fun aE=>fY aE 2 fun ae=>bu ae 0 fun aA=>cV aA fun al a7 af=>bu ae 1 fun aB=>bF .i64 aB fun x=>bC (x !=0)
 (some (D.bool false))
 (qh call L C L ar z J q M O K V W U Z a0 Y a2 a3 a1 a5 a6 a4 al a7 af al a7 af ((a7:Int)) 0 f n a8 ag am a9 ah an aa ai ao ab aj ap ac ak aq ad ([]) ([])))):=by kernel_rfl
end Go.Pd
end
section
namespace Go.Pd
open Go Go.Proofs Go.RowKit
set_option maxRecDepth 100000
theorem Bb(s:ByteArray)(r:List ByteArray):∀(p:List ByteArray) (i:Nat),(∀y∈p,y≠s)→cx (.str s) (bz (p++s::r)) i=some (some (i+p.length))
 |[],i,_=>by
  have hk:eI (.str s) (.str s)=some true:=by
   show some (s==s)=_;rw[beq_toListBytes];show some (cN s s)=_;rw[sEq_iff.2 rfl]
  have e:cx (.str s) (bz (s::r)) i=match eI (.str s) (.str s) with
   |some true=>some (some i)
   |some false=>cx (.str s) (bz r) (i+1)
   |none=>none:=rfl
  rw[zb5,e,hk];rfl
 |x::p,i,h=>by
  have hk:eI (.str s) (.str x)=some false:=by
   show some (s==x)=_;rw[beq_toListBytes];show some (cN s x)=_;cases he:cN s x with
   |false=>rfl
   |true=>exact absurd (sEq_iff.1 he).symm (h x (za4 ..))
  have e:cx (.str s) (bz (x::(p++s::r))) i=match eI (.str s) (.str x) with
   |some true=>some (some i)
   |some false=>cx (.str s) (bz (p++s::r)) (i+1)
   |none=>none:=rfl
  rw[List.cons_append,e,hk];show cx (.str s) (bz (p++s::r)) (i+1)=_;rw[Bb s r p (i+1) fun y hy=>h y (za5 _ hy),za7]
  congr 2
  omega
theorem B6{s:ByteArray}{l:List ByteArray}(h:s∉l):cx (.str s) (bz l) 0=some none:=by
 rcases ir s l with⟨h1,_⟩|⟨_,_,_,h3⟩
 ·exact h1
 ·exact absurd (hasT_iff.1 h3) h
theorem Hh{s:ByteArray}{x:Int}{l:List ByteArray}{vs:List Int}(h:cx (.str s) (bz l) 0=some none):iA (.str s) (.int .i64 x) (bz l) (fQ vs)=some (bz (l++[s]),fQ (vs++[x])):=by
 unfold iA;rw[h];simp[bz,fQ]
theorem Bc:∀l:List bU,(l.flatMap bH).all D.one=true
 |[]=>rfl
 |x::l=>by
  rw[List.flatMap_cons,List.all_append,Bc l];rfl
theorem EH(pre:List bU)(x:bU)(r:List bU):cr ((pre++x::r).flatMap bH) (Int.toNat (pre.length:Int)*5+3+0) [.int .i64 (x.2.2.2.1+1)]=(pre++fW x::r).flatMap bH:=by
 have:=oN [.int .i64 (x.2.2.2.1+1)] (pre.flatMap bH++[.str x.1,.str x.2.1,.int .i64 x.2.2.1]) [.int .i64 x.2.2.2.1] (.str x.2.2.2.2::r.flatMap bH) rfl;rw[za6,dL bH 5 (fun _=>rfl)] at this;rw[za3,zd3,List.flatMap_cons,zd3,List.flatMap_cons];simp only[za8] at this;exact this
section
variable {u:UV}{B:FuncId→List D→Option D}{bf:Bool}{Bs:List d9}{v:Int}
theorem Qc(a23:∀s:ByteArray,B 23 [D.agg [.slc u.cf u.cl.length (bz u.cl),.slc u.me.isEmpty u.me.length (u.me.flatMap bO),.slc u.hf u.ho.length (u.ho.flatMap bR),.slc u.mr.isEmpty u.mr.length (u.mr.flatMap bH),.slc u.sf u.sg.length (bz u.sg),.slc u.pa.isEmpty u.pa.length (u.pa.flatMap bV)],.str s]=some (.int .i64 (ix (fun m:cw=>cN m.1 s) u.me)))(hb:Bs.length≤1000)
  (H:∀pre x r,Bs=pre++x::r→(∀y∈pre,y.1≠x.1)∧0≤plc u.me x∧1≤x.2.1∧x.2.1≤u.ho.length∧∀y∈pre,Rk (plc u.me) y x)
  (hend:gV B LL C1 LL v bf Bs.length (Bs.flatMap bT) u.kf u.mr.length (u.mr.flatMap bH) u.cf u.cl.length (bz u.cl) u.mf u.me.length (u.me.flatMap bO) u.hf u.ho.length (u.ho.flatMap bR) u.sf u.sg.length (bz u.sg) u.pf u.pa.length (u.pa.flatMap bV) (bz (Bs.map (·.1))) (fQ (Bs.map (·.2.2))) u.mr.length 0=some (.bool true)):
  ∀(r pre:List d9) (fuel:Nat),Bs=pre++r→r.length<fuel→
  qh B LL C1 fuel v u.cf u.cl.length (bz u.cl) u.mf u.me.length (u.me.flatMap bO) u.hf u.ho.length (u.ho.flatMap bR) u.kf u.mr.length (u.mr.flatMap bH) u.sf u.sg.length (bz u.sg) u.pf u.pa.length (u.pa.flatMap bV) bf Bs.length (Bs.flatMap bT) bf Bs.length (Bs.flatMap bT) Bs.length (pre.length:Int) u.cf u.cl.length (bz u.cl) u.me.isEmpty u.me.length (u.me.flatMap bO) u.hf u.ho.length (u.ho.flatMap bR) u.mr.isEmpty u.mr.length (u.mr.flatMap bH) u.sf u.sg.length (bz u.sg) u.pa.isEmpty u.pa.length (u.pa.flatMap bV) (bz (pre.map (·.1))) (fQ (pre.map (·.2.2)))=some (.bool true):=by
 intro r
 induction r with
 |nil=>
  intro pre fuel hp hf;cases fuel with
  |zero=>exact absurd hf (Nat.not_lt_zero _)
  |succ fuel=>
   rw[zb4] at hp;have he:decide ((pre.length:Int)<(Bs.length:Int))=false:=by rw[hp];simp
   rw[sx,he,br,←hp];exact hend
 |cons x r ih=>
  intro pre fuel hp hf;cases fuel with
  |zero=>exact absurd hf (Nat.not_lt_zero _)
  |succ fuel=>
   have ih:=ih (pre++[x]) fuel (by rw[hp];simp) (by simp at hf;omega);obtain⟨h1,h2,h3,h4,h5⟩:=H pre x r hp;have hpl:pre.length+1≤Bs.length:=by rw[hp];simp
   have l0:decide ((pre.length:Int)<(Bs.length:Int))=true:=by simp;omega
   have l1:decide ((0:Int)≤(pre.length:Int)∧(pre.length:Int)<(Bs.length:Int))=true:=by simp;omega
   have q0:∀(c:D→Option D),bu (Bs.flatMap bT) (Int.toNat (pre.length:Int)*3+0) c=c (.str x.1):=fun c=>by rw[hp];exact s0 c pre x r
   have q1:∀(c:D→Option D),bu (Bs.flatMap bT) (Int.toNat (pre.length:Int)*3+1) c=c (.int .i64 x.2.1):=fun c=>by rw[hp];exact s1 c pre x r
   have q2:∀(c:D→Option D),bu (Bs.flatMap bT) (Int.toNat (pre.length:Int)*3+2) c=c (.int .i64 x.2.2):=fun c=>by rw[hp];exact s2 c pre x r
   have hst:IntKind.wrap .i64 ((pre.length:Int)+1)=((pre++[x]).length:Int):=by rw[co (by omega)];simp
   have hfn:cx (.str x.1) (bz (pre.map (·.1))) 0=some none:=B6 fun hm=>by
    obtain⟨y,hy,he⟩:=zd4.1 hm;exact h1 y hy he
   have fin:gn B LL C1 fuel v bf Bs.length (Bs.flatMap bT) bf Bs.length (Bs.flatMap bT) Bs.length (pre.length:Int) u.cf u.cl.length (bz u.cl) u.mf u.me.length (u.me.flatMap bO) u.hf u.ho.length (u.ho.flatMap bR) u.kf u.mr.length (u.mr.flatMap bH) u.sf u.sg.length (bz u.sg) u.pf u.pa.length (u.pa.flatMap bV) u.cf u.cl.length (bz u.cl) u.me.isEmpty u.me.length (u.me.flatMap bO) u.hf u.ho.length (u.ho.flatMap bR) u.mr.isEmpty u.mr.length (u.mr.flatMap bH) u.sf u.sg.length (bz u.sg) u.pa.isEmpty u.pa.length (u.pa.flatMap bV) x.1 x.2.1 x.2.2 (bz (pre.map (·.1))) (fQ (pre.map (·.2.2)))=some (.bool true):=by
    rw[vR (hC:=c1),lr (Hh hfn),hst];rw[List.map_append,List.map_append] at ih;exact ih
   have g3:decide (ix (fun m:cw=>cN m.1 x.1) u.me<0)=false:=za2 (by have:0≤ix (fun m:cw=>cN m.1 x.1) u.me:=h2;omega);have g4:decide (x.2.1<1)=false:=za2 (by omega);have g5:decide (x.2.1>(u.ho.length:Int))=false:=za2 (by omega);rw[sx,l0,bx,l1,bw,q0,bA,q1,bv,q2,bv,iU hfn,vS (hC:=c1),br,a23,bq,bv,g3,br,g4,br,g5,br];rcases x3 pre with rfl|⟨p,y,rfl⟩
   ·rw[show decide ((([]:List d9).length:Int)>0)=false from rfl,br,nR (hC:=c1),show decide ((([]:List d9).length:Int)>0)=false from rfl,br];exact fin
   ·have hR:=h5 y (by simp);have hw:IntKind.wrap .i64 (((p++[y]).length:Int)-1)=(p.length:Int):=by rw[co (by omega)];simp
    have d0:decide (((p++[y]).length:Int)>0)=true:=by simp only[za6,zc5];simp
    have d1:decide ((0:Int)≤(p.length:Int)∧(p.length:Int)<(Bs.length:Int))=true:=by simp at hpl;simp;omega
    have hp':Bs=p++y::(x::r):=by rw[hp];simp
    have y0:∀(c:D→Option D),bu (Bs.flatMap bT) (Int.toNat (p.length:Int)*3+0) c=c (.str y.1):=fun c=>by rw[hp'];exact s0 c p y (x::r)
    have y1:∀(c:D→Option D),bu (Bs.flatMap bT) (Int.toNat (p.length:Int)*3+1) c=c (.int .i64 y.2.1):=fun c=>by rw[hp'];exact s1 c p y (x::r)
    have y2:∀(c:D→Option D),bu (Bs.flatMap bT) (Int.toNat (p.length:Int)*3+2) c=c (.int .i64 y.2.2):=fun c=>by rw[hp'];exact s2 c p y (x::r)
    have hle:¬y.2.2>x.2.2:=by
     rcases hR with h|⟨h,_⟩
     ·have:=ltS_iff.1 h;omega
     ·have:=ltS_no.1 h;omega
    have FR:g9 B LL C1 fuel v bf Bs.length (Bs.flatMap bT) ((p++[y]).length:Int) bf Bs.length (Bs.flatMap bT) Bs.length u.cf u.cl.length (bz u.cl) u.mf u.me.length (u.me.flatMap bO) u.hf u.ho.length (u.ho.flatMap bR) u.kf u.mr.length (u.mr.flatMap bH) u.sf u.sg.length (bz u.sg) u.pf u.pa.length (u.pa.flatMap bV) u.cf u.cl.length (bz u.cl) u.me.isEmpty u.me.length (u.me.flatMap bO) u.hf u.ho.length (u.ho.flatMap bR) u.mr.isEmpty u.mr.length (u.mr.flatMap bH) u.sf u.sg.length (bz u.sg) u.pa.isEmpty u.pa.length (u.pa.flatMap bV) x.1 x.2.1 x.2.2 (bz ((p++[y]).map (·.1))) (fQ ((p++[y]).map (·.2.2)))=some (.bool true):=by
     rw[nR (hC:=c1),d0,bx,hw,d1,bw,y2,bv,bw,y1,bv,bw,y0,bA,a23,bq,bv,a23,bq,bv];by_cases e1:y.2.2=x.2.2
     ·rw[show(y.2.2==x.2.2)=true from ze1.2 e1,bx];by_cases e2:y.2.1=x.2.1
      ·have hk:plc u.me y<plc u.me x:=by
        rcases hR with h|⟨_,h⟩
        ·have:=ltS_iff.1 h;omega
        ·exact h
       rw[show(y.2.1==x.2.1)=true from ze1.2 e2,bx,show decide (ix (fun m:cw=>cN m.1 y.1) u.me>ix (fun m:cw=>cN m.1 x.1) u.me)=false from za2 (by
        have:ix (fun m:cw=>cN m.1 y.1) u.me<ix (fun m:cw=>cN m.1 x.1) u.me:=hk;omega),br]
       exact fin
      ·rw[show(y.2.1==x.2.1)=false from beq_eq_false_iff_ne.2 e2,br];exact fin
     ·rw[show(y.2.2==x.2.2)=false from beq_eq_false_iff_ne.2 e1,br];exact fin
    rw[d0,bx,hw,d1,bw,y2,bv,show decide (y.2.2>x.2.2)=false from za2 hle,br,bw,y2,bv,bw,y1,bv];by_cases e1:y.2.2=x.2.2
    ·have e2:¬y.2.1<x.2.1:=by
      rcases hR with h|⟨h,_⟩
      ·have:=ltS_iff.1 h;omega
      ·have:=ltS_no.1 h;omega
     rw[show(y.2.2==x.2.2)=true from ze1.2 e1,bx,show decide (y.2.1<x.2.1)=false from za2 e2,br];exact FR
    ·rw[show(y.2.2==x.2.2)=false from beq_eq_false_iff_ne.2 e1,br];exact FR
theorem Qd(hl:u.mr.length≤100000)(H:∀x∈u.mr,x.1∈Bs.map (·.1)∨cN x.2.1 x.1=true∨eQ x.2.2.2.2=true){M:Option D}
  (hend:∀fuel,gV B LL C1 (fuel+1) v bf Bs.length (Bs.flatMap bT) u.kf u.mr.length (u.mr.flatMap bH) u.cf u.cl.length (bz u.cl) u.mf u.me.length (u.me.flatMap bO) u.hf u.ho.length (u.ho.flatMap bR) u.sf u.sg.length (bz u.sg) u.pf u.pa.length (u.pa.flatMap bV) (bz (Bs.map (·.1))) (fQ (Bs.map (·.2.2))) u.mr.length (u.mr.length:Int)=M):
  ∀(r pre:List bU) (fuel:Nat),u.mr=pre++r→r.length<fuel→
  gV B LL C1 fuel v bf Bs.length (Bs.flatMap bT) u.kf u.mr.length (u.mr.flatMap bH) u.cf u.cl.length (bz u.cl) u.mf u.me.length (u.me.flatMap bO) u.hf u.ho.length (u.ho.flatMap bR) u.sf u.sg.length (bz u.sg) u.pf u.pa.length (u.pa.flatMap bV) (bz (Bs.map (·.1))) (fQ (Bs.map (·.2.2))) u.mr.length (pre.length:Int)=M:=by
 intro r
 induction r with
 |nil=>
  intro pre fuel hp hf;cases fuel with
  |zero=>exact absurd hf (Nat.not_lt_zero _)
  |succ fuel=>
   rw[zb4] at hp;have:=hend fuel;rw[show((pre.length:Nat):Int)=(u.mr.length:Int) by rw[hp]];exact this
 |cons x r ih=>
  intro pre fuel hp hf;cases fuel with
  |zero=>exact absurd hf (Nat.not_lt_zero _)
  |succ fuel=>
   have ih:=ih (pre++[x]) fuel (by rw[hp];simp) (by simp at hf;omega);have hpl:pre.length+1≤u.mr.length:=by rw[hp];simp
   have l0:decide ((pre.length:Int)<(u.mr.length:Int))=true:=by simp;omega
   have l1:decide ((0:Int)≤(pre.length:Int)∧(pre.length:Int)<(u.mr.length:Int))=true:=by simp;omega
   have q0:∀(c:D→Option D),bu (u.mr.flatMap bH) (Int.toNat (pre.length:Int)*5+0) c=c (.str x.1):=fun c=>by rw[hp];exact k0 c pre x r
   have q1:∀(c:D→Option D),bu (u.mr.flatMap bH) (Int.toNat (pre.length:Int)*5+1) c=c (.str x.2.1):=fun c=>by rw[hp];exact k1 c pre x r
   have q2:∀(c:D→Option D),bu (u.mr.flatMap bH) (Int.toNat (pre.length:Int)*5+2) c=c (.int .i64 x.2.2.1):=fun c=>by rw[hp];exact k2 c pre x r
   have q3:∀(c:D→Option D),bu (u.mr.flatMap bH) (Int.toNat (pre.length:Int)*5+3) c=c (.int .i64 x.2.2.2.1):=fun c=>by rw[hp];exact k3 c pre x r
   have q4:∀(c:D→Option D),bu (u.mr.flatMap bH) (Int.toNat (pre.length:Int)*5+4) c=c (.str x.2.2.2.2):=fun c=>by rw[hp];exact k4 c pre x r
   have hst:IntKind.wrap .i64 ((pre.length:Int)+1)=((pre++[x]).length:Int):=by rw[co (by omega)];simp
   rw[sw,l0,bx,l1,bw,q0,bA,q1,bA,q2,bv,q3,bv,q4,bA,hst];rcases ir x.1 (Bs.map (·.1)) with⟨h1,h2⟩|⟨j,h1,h2,_⟩
   ·rw[iU h1];have hx:=(H x (by rw[hp];simp)).resolve_left fun h=>by rw[hasT_iff.2 h] at h2;cases h2
    show bC (!cN x.2.1 x.1) (bC (!eQ x.2.2.2.2) _ _) _=_;rcases hx with h|h
    ·rw[h,Bool.not_true,br];exact ih
    ·rw[h,Bool.not_true,br];cases cN x.2.1 x.1
     ·exact ih
     ·exact ih
   ·have hj:j<(fQ (Bs.map (·.2.2))).length:=by
     rw[zc0] at h2;simp[fQ];exact h2
    obtain⟨z,hz⟩:∃z,(fQ (Bs.map (·.2.2)))[j]?=some (.int .i64 z):=by
     rw[zc0] at h2;exact⟨(Bs[j]).2.2,by simp[fQ,h2]⟩
    rw[fU h1,cu hz,bv];exact ih
theorem Qe{C:List d9}{cf:Bool}{x:bU}(hc:C.length≤1000)(h15:B 15 []=some (.bool true))
  (H:∀s∈C,∃p q r,Bs=p++q::r∧(∀y∈p,y.1≠s.1)∧q.1=s.1∧-100000≤q.2.2∧q.2.2≤100000∧s.2.2=q.2.2+bC (cN s.1 x.1) 1 0):
  ∀(r pre:List d9) (fuel:Nat),C=pre++r→r.length<fuel→
  fw B LL C1 fuel cf C.length (C.flatMap bT) x.1 x.2.1 x.2.2.1 x.2.2.2.1 x.2.2.2.2 (bz (Bs.map (·.1))) (fQ (Bs.map (·.2.2))) C.length (pre.length:Int)=some (.bool true):=by
 intro r
 induction r with
 |nil=>
  intro pre fuel hp hf;cases fuel with
  |zero=>exact absurd hf (Nat.not_lt_zero _)
  |succ fuel=>
   rw[zb4] at hp;have he:decide ((pre.length:Int)<(C.length:Int))=false:=by rw[hp];simp
   rw[lV,he,br,h15,bq,bD]
 |cons s r ih=>
  intro pre fuel hp hf;cases fuel with
  |zero=>exact absurd hf (Nat.not_lt_zero _)
  |succ fuel=>
   have ih:=ih (pre++[s]) fuel (by rw[hp];simp) (by simp at hf;omega);have hpl:pre.length+1≤C.length:=by rw[hp];simp
   have l0:decide ((pre.length:Int)<(C.length:Int))=true:=by simp;omega
   have l1:decide ((0:Int)≤(pre.length:Int)∧(pre.length:Int)<(C.length:Int))=true:=by simp;omega
   have q0:∀(c:D→Option D),bu (C.flatMap bT) (Int.toNat (pre.length:Int)*3+0) c=c (.str s.1):=fun c=>by rw[hp];exact s0 c pre s r
   have q1:∀(c:D→Option D),bu (C.flatMap bT) (Int.toNat (pre.length:Int)*3+1) c=c (.int .i64 s.2.1):=fun c=>by rw[hp];exact s1 c pre s r
   have q2:∀(c:D→Option D),bu (C.flatMap bT) (Int.toNat (pre.length:Int)*3+2) c=c (.int .i64 s.2.2):=fun c=>by rw[hp];exact s2 c pre s r
   have hst:IntKind.wrap .i64 ((pre.length:Int)+1)=((pre++[s]).length:Int):=by rw[co (by omega)];simp
   obtain⟨p,q,r',hB,h1,h2,h3,h4,h5⟩:=H s (by rw[hp];simp);have hfd:cx (.str s.1) (bz (Bs.map (·.1))) 0=some (some (0+p.length)):=by
    rw[hB,List.map_append,List.map_cons,h2];have:=Bb s.1 (r'.map (·.1)) (p.map (·.1)) 0 fun y hy=>by
     obtain⟨z,hz,rfl⟩:=zd4.1 hy;exact h1 z hz
    rw[zc0] at this;exact this
   have hv:(fQ (Bs.map (·.2.2)))[0+p.length]?=some (.int .i64 q.2.2):=by
    rw[hB,Nat.zero_add];simp[fQ]
   rw[lV,l0,bx,l1,bw,q0,bA,q1,bv,q2,bv,fU hfd,cu hv,bv,fU hfd,cu hv,bv,hst,h5];show bC (cN s.1 x.1) _ _=_;cases cN s.1 x.1 with
   |true=>
    rw[bx,bx,co (x:=q.2.2+1) (by omega),show(q.2.2+1 !=q.2.2+1)=false by simp,br];exact ih
   |false=>
    rw[br,br,co (x:=q.2.2+0) (by omega),show(q.2.2+0 !=q.2.2+0)=false by simp,br];exact ih
end
theorem EI{ho:List eT}(hv:KM ho){h:Int}(hl: -99≤h)(hr:h≤99):∀(l:List cM) (i:Nat),(∀x∈l,0≤x.1∧x.1≤99)→i+l.length≤ho.length→-300*(l.length:Int)≤vM ho h l i∧vM ho h l i≤300*(l.length:Int)
 |[],_,_,_=>⟨by show _≤(0:Int);simp,by show(0:Int)≤_;simp⟩
 |x::l,i,hx,hi=>by
  simp at hi;have ih:=EI hv hl hr l (i+1) (fun y hy=>hx y (za5 _ hy)) (by omega);obtain⟨g1,g2⟩:=El (show 0<ho.length by omega) (nQ hv) (hS ho) hl hr i;obtain⟨p1,p2⟩:=Ba hv (i:=i) (by omega);have pb:=En (g:=mB ho.length (hS ho) h i) (p:=hP ho i) (hx x (za4 ..)) ⟨by omega,by omega⟩ ⟨by omega,by omega⟩;show _≤iB _ _ x+vM ho h l (i+1)∧iB _ _ x+vM ho h l (i+1)≤_;rw[za7];omega
section
variable {u:UV}
theorem KR(h:u.Ok):((gF (je u)).map (·.1)).Nodup:=by
 have h1:((je u).map (·.1)).Nodup:=by
  have hs:((je u).map (·.1)).Sublist (u.me.map (·.1)):=by
   have:=(List.filter_sublist (p:=fun s:d9=>decide (s.2.1>0)) (l:=u.me.map fun m=>xU u.ho m (kb u m.1))).map (·.1);rw[List.map_map] at this;exact this
  exact hs.nodup h.nd
 exact((sc _).map _).nodup_iff.2 h1
theorem HZ(h:u.Ok)(pre:List d9)(x:d9)(r:List d9)(hp:gF (je u)=pre++x::r):(∀y∈pre,y.1≠x.1)∧0≤plc u.me x∧1≤x.2.1∧x.2.1≤u.ho.length∧∀y∈pre,Rk (plc u.me) y x:=by
 have hmem:x∈je u:=srt_mem.1 (by rw[hp];simp);obtain⟨m,hm,hx,hpos⟩:=stL_mem.1 hmem;have nd:=KR h;rw[hp,List.map_append,List.map_cons] at nd;have pw:=Ep (je u) (zW h.nd u.me [] rfl);rw[hp] at pw;obtain⟨p2,r2,h2⟩:=List.append_of_mem hm;have hk:plc u.me x=(p2.length:Int):=by rw[hx];exact EF h.nd h2
 have ht:=(zM (kb u m.1)).2;rw[show(kb u m.1).length=u.ho.length from jy _ _ _ _] at ht;have hx1:x.2.1=oL (kb u m.1):=by rw[hx];rfl
 exact⟨fun y hy=>(List.nodup_append.1 nd).2.2 y.1 (zd4.2 ⟨y,hy,rfl⟩) x.1 (za4 ..),by rw[hk];omega,by omega,by omega,fun y hy=>(List.pairwise_append.1 pw).2.2 y hy x (za4 ..)⟩
theorem On(h:u.Ok)(x:bU)(hx:x∈u.mr):x.1∈(gF (je u)).map (·.1)∨cN x.2.1 x.1=true∨eQ x.2.2.2.2=true:=by
 obtain⟨pre,r,hl⟩:=List.append_of_mem hx;have k:=xW h.mr hl;cases ho:cN x.2.1 x.1 with
 |true=>exact .inr (.inl rfl)
 |false=>
  cases hd:eQ x.2.2.2.2 with
  |true=>exact .inr (.inr rfl)
  |false=>
   obtain⟨m,hm,he⟩:=zd4.1 k.pl;have tw:=k.tw;rw[ho] at tw;have hself:=Er x;rw[ho] at hself;obtain⟨j,hj⟩:∃j:Nat,x.2.2.1=(j:Int):=⟨x.2.2.1.toNat,by have:=k.lo;omega⟩;have h1:=k.lo;have h2:=k.hi;have hen:(fk u.mr x.1 (j:Int) false).1=x.2.2.2:=by
    unfold fk;rw[←hj,hl,Es tw hself]
   have hc:=AZ (l:=u.mr) (s:=x.1) u.ho.length 0 j (by omega) (by omega);rw[hen] at hc;refine .inl (zd4.2 ⟨xU u.ho m (kb u m.1),srt_mem.2 (stL_mem.2 ⟨m,hm,rfl,?_⟩),he⟩);show oL (kb u m.1)>0;rw[he];exact AY hc hd
def cR(u:UV)(pre:List bU)(x:bU)(r:List bU):UV:={u with kf:=false,mr:=pre++fW x::r}
theorem Hk{pre r:List bU}{x:bU}(h:u.Ok)(hl:u.mr=pre++x::r)(hz:x.2.2.2.1≠0):eQ x.2.2.2.2=false∧(dP x.2.2.2.2||fc x.2.2.2.2)=true:=by
 have k:=(xW h.mr hl).en;unfold dN at k;cases hm:dP x.2.2.2.2||fc x.2.2.2.2 with
 |false=>
  rw[hm,br] at k;cases h2:px x.2.2.2.2||eQ x.2.2.2.2 with
  |false=>rw[h2,br] at k;cases k
  |true=>
   rw[h2,bx,show(x.2.2.2.1 !=0)=true by simpa using hz,bx] at k;cases k
 |true=>
  refine⟨?_,rfl⟩;cases hd:eQ x.2.2.2.2 with
  |false=>rfl
  |true=>
   have e:ByteArray.toList x.2.2.2.2=ByteArray.toList (ByteArray.mk #[45]):=ze1.1 hd;unfold dP fc at hm;rw[e] at hm;exact absurd hm (by decide+kernel)
section
variable {pre r:List bU}{x:bU}(h:u.Ok)(hl:u.mr=pre++x::r)(ho:cN x.2.1 x.1=false)(hz:x.2.2.2.1≠0)
include h hl ho hz
theorem Bd(m:cw):xU u.ho m (kb (cR u pre x r) m.1)=(m.1,oL (kb u m.1),vM u.ho m.2.2 (kb u m.1) 0+bC (cN m.1 x.1) 1 0):=by
 have k:=xW h.mr hl;obtain⟨q1,q2⟩:=Hk h hl hz;have tw:=k.tw;rw[ho] at tw;have h1:=k.lo;have h2:=k.hi;have e1:=Eu (pre:=pre) (r:=r) (x:=x) m.1 u.ho.length 0;have e2:=Ev (pre:=pre) (r:=r) (x:=x) tw q1 q2 ho u.ho m.2.2 m.1 u.ho.length 0;have d:(decide (((0:Nat):Int)<x.2.2.1)&&decide (x.2.2.1≤((0+u.ho.length:Nat):Int)))=true:=by simp;omega
 rw[d,Bool.and_true,nE] at e2;rw[←hl] at e1 e2;show(m.1,oL (dW (pre++fW x::r) m.1 u.ho.length 0),vM u.ho m.2.2 (dW (pre++fW x::r) m.1 u.ho.length 0) 0)=_;rw[e1,e2];rfl
theorem sy:(je (cR u pre x r)).length=(je u).length:=by
 have H:∀l:List cw,(sa u.ho (kb (cR u pre x r)) l).length=(sa u.ho (kb u) l).length:=by
  intro l;unfold sa
  induction l with
  |nil=>rfl
  |cons m l ih=>
   rw[List.map_cons,List.map_cons,List.filter_cons,List.filter_cons,Bd h hl ho hz m];show(if decide (oL (kb u m.1)>0)=true then _ else _:List d9).length=(if decide (oL (kb u m.1)>0)=true then _ else _:List d9).length;cases decide (oL (kb u m.1)>0)
   ·exact ih
   ·show(_::_:List d9).length=(_::_:List d9).length;rw[za7,za7];exact congrArg (·+1) ih
 exact H u.me
theorem KS(s:d9)(hs:s∈gF (je (cR u pre x r))):∃p q r',gF (je u)=p++q::r'∧(∀y∈p,y.1≠s.1)∧q.1=s.1∧-100000≤q.2.2∧q.2.2≤100000∧s.2.2=q.2.2+bC (cN s.1 x.1) 1 0:=by
 obtain⟨m,hm,e,hpos⟩:=stL_mem.1 (srt_mem.1 hs);have e:s=xU u.ho m (kb (cR u pre x r) m.1):=e;rw[Bd h hl ho hz] at e;have hq:xU u.ho m (kb u m.1)∈gF (je u):=srt_mem.2 (stL_mem.2 ⟨m,hm,rfl,by rw[e] at hpos;exact hpos⟩);obtain⟨p,r',hp⟩:=List.append_of_mem hq;have hb:=h.me m hm;have b:=EI h.ho hb.1 hb.2.1 (kb u m.1) 0 (EE h m.1) (by rw[show(kb u m.1).length=u.ho.length from jy _ _ _ _];omega);rw[show(kb u m.1).length=u.ho.length from jy _ _ _ _] at b;have h36:=nQ h.ho;refine⟨p,_,r',hp,fun y hy=> ?_,by rw[e];rfl,?_,?_,by rw[e];rfl⟩
 ·have:=(HZ h p _ r' hp).1 y hy;rw[e];exact this
 ·show -100000≤vM u.ho m.2.2 (kb u m.1) 0;omega
 ·show vM u.ho m.2.2 (kb u m.1) 0≤100000;omega
end
def Qf(f:FuncId)(ds1 ds2:List D)(r1 r2:D):Fam:=⟨f,Bool,fun b=>match b with
 |true=>ds1
 |false=>ds2,fun b=>match b with
 |true=>r1
 |false=>r2⟩
theorem x5{f:FuncId}{ds1 ds2:List D}{r1 r2:D}(h1:ct f ds1 r1)(h2:ct f ds2 r2)(hne:ds1≠ds2):(Qf f ds1 ds2 r1 r2).Good:=
 ⟨fun b=>match b with
  |true=>h1
  |false=>h2,fun i j e=>match i,j,e with
  |true,true,_=>rfl
  |false,false,_=>rfl
  |true,false,e=>absurd e hne
  |false,true,e=>absurd e.symm hne⟩
theorem H0{pre r:List bU}{x:bU}(hl:u.mr=pre++x::r):[dY u]≠[dY (cR u pre x r)]:=fun e=>by
 simp only[dY,cR,zc3,D.agg.injEq,D.slc.injEq,and_true] at e;have e3:u.mr.flatMap bH=(pre++fW x::r).flatMap bH:=e.2.2.2.2.2;have a:=k3 (γ:=D) some pre x r;have b:=k3 (γ:=D) some pre (fW x) r;rw[←hl,e3,b] at a;have:x.2.2.2.1+1=x.2.2.2.1:=by
  have:=Option.some.inj a;simp only[D.int.injEq,true_and] at this;exact this
 omega
theorem Hl{B:FuncId→List D→Option D}{bf:Bool}{Bs:List d9}{v:Int}(hv:0≤v∧v≤255)(hu:u.Fit')(h:u.Ok)(h64:u.mr.length*64≤cB)(hB:Bs=gF (je u))(h15:B 15 []=some (.bool true))
  (hM:∀pre x r,u.mr=pre++x::r→Int.tmod v (u.mr.length:Int)=(pre.length:Int)→cN x.2.1 x.1=false→x.2.2.2.1≠0→
   B 13 [dY (cR u pre x r)]=some (dY (e9 (cR u pre x r)))∧B 16 [dY (e9 (cR u pre x r))]=some (.int .i64 (uE (cR u pre x r)))∧(uE (cR u pre x r)=0→B 32 [dY (cR u pre x r)]=some (.tup [eF bT (gF (je (cR u pre x r))),.int .i64 0]))) (fuel:Nat):
  gV B LL C1 (fuel+1) v bf Bs.length (Bs.flatMap bT) u.kf u.mr.length (u.mr.flatMap bH) u.cf u.cl.length (bz u.cl) u.mf u.me.length (u.me.flatMap bO) u.hf u.ho.length (u.ho.flatMap bR) u.sf u.sg.length (bz u.sg) u.pf u.pa.length (u.pa.flatMap bV) (bz (Bs.map (·.1))) (fQ (Bs.map (·.2.2))) u.mr.length (u.mr.length:Int)=some (.bool true):=by
 have he:decide ((u.mr.length:Int)<(u.mr.length:Int))=false:=by simp
 rw[sw,he,br];by_cases hz:u.mr=[]
 ·rw[show((u.mr.length:Int)==0)=true by rw[hz];rfl,bx,h15,bq,bD]
 ·have hpos:0<u.mr.length:=List.length_pos_iff.2 hz;have hlm:u.mr.length≤100000:=hu.1.2.2.2.1;obtain⟨k,hk1,hk2⟩:∃k:Nat,Int.tmod v (u.mr.length:Int)=(k:Int)∧k<u.mr.length:=by
   obtain⟨w,rfl⟩:∃w:Nat,v=(w:Int):=⟨v.toNat,by omega⟩;exact⟨w%u.mr.length,rfl,zd6 _ hpos⟩
  obtain⟨pre,r,hd,hpl⟩:=kQ (zd0 hk2);generalize u.mr[k]=x at hd;have hk1:Int.tmod v (u.mr.length:Int)=(pre.length:Int):=by rw[hk1,hpl]
  have hpn:pre.length<u.mr.length:=by rw[hpl];exact hk2
  have n1:((u.mr.length:Int)==0)=false:=beq_eq_false_iff_ne.2 (by omega);have n2:(!decide ((u.mr.length:Int)=0))=true:=by simp;exact hz
  have n3:decide ((0:Int)≤(pre.length:Int)∧(pre.length:Int)<(u.mr.length:Int))=true:=by simp;omega
  have q0:∀(c:D→Option D),bu (u.mr.flatMap bH) (Int.toNat (pre.length:Int)*5+0) c=c (.str x.1):=fun c=>by rw[hd];exact k0 c pre x r
  have q1:∀(c:D→Option D),bu (u.mr.flatMap bH) (Int.toNat (pre.length:Int)*5+1) c=c (.str x.2.1):=fun c=>by rw[hd];exact k1 c pre x r
  have q2:∀(c:D→Option D),bu (u.mr.flatMap bH) (Int.toNat (pre.length:Int)*5+2) c=c (.int .i64 x.2.2.1):=fun c=>by rw[hd];exact k2 c pre x r
  have q3:∀(c:D→Option D),bu (u.mr.flatMap bH) (Int.toNat (pre.length:Int)*5+3) c=c (.int .i64 x.2.2.2.1):=fun c=>by rw[hd];exact k3 c pre x r
  have q4:∀(c:D→Option D),bu (u.mr.flatMap bH) (Int.toNat (pre.length:Int)*5+4) c=c (.str x.2.2.2.2):=fun c=>by rw[hd];exact k4 c pre x r
  have q5:∀(c:D→Option D),bu (u.mr.flatMap bH) (Int.toNat (pre.length:Int)*5+3+0) c=c (.int .i64 x.2.2.2.1):=q3;have hfl:(u.mr.flatMap bH).length=u.mr.length*5:=dL bH 5 (fun _=>rfl) _;have n4:decide ((u.mr.flatMap bH).length=u.mr.length*5)=true:=by simpa using hfl
  have n5:decide (u.mr.length=0)=false:=za2 (by omega);have n6:decide (0<u.mr.length∧0=0∧(0+u.mr.length)*64≤cB∧0+u.mr.length≤4611686018427387903)=true:=za1 ⟨hpos,rfl,by rw[Nat.zero_add];exact h64,by omega⟩;have n7:decide ((0:Int)≤(pre.length:Int)∧(pre.length:Int)<((0+u.mr.length:Nat):Int))=true:=by simp;omega
  have n8:decide (Int.toNat (pre.length:Int)*5+3+0+1≤(u.mr.flatMap bH).length)=true:=by rw[hfl];simp;omega
  have hx:=AW (xW h.mr hd).en;have hx':0≤x.2.2.2.1∧x.2.2.2.1≤99:=hx;have hwx:IntKind.wrap .i64 (x.2.2.2.1+1)=x.2.2.2.1+1:=co (by omega);have hwr:cr (u.mr.flatMap bH) (Int.toNat (pre.length:Int)*5+3+0) [.int .i64 (x.2.2.2.1+1)]=(pre++fW x::r).flatMap bH:=by rw[hd];exact EH pre x r
  have hlen:0+u.mr.length=(pre++fW x::r).length:=by rw[hd];simp
  rw[n1,br,n2,bw,co (x:=v) (by omega),hk1,n3,bw,q0,bA,q1,bA,q2,bv,q3,bv,q4,bA,n4,bw,Bc,bw,n5,br,n6,bw,n7,bw,q5,bv,bw,n8,bw,hwx,hwr,hlen];show bC (cN x.2.1 x.1) _ _=_;cases ho:cN x.2.1 x.1 with
  |true=>rw[bx,h15,bq,bD]
  |false=>
   rw[br];by_cases h0:x.2.2.2.1=0
   ·rw[show(x.2.2.2.1==0)=true from ze1.2 h0,bx,h15,bq,bD]
   ·rw[show(x.2.2.2.1==0)=false from beq_eq_false_iff_ne.2 h0,br];by_cases h9:x.2.2.2.1=99
    ·rw[show(x.2.2.2.1==99)=true from ze1.2 h9,bx,h15,bq,bD]
    ·rw[show(x.2.2.2.1==99)=false from beq_eq_false_iff_ne.2 h9,br];obtain⟨a13,a16,a32⟩:=hM pre x r hd hk1 ho h0;have a13:B 13 [D.agg [.slc u.cf u.cl.length (bz u.cl),.slc u.mf u.me.length (u.me.flatMap bO),.slc u.hf u.ho.length (u.ho.flatMap bR),.slc false (pre++fW x::r).length ((pre++fW x::r).flatMap bH),.slc u.sf u.sg.length (bz u.sg),.slc u.pf u.pa.length (u.pa.flatMap bV)]]=some (dY (e9 (cR u pre x r))):=a13;rw[a13,bq];unfold dY;rw[GV,GW,bI,GX,bI,GY,bI,GZ,bI,G0,bI,G1,bI];unfold dY at a16;rw[a16,bq,bv];by_cases hE:uE (cR u pre x r)=0
     ·rw[hE,show((0:Int) !=0)=false from rfl,br];have a32:B 32 [D.agg [.slc u.cf u.cl.length (bz u.cl),.slc u.mf u.me.length (u.me.flatMap bO),.slc u.hf u.ho.length (u.ho.flatMap bR),.slc false (pre++fW x::r).length ((pre++fW x::r).flatMap bH),.slc u.sf u.sg.length (bz u.sg),.slc u.pf u.pa.length (u.pa.flatMap bV)]]=some (.tup [eF bT (gF (je (cR u pre x r))),.int .i64 0]):=a32 hE;have hln:((gF (je (cR u pre x r))).length:Int)=(Bs.length:Int):=by rw[hB,fV,fV,sy h hd ho h0]
      have hsl:(gF (je (cR u pre x r))).length≤100000:=by
       rw[fV,sy h hd ho h0];exact zb1 (nN _ _ _) hu.1.2.1
      rw[x4 (hC:=c1),a32,bq,oE,gT,dM,bI,gU,bv,show((0:Int) !=0)=false from rfl,br,hln,show((Bs.length:Int) !=(Bs.length:Int))=false by simp,br,vT (hC:=c1)];subst hB;have hcn:(gF (je (cR u pre x r))).length≤1000:=by
       rw[fV,sy h hd ho h0];have:=nN u.ho (kb u) u.me;have hf:=h.few;unfold je;omega
      exact Qe (Bs:=gF (je u)) (cf:=(gF (je (cR u pre x r))).isEmpty) (x:=x) hcn h15 (fun s hs=>KS h hd ho h0 s hs) (gF (je (cR u pre x r))) [] LL rfl (by unfold LL;omega)
     ·rw[show(uE (cR u pre x r) !=0)=true by simpa using hE,bx,h15,bq,bD]
end
theorem QP(u:UV)(h1:u.me.length*40≤cB)(h3:u.mr.length*64≤cB)(h5:u.pa.length*64≤cB)(v:Int)(hv:0≤v∧v≤255):ct 6 [dY u,.int .u8 v] (.bool true):=by
 have q13:=NT u h1 h3 h5;cases hs:x9 u with
 |false=>
  have q40:ct 40 [dY (e9 u)] (.bool false):=NW (e9 u) hs;obtain⟨B,hB,hF⟩:=iz [one 13 [dY u] (dY (e9 u)),one 40 [dY (e9 u)] (.bool false),one 15 [] (.bool true)] ⟨bN q13,bN q40,bN FY,trivial⟩ (by kernel_rfl);obtain⟨a13,a40,a15,_⟩:=hF;have a13:B 13 [D.agg [.slc u.cf u.cl.length (bz u.cl),.slc u.mf u.me.length (u.me.flatMap bO),.slc u.hf u.ho.length (u.ho.flatMap bR),.slc u.kf u.mr.length (u.mr.flatMap bH),.slc u.sf u.sg.length (bz u.sg),.slc u.pf u.pa.length (u.pa.flatMap bV)]]=some (D.agg [.slc u.cf u.cl.length (bz u.cl),.slc u.me.isEmpty u.me.length (u.me.flatMap bO),.slc u.hf u.ho.length (u.ho.flatMap bR),.slc u.mr.isEmpty u.mr.length (u.mr.flatMap bH),.slc u.sf u.sg.length (bz u.sg),.slc u.pa.isEmpty u.pa.length (u.pa.flatMap bV)]):=a13 ();have a40:B 40 [D.agg [.slc u.cf u.cl.length (bz u.cl),.slc u.me.isEmpty u.me.length (u.me.flatMap bO),.slc u.hf u.ho.length (u.ho.flatMap bR),.slc u.mr.isEmpty u.mr.length (u.mr.flatMap bH),.slc u.sf u.sg.length (bz u.sg),.slc u.pa.isEmpty u.pa.length (u.pa.flatMap bV)]]=some (.bool false):=a40 ();have a15:B 15 []=some (.bool true):=a15 ();refine ed hB Tryz.func6 (ord:=O0) (N:=N6) (by kernel_rfl) ((EG _ _ _ _ _ _ _ _ _ _ _ _ _ _ _ _ _ _ _ _ _ _).trans ?_);rw[a13,bq,GV,GW,bI,GX,bI,GY,bI,GZ,bI,G0,bI,G1,bI,a40,bq,bD,Bool.not_false,bx,a15,bq,bD]
 |true=>
  obtain⟨hu,h39⟩:=Kt u hs;have q40:ct 40 [dY (e9 u)] (.bool (uE u==0)):=by
   have:=P7 (e9 u) hu;rw[show x9 (e9 u)=true from hs,Bool.true_and] at this;exact this
  by_cases hz:uE u=0
  ·have hk:=ED hz;have hf:=P9 hs hz;have q32:=Om u hu (fun _=>by omega);rw[hz,show((0:Int) !=0)=false from rfl,br] at q32;have q23:∀s:ByteArray,ct 23 [dY (e9 u),.str s] (.int .i64 (ix (fun m:cw=>cN m.1 s) u.me)):=fun s=>GH u.me s hu.1.2.1;have main:∀B:FuncId→List D→Option D,ep B→B 13 [dY u]=some (dY (e9 u))→B 40 [dY (e9 u)]=some (.bool (uE u==0))→B 15 []=some (.bool true)→B 32 [dY u]=some (.tup [eF bT (gF (je u)),.int .i64 0])→(∀s:ByteArray,B 23 [dY (e9 u),.str s]=some (.int .i64 (ix (fun m:cw=>cN m.1 s) u.me)))→
     (∀pre x r,u.mr=pre++x::r→Int.tmod v (u.mr.length:Int)=(pre.length:Int)→cN x.2.1 x.1=false→x.2.2.2.1≠0→
      B 13 [dY (cR u pre x r)]=some (dY (e9 (cR u pre x r)))∧B 16 [dY (e9 (cR u pre x r))]=some (.int .i64 (uE (cR u pre x r)))∧(uE (cR u pre x r)=0→B 32 [dY (cR u pre x r)]=some (.tup [eF bT (gF (je (cR u pre x r))),.int .i64 0])))→ct 6 [dY u,.int .u8 v] (.bool true):=by
    intro B hB a13 a40 a15 a32 a23 hM;have a13:B 13 [D.agg [.slc u.cf u.cl.length (bz u.cl),.slc u.mf u.me.length (u.me.flatMap bO),.slc u.hf u.ho.length (u.ho.flatMap bR),.slc u.kf u.mr.length (u.mr.flatMap bH),.slc u.sf u.sg.length (bz u.sg),.slc u.pf u.pa.length (u.pa.flatMap bV)]]=some (D.agg [.slc u.cf u.cl.length (bz u.cl),.slc u.me.isEmpty u.me.length (u.me.flatMap bO),.slc u.hf u.ho.length (u.ho.flatMap bR),.slc u.mr.isEmpty u.mr.length (u.mr.flatMap bH),.slc u.sf u.sg.length (bz u.sg),.slc u.pa.isEmpty u.pa.length (u.pa.flatMap bV)]):=a13;have a40:B 40 [D.agg [.slc u.cf u.cl.length (bz u.cl),.slc u.me.isEmpty u.me.length (u.me.flatMap bO),.slc u.hf u.ho.length (u.ho.flatMap bR),.slc u.mr.isEmpty u.mr.length (u.mr.flatMap bH),.slc u.sf u.sg.length (bz u.sg),.slc u.pa.isEmpty u.pa.length (u.pa.flatMap bV)]]=some (.bool (uE u==0)):=a40;have a32:B 32 [D.agg [.slc u.cf u.cl.length (bz u.cl),.slc u.mf u.me.length (u.me.flatMap bO),.slc u.hf u.ho.length (u.ho.flatMap bR),.slc u.kf u.mr.length (u.mr.flatMap bH),.slc u.sf u.sg.length (bz u.sg),.slc u.pf u.pa.length (u.pa.flatMap bV)]]=some (.tup [eF bT (gF (je u)),.int .i64 0]):=a32;have hbl:(gF (je u)).length≤1000:=by
     rw[fV];have:=nN u.ho (kb u) u.me;unfold je;omega
    refine ed hB Tryz.func6 (ord:=O0) (N:=N6) (by kernel_rfl) ((EG _ _ _ _ _ _ _ _ _ _ _ _ _ _ _ _ _ _ _ _ _ _).trans ?_);rw[a13,bq,GV,GW,bI,GX,bI,GY,bI,GZ,bI,G0,bI,G1,bI,a40,bq,bD,hz,show(!((0:Int)==0))=false from rfl,br,a32,bq,oE,gT,dM,bI,gU,bv,show((0:Int) !=0)=false from rfl,br];exact Qc (u:=u) (bf:=(gF (je u)).isEmpty) a23 hbl (HZ hk) (Qd hu.1.2.2.2.1 (On hk) (Hl hv hu hk h3 rfl a15 hM) u.mr [] LL rfl (by have:=hu.1.2.2.2.1;unfold LL;omega)) (gF (je u)) [] LL rfl (by unfold LL;omega)
   by_cases he:u.mr=[]
   ·obtain⟨B,hB,hF⟩:=iz [one 13 [dY u] (dY (e9 u)),one 40 [dY (e9 u)] (.bool (uE u==0)),one 15 [] (.bool true),one 32 [dY u] (.tup [eF bT (gF (je u)),.int .i64 0]),⟨23,ByteArray,fun s=>[dY (e9 u),.str s],fun s=> .int .i64 (ix (fun m:cw=>cN m.1 s) u.me)⟩]
     ⟨bN q13,bN q40,bN FY,bN q32,⟨q23,fun i j e=>(by
      have e:[dY (e9 u),D.str i]=[dY (e9 u),D.str j]:=e;simp at e;rw[e])⟩,trivial⟩ (by kernel_rfl)
    obtain⟨a13,a40,a15,a32,a23,_⟩:=hF;exact main B hB (a13 ()) (a40 ()) (a15 ()) (a32 ()) a23 fun pre x r hd=>by rw[he] at hd;simp at hd
   ·have hpos:0<u.mr.length:=List.length_pos_iff.2 he;obtain⟨k,hk1,hk2⟩:∃k:Nat,Int.tmod v (u.mr.length:Int)=(k:Int)∧k<u.mr.length:=by
     obtain⟨w,rfl⟩:∃w:Nat,v=(w:Int):=⟨v.toNat,by omega⟩;exact⟨w%u.mr.length,rfl,zd6 _ hpos⟩
    obtain⟨pre,r,hd,hpl⟩:=kQ (zd0 hk2);generalize u.mr[k]=x at hd;have hlen:(pre++fW x::r).length=u.mr.length:=by rw[hd];simp
    have hu':(cR u pre x r).Fit':=⟨⟨hu.1.1,hu.1.2.1,hu.1.2.2.1,by show(pre++fW x::r).length≤_;rw[hlen];exact hu.1.2.2.2.1,hu.1.2.2.2.2.1,hu.1.2.2.2.2.2⟩,hu.2⟩;have p13:=NT (cR u pre x r) h1 (by show(pre++fW x::r).length*64≤cB;rw[hlen];exact h3) h5;have p16:ct 16 [dY (e9 (cR u pre x r))] (.int .i64 (uE (cR u pre x r))):=NP (e9 (cR u pre x r)) hu';have p32:=Om (cR u pre x r) hu' (fun _=>by show u.me.length<20;omega);obtain⟨B,hB,hF⟩:=iz [Qf 13 [dY u] [dY (cR u pre x r)] (dY (e9 u)) (dY (e9 (cR u pre x r))),one 40 [dY (e9 u)] (.bool (uE u==0)),one 15 [] (.bool true),Qf 32 [dY u] [dY (cR u pre x r)] (.tup [eF bT (gF (je u)),.int .i64 0]) (bC (uE (cR u pre x r) !=0) (.tup [.slc true 0 [],.int .i64 (uE (cR u pre x r))]) (.tup [eF bT (gF (je (cR u pre x r))),.int .i64 0])),⟨23,ByteArray,fun s=>[dY (e9 u),.str s],fun s=> .int .i64 (ix (fun m:cw=>cN m.1 s) u.me)⟩,one 16 [dY (e9 (cR u pre x r))] (.int .i64 (uE (cR u pre x r)))]
     ⟨x5 q13 p13 (H0 hd),bN q40,bN FY,x5 q32 p32 (H0 hd),⟨q23,fun i j e=>(by
      have e:[dY (e9 u),D.str i]=[dY (e9 u),D.str j]:=e;simp at e;rw[e])⟩,bN p16,trivial⟩ (by kernel_rfl)
    obtain⟨a13,a40,a15,a32,a23,a16,_⟩:=hF;refine main B hB (a13 true) (a40 ()) (a15 ()) (a32 true) a23 fun pre' x' r' hd' ht _ _=> ?_;have hpp:pre'.length=pre.length:=by omega
    have e1:pre'=pre∧x'::r'=x::r:=List.append_inj (hd'.symm.trans hd) hpp;obtain⟨rfl,e2⟩:=e1;cases e2;refine⟨a13 false,a16 (),fun hE=> ?_⟩;have:=a32 false;rw[show B 32 [dY (cR u pre' x r)]=_ from this,hE];rfl
  ·obtain⟨B,hB,hF⟩:=iz [one 13 [dY u] (dY (e9 u)),one 40 [dY (e9 u)] (.bool (uE u==0)),one 15 [] (.bool true)] ⟨bN q13,bN q40,bN FY,trivial⟩ (by kernel_rfl);obtain⟨a13,a40,a15,_⟩:=hF;have a13:B 13 [D.agg [.slc u.cf u.cl.length (bz u.cl),.slc u.mf u.me.length (u.me.flatMap bO),.slc u.hf u.ho.length (u.ho.flatMap bR),.slc u.kf u.mr.length (u.mr.flatMap bH),.slc u.sf u.sg.length (bz u.sg),.slc u.pf u.pa.length (u.pa.flatMap bV)]]=some (D.agg [.slc u.cf u.cl.length (bz u.cl),.slc u.me.isEmpty u.me.length (u.me.flatMap bO),.slc u.hf u.ho.length (u.ho.flatMap bR),.slc u.mr.isEmpty u.mr.length (u.mr.flatMap bH),.slc u.sf u.sg.length (bz u.sg),.slc u.pa.isEmpty u.pa.length (u.pa.flatMap bV)]):=a13 ();have a40:B 40 [D.agg [.slc u.cf u.cl.length (bz u.cl),.slc u.me.isEmpty u.me.length (u.me.flatMap bO),.slc u.hf u.ho.length (u.ho.flatMap bR),.slc u.mr.isEmpty u.mr.length (u.mr.flatMap bH),.slc u.sf u.sg.length (bz u.sg),.slc u.pa.isEmpty u.pa.length (u.pa.flatMap bV)]]=some (.bool (uE u==0)):=a40 ();have a15:B 15 []=some (.bool true):=a15 ();refine ed hB Tryz.func6 (ord:=O0) (N:=N6) (by kernel_rfl) ((EG _ _ _ _ _ _ _ _ _ _ _ _ _ _ _ _ _ _ _ _ _ _).trans ?_);rw[a13,bq,GV,GW,bI,GX,bI,GY,bI,GZ,bI,G0,bI,G1,bI,a40,bq,bD,beq_eq_false_iff_ne.2 hz,Bool.not_false,bx,a15,bq,bD]
end Go.Pd
end
