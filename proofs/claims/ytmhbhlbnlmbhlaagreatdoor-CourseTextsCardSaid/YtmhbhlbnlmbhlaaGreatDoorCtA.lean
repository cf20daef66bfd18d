import Derived.Test.YtmhbhlbnlmbhlaaGreatDoorCrA
import Derived.Test.YtmhbhlbnlmbhlaaGreatDoorPdFh
import Derived.KernelRfl
import Derived.Shelf.Strings.OnBuilder
import Derived.Shelf.Strings.SplitShaped
import Derived.Shelf.Strings.SlTrimAscii
import Derived.Shelf.Strconv.Atoi
import Derived.Test.YtmhbhlbnlmbhlaaGreatDoorProg
section
namespace Go.Pd
open Go Go.Proofs
def lQ:List PK:=[.slf,.own 5 1]
def TG:List PK:=[.slf,.cl]
def nI:List PK:=[.cl,.cl,.cl,.cl,.cl,.own 23 2,.own 84 2,.cl]
def TH:List Knd:=[.any,.any]
def VD:List Knd:=[.str,.int .i64,.int .i64,.int .i64,.int .i64,.any,.any,.str]
noncomputable def Oa(mu:FuncId→List D→Option D):FuncId→Option Inl:=fun k=>match k with
 |122=>some (yN Tryz.prog 122 TH 194 lQ lQ [0] 1 (mu 122))
 |123=>some (yN Tryz.prog 123 TH 194 lQ lQ [0] 0 (mu 123))
 |126=>some (yN Tryz.prog 126 TH 194 lQ lQ [0] 0 (mu 126))
 |127=>some (yN Tryz.prog 127 TH 194 lQ TG [] 0 (mu 127))
 |130=>some (yN Tryz.prog 130 VD 0 nI nI [0,1] 0 (mu 130))
 |183=>some (yN Tryz.prog 183 VD 0 nI nI [2,3] 0 (mu 183))
 |184=>some (yN Tryz.prog 184 VD 0 nI nI [2,3] 0 (mu 184))
 |_=>none
noncomputable def rX(call mu:FuncId→List D→Option D)(L:Nat)(C:Nat→Nat):TE:={E:={P:=Tryz.prog,gl:=ig,call:=call,L:=L,wr:=IR yW,inl:=Oa mu,tb:=some 194},cst:=ja,C:=C,sq:=IQ}
end Go.Pd
end
section
namespace Go.Pd
open Go Go.Proofs
set_option maxRecDepth 100000
theorem GQ(call:CL)(mu:FuncId→List D→Option D)(L:Nat)(C:Nat→Nat)(K:Bool)(M:Nat)(J:List D):yO (rX call mu L C) O0 N0 1 lQ 194 Tryz.f122 [D.slc K M J,D.nils]=
 (bB (call 124 [D.slc K M J,D.str (ByteArray.mk #[32])]) fun r=>bU r fun s=>bH (!decide (((ByteArray.size s+1):Int)>9223372036854775807))
 (bB (mu 123 [D.agg [],D.str (s++ByteArray.mk #[10])]) fun Y=>cy Y 2 fun c=>bu c 0 fun d=>dq d 2 fun q=>bu c 1 fun S=>cy S 2 fun z=>bu z 0 fun U=>bD .i64 U fun _x=>bu z 1 fun V=>bB (CR V) fun _=>bu q 0 fun W=>cy W 0 fun _c_3=>bu q 1 fun X=>
 (jY X
 (some (D.tup [D.agg [D.tup [],D.nils],D.tup []])) fun f n O=>bH (!f)
 (some (D.tup [D.agg [D.tup [],D.slc false n O],D.tup []]))))):=by kernel_rfl
theorem GR(call:CL)(mu:FuncId→List D→Option D)(L:Nat)(C:Nat→Nat)(K:Nat)(J:List D)(O:Bool)(S:Nat)(M:List D):mE (rX call mu L C) O0 N0 1 lQ lQ [0] Tryz.f122 [D.tup [],D.slc false K J] [D.slc O S M,D.nils]=
 (bB (call 124 [D.slc O S M,D.str (ByteArray.mk #[32])]) fun r=>bU r fun s=>bH (!decide (((ByteArray.size s+1):Int)>9223372036854775807))
 (bB (mu 123 [D.agg [D.tup [],D.slc false K J],D.str (s++ByteArray.mk #[10])]) fun a0=>cy a0 2 fun c=>bu c 0 fun d=>dq d 2 fun q=>bu c 1 fun V=>cy V 2 fun z=>bu z 0 fun W=>bD .i64 W fun _x=>bu z 1 fun X=>bB (CR X) fun _=>bu q 0 fun Y=>cy Y 0 fun _c_3=>bu q 1 fun Z=>
 (jY Z
 (some (D.tup [D.agg [D.tup [],D.nils],D.tup []])) fun f n U=>bH (!f)
 (some (D.tup [D.agg [D.tup [],D.slc false n U],D.tup []]))))):=by kernel_rfl
theorem GS(call:CL)(mu:FuncId→List D→Option D)(L:Nat)(C:Nat→Nat)(q:Nat)(z:List D):mE (rX call mu L C) O0 N0 0 lQ lQ [1] Tryz.f126 [D.tup [],D.slc false q z] [D.nils]=
 (some (D.tup [D.agg [D.tup [],D.slc false q z],D.int .i64 (q:Int)])):=by kernel_rfl
def Si:bY:=fun p=>match p with
 |2042=>nm [1,5,6,48,49,50] [8,10,13,91] [0,1,5,8,10,13,91]
 |4090=>nm [5,6,65,66,67] [1,8,10,13,91] [0,1,5,8,10,13,91]
 |4188570=>nm [5,6,11,65,66,67,75,76,77] [1,8,10,13] [0,1,5,8,10,13,91]
 |_=>none
def PJ:fX:=fun id=>match id with
 |7=>some {bar:=true}
 |8=>some {bar:=true}
 |12=>some {bar:=true}
 |_=>none
noncomputable def dL(call:CL)(mu:FuncId→List D→Option D)(L:Nat)(C:Nat→Nat)(K M:Nat)(a0:Bool)(a1:Nat)(Y:List D)(O t67:Int)(z:Ow)(U:Bool)(V:Nat)(S:List D)(W X:Int)(q:Ow):Option D:=
 cw (rX call mu L C) PJ Si FinM.canon Tryz.f70 (bt 21 733951) [K] M (St.mk (jn 5 (D.loc 5 0 0::D.fn (Fn.func 122) [] [D.loc 5 0 0]::J::J::J::J::jv 91 z::jn 53 (D.slc a0 a1 Y::D.int .i64 O::D.int .i64 t67::jn 7 (D.slc U V S::D.int .i64 W::D.int .i64 X::jn 22 [])))) (j5 5 1 q::Z::Z::Z::Z::(1,some (Ob.box [D.loc 5 0 0,jv 0 q] false))::zn 85 (j5 9 1 z::zn 8 [])))
noncomputable def fU(call:CL)(mu:FuncId→List D→Option D)(L:Nat)(C:Nat→Nat)(z:Nat)(M:Bool)(O:Nat)(K:List D)(J t67:Int)(q:Ow):Option D:=
 cw (rX call mu L C) PJ Si FinM.canon Tryz.f70 (bt 11 767) [] z (St.mk (jn 5 (D.loc 5 0 0::D.fn (Fn.func 122) [] [D.loc 5 0 0]::jn 58 (D.slc M O K::D.int .i64 J::D.int .i64 t67::jn 32 []))) (j5 5 1 q::Z::Z::Z::Z::(1,some (Ob.box [D.loc 5 0 0,jv 0 q] false))::zn 94 []))
noncomputable def eF(call:CL)(mu:FuncId→List D→Option D)(L:Nat)(C:Nat→Nat)(n:Nat)(K:Bool)(M:Nat)(z:List D)(U:ByteArray)(V W X Y:Int)(a1:Bool)(a2:Nat)(a0:List D)(O S:Int)(q:Ow):Option D:=
 cw (rX call mu L C) PJ Si FinM.canon Tryz.f70 (bt 10 383) [] n (St.mk (J::D.loc 1 0 0::J::J::J::D.loc 5 0 0::D.fn (Fn.func 122) [] [D.loc 5 0 0]::jn 41 (D.slc K M z::D.int .i64 O::D.int .i64 S::jn 49 [])) (j5 5 1 q::(1,some (Ob.box [D.str U,D.int .i64 V,D.int .i64 W,D.int .i64 X,D.int .i64 Y,D.slc K M z,D.slc a1 a2 a0] false))::Z::Z::Z::(1,some (Ob.box [D.loc 5 0 0,jv 0 q] false))::zn 94 []))
theorem kj(call:CL)(mu:FuncId→List D→Option D)(L:Nat)(C:Nat→Nat)(J a3:Nat)(S:Bool)(U:Nat)(O:List D)(K t67:Int)(z:Nat)(a0:List D)(a5:Bool)(W:Nat)(M:List D)(X q:Int)(Z:Nat)(Y:List D):dL call mu L C J (a3+1) S U O K t67 (Ow.own z a0) a5 W M X q (Ow.own Z Y)=
 (bz (decide (q<X))
 (bH (decide (0≤q∧q<(W:Int)))
 (bu M (Int.toNat q*2+0) fun a7=>bD .i64 a7 fun aj=>bu M (Int.toNat q*2+1) fun a8=>bD .i64 a8 fun ai=>bB (call 125 [D.int .i64 aj]) fun af=>bU af fun V=>bH (!decide (((ByteArray.size V+1):Int)>9223372036854775807))
 (bB (call 125 [D.int .i64 ai]) fun ag=>bU ag fun a4=>bH (!decide (((ByteArray.size (V++ByteArray.mk #[44])+ByteArray.size a4):Int)>9223372036854775807))
 (bH (decide ((z+1)*16≤limit∧z+1≤9223372036854775807))
 (dL call mu L C J a3 S U O K t67 (Ow.own (z+1) (a0++[D.str (V++ByteArray.mk #[44]++a4)])) a5 W M X (IntKind.wrap .i64 (q+1)) (Ow.own Z Y))))))
 (bB (mu 122 [D.slc false z a0,D.agg [D.tup [],D.slc false Z Y]]) fun ah=>cy ah 2 fun a1=>bu a1 0 fun a9=>dq a9 2 fun a2=>bu a1 1 fun aa=>cy aa 0 fun _c_35=>bu a2 0 fun ab=>cy ab 0 fun _c_36=>bu a2 1 fun ac=>
 (jY ac
 (fU call mu L C J S U O K (IntKind.wrap .i64 (t67+1)) (Ow.nil)) fun ad ae a6=>bH (!ad)
 (fU call mu L C J S U O K (IntKind.wrap .i64 (t67+1)) (Ow.own ae a6))))):=by kernel_rfl
theorem kk(call:CL)(mu:FuncId→List D→Option D)(L:Nat)(C:Nat→Nat)(J a4:Nat)(S:Bool)(U:Nat)(O:List D)(K t67:Int)(a1:Bool)(z:Nat)(V:List D)(a6:Bool)(X:Nat)(M:List D)(Y q:Int)(a0:Nat)(Z:List D):dL call mu L C J (a4+1) S U O K t67 (Ow.slc a1 z V) a6 X M Y q (Ow.own a0 Z)=
 (bz (decide (q<Y))
 (bH (decide (0≤q∧q<(X:Int)))
 (bu M (Int.toNat q*2+0) fun a8=>bD .i64 a8 fun aj=>bu M (Int.toNat q*2+1) fun a9=>bD .i64 a9 fun ak=>bB (call 125 [D.int .i64 aj]) fun ag=>bU ag fun W=>bH (!decide (((ByteArray.size W+1):Int)>9223372036854775807))
 (bB (call 125 [D.int .i64 ak]) fun ah=>bU ah fun a5=>bH (!decide (((ByteArray.size (W++ByteArray.mk #[44])+ByteArray.size a5):Int)>9223372036854775807))
 (bH a1
 (bH (decide (0<1∧List.length V=z*1∧(z+1)*16≤limit∧z+1≤4611686018427387903))
 (dL call mu L C J a4 S U O K t67 (Ow.own (z+1) (V++[D.str (W++ByteArray.mk #[44]++a5)])) a6 X M Y (IntKind.wrap .i64 (q+1)) (Ow.own a0 Z)))))))
 (bB (mu 122 [D.slc a1 z V,D.agg [D.tup [],D.slc false a0 Z]]) fun ai=>cy ai 2 fun a2=>bu a2 0 fun aa=>dq aa 2 fun a3=>bu a2 1 fun ab=>cy ab 0 fun _c_45=>bu a3 0 fun ac=>cy ac 0 fun _c_46=>bu a3 1 fun ad=>
 (jY ad
 (fU call mu L C J S U O K (IntKind.wrap .i64 (t67+1)) (Ow.nil)) fun ae af a7=>bH (!ae)
 (fU call mu L C J S U O K (IntKind.wrap .i64 (t67+1)) (Ow.own af a7))))):=by kernel_rfl
theorem oO(call:CL)(mu:FuncId→List D→Option D)(L:Nat)(C:Nat→Nat)(Z:Nat)(a0:Bool)(M:Nat)(q:List D)(z t67:Int)(K:Nat)(J:List D):fU call mu L C (Z+1) a0 M q z t67 (Ow.own K J)=
 (bz (decide (t67<z))
 (bH (decide (0≤t67∧t67<(M:Int)))
 (bu q (Int.toNat t67*2+0) fun a4=>bU a4 fun am=>bu q (Int.toNat t67*2+1) fun a5=>dr a5 fun ah Y a2=>dL call mu L C Z L a0 M q z t67 (Ow.slc true 2 [D.str (ByteArray.mk #[97,114,101,97]),D.str am]) ah Y a2 ((Y:Int)) 0 (Ow.own K J)))
 (bB (mu 126 [D.agg [D.tup [],D.slc false K J]]) fun aj=>cy aj 2 fun O=>bu O 0 fun a6=>dq a6 2 fun S=>bu O 1 fun a7=>bD .i64 a7 fun a1=>bu S 0 fun a8=>cy a8 0 fun _c_61=>bu S 1 fun a9=>
 (jY a9
 (bz (decide (a1>4096))
 (some (D.tup [D.str (ByteArray.mk #[]),D.int .i64 26]))
 (bB (mu 127 [D.agg [D.tup [],D.nils]]) fun ak=>cy ak 2 fun U=>bu U 0 fun aa=>dq aa 2 fun V=>bu U 1 fun ab=>bU ab fun an=>bu V 0 fun ac=>cy ac 0 fun _c_64=>bu V 1 fun _d_77=>some (D.tup [D.str an,D.int .i64 0]))) fun ag ai a3=>bH (!ag)
 (bz (decide (a1>4096))
 (some (D.tup [D.str (ByteArray.mk #[]),D.int .i64 26]))
 (bB (mu 127 [D.agg [D.tup [],D.slc false ai a3]]) fun al=>cy al 2 fun W=>bu W 0 fun ad=>dq ad 2 fun X=>bu W 1 fun ae=>bU ae fun ao=>bu X 0 fun af=>cy af 0 fun _c_68=>bu X 1 fun _d_81=>some (D.tup [D.str ao,D.int .i64 0])))))):=by kernel_rfl
theorem oP(call:CL)(mu:FuncId→List D→Option D)(L:Nat)(C:Nat→Nat)(n:Nat)(a1:Bool)(M:Nat)(z:List D)(W:ByteArray)(X Y Z a0:Int)(S:Bool)(J:Nat)(O:List D)(K q:Int)(V:Nat)(U:List D):eF call mu L C (n+1) a1 M z W X Y Z a0 S J O K q (Ow.own V U)=
 (bz (decide (q<K))
 (bH (decide (0≤q∧q<(M:Int)))
 (bu z (Int.toNat q*2+0) fun a5=>bD .i64 a5 fun ai=>bu z (Int.toNat q*2+1) fun a6=>bD .i64 a6 fun aj=>bB (call 125 [D.int .i64 ai]) fun ad=>bU ad fun ag=>bB (call 125 [D.int .i64 aj]) fun ae=>bU ae fun ah=>bB (mu 122 [D.slc true 3 [D.str (ByteArray.mk #[118,105,97]),D.str ag,D.str ah],D.agg [D.tup [],D.slc false V U]]) fun af=>cy af 2 fun a2=>bu a2 0 fun a7=>dq a7 2 fun a3=>bu a2 1 fun a8=>cy a8 0 fun _c_71=>bu a3 0 fun a9=>cy a9 0 fun _c_72=>bu a3 1 fun aa=>
 (jY aa
 (eF call mu L C n a1 M z W X Y Z a0 S J O K (IntKind.wrap .i64 (q+1)) (Ow.nil)) fun ab ac a4=>bH (!ab)
 (eF call mu L C n a1 M z W X Y Z a0 S J O K (IntKind.wrap .i64 (q+1)) (Ow.own ac a4)))))
 (fU call mu L C L S J O ((J:Int)) 0 (Ow.own V U))):=by kernel_rfl
theorem Oc(call:CL)(mu:FuncId→List D→Option D)(L:Nat)(C:Nat→Nat)(O:ByteArray)(K M z J:Int)(U:Bool)(q:Nat)(S:List D)(W:Bool)(X:Nat)(V:List D):bT (rX call mu L C) PJ Si FinM.canon Tryz.f70 [D.agg [D.str O,D.int .i64 K,D.int .i64 M,D.int .i64 z,D.int .i64 J,D.slc U q S,D.slc W X V]]=
 (bB (call 21 [D.agg [D.str O,D.int .i64 K,D.int .i64 M,D.int .i64 z,D.int .i64 J,D.slc U q S,D.slc W X V]]) fun r=>bD .i64 r fun x=>bz (x !=0)
 (some (D.tup [D.str (ByteArray.mk #[]),D.int .i64 x]))
 (bB (mu 122 [D.slc true 2 [D.str (ByteArray.mk #[104,111,108,101]),D.str O],D.agg []]) fun aZ=>cy aZ 2 fun c=>bu c 0 fun d=>dq d 2 fun Y=>bu c 1 fun ai=>cy ai 0 fun _c_2=>bu Y 0 fun ap=>cy ap 0 fun _c_3=>bu Y 1 fun aq=>
 (jY aq
 (bB (call 125 [D.int .i64 K]) fun b0=>bU b0 fun s=>bB (call 125 [D.int .i64 M]) fun b1=>bU b1 fun bi=>bB (mu 122 [D.slc true 3 [D.str (ByteArray.mk #[116,101,101]),D.str s,D.str bi],D.agg [D.tup [],D.nils]]) fun b4=>cy b4 2 fun Z=>bu Z 0 fun ar=>dq ar 2 fun a0=>bu Z 1 fun au=>cy au 0 fun _c_6=>bu a0 0 fun av=>cy av 0 fun _c_7=>bu a0 1 fun aw=>
 (jY aw
 (bB (call 125 [D.int .i64 z]) fun bf=>bU bf fun bj=>bB (call 125 [D.int .i64 J]) fun bg=>bU bg fun bo=>bB (mu 122 [D.slc true 3 [D.str (ByteArray.mk #[99,117,112]),D.str bj,D.str bo],D.agg [D.tup [],D.nils]]) fun bh=>cy bh 2 fun a3=>bu a3 0 fun ax=>dq ax 2 fun a8=>bu a3 1 fun aA=>cy aA 0 fun _c_10=>bu a8 0 fun aj=>cy aj 0 fun _c_11=>bu a8 1 fun ao=>
 (jY ao
 (eF call mu L C L U q S O K M z J W X V ((q:Int)) 0 (Ow.nil)) fun aL aS ab=>bH (!aL)
 (eF call mu L C L U q S O K M z J W X V ((q:Int)) 0 (Ow.own aS ab)))) fun aM aT ac=>bH (!aM)
 (bB (call 125 [D.int .i64 z]) fun b2=>bU b2 fun bk=>bB (call 125 [D.int .i64 J]) fun b3=>bU b3 fun bl=>bB (mu 122 [D.slc true 3 [D.str (ByteArray.mk #[99,117,112]),D.str bk,D.str bl],D.agg [D.tup [],D.slc false aT ac]]) fun b5=>cy b5 2 fun a1=>bu a1 0 fun ay=>dq ay 2 fun a2=>bu a1 1 fun az=>cy az 0 fun _c_78=>bu a2 0 fun aB=>cy aB 0 fun _c_79=>bu a2 1 fun aC=>
 (jY aC
 (eF call mu L C L U q S O K M z J W X V ((q:Int)) 0 (Ow.nil)) fun aN aU ad=>bH (!aN)
 (eF call mu L C L U q S O K M z J W X V ((q:Int)) 0 (Ow.own aU ad)))))) fun aO aV ae=>bH (!aO)
 (bB (call 125 [D.int .i64 K]) fun b6=>bU b6 fun bm=>bB (call 125 [D.int .i64 M]) fun b7=>bU b7 fun bn=>bB (mu 122 [D.slc true 3 [D.str (ByteArray.mk #[116,101,101]),D.str bm,D.str bn],D.agg [D.tup [],D.slc false aV ae]]) fun b8=>cy b8 2 fun a4=>bu a4 0 fun aD=>dq aD 2 fun a5=>bu a4 1 fun aE=>cy aE 0 fun _c_84=>bu a5 0 fun aF=>cy aF 0 fun _c_85=>bu a5 1 fun aG=>
 (jY aG
 (bB (call 125 [D.int .i64 z]) fun b9=>bU b9 fun bp=>bB (call 125 [D.int .i64 J]) fun ba=>bU ba fun bq=>bB (mu 122 [D.slc true 3 [D.str (ByteArray.mk #[99,117,112]),D.str bp,D.str bq],D.agg [D.tup [],D.nils]]) fun bb=>cy bb 2 fun a6=>bu a6 0 fun aH=>dq aH 2 fun a7=>bu a6 1 fun aI=>cy aI 0 fun _c_88=>bu a7 0 fun aJ=>cy aJ 0 fun _c_89=>bu a7 1 fun aK=>
 (jY aK
 (eF call mu L C L U q S O K M z J W X V ((q:Int)) 0 (Ow.nil)) fun aP aW af=>bH (!aP)
 (eF call mu L C L U q S O K M z J W X V ((q:Int)) 0 (Ow.own aW af)))) fun aQ aX ag=>bH (!aQ)
 (bB (call 125 [D.int .i64 z]) fun bc=>bU bc fun br=>bB (call 125 [D.int .i64 J]) fun bd=>bU bd fun bs=>bB (mu 122 [D.slc true 3 [D.str (ByteArray.mk #[99,117,112]),D.str br,D.str bs],D.agg [D.tup [],D.slc false aX ag]]) fun be=>cy be 2 fun a9=>bu a9 0 fun ak=>dq ak 2 fun aa=>bu a9 1 fun al=>cy al 0 fun _c_94=>bu aa 0 fun am=>cy am 0 fun _c_95=>bu aa 1 fun an=>
 (jY an
 (eF call mu L C L U q S O K M z J W X V ((q:Int)) 0 (Ow.nil)) fun aR aY ah=>bH (!aR)
 (eF call mu L C L U q S O K M z J W X V ((q:Int)) 0 (Ow.own aY ah))))))))):=by kernel_rfl
theorem Ki(call:CL)(L:Nat)(C:Nat→Nat)(vs q:ByteArray):bT (cF call L C) O0 N0 FinM.canon Tryz.f129 [D.str vs,D.str q]=
 (bB (call 182 [D.str vs,D.str q]) fun r=>ce r fun b=>some (D.bool b)):=by kernel_rfl
theorem Kj(call:CL)(L:Nat)(C:Nat→Nat)(vs q:ByteArray):bT (cF call L C) O0 N0 FinM.canon Tryz.f182 [D.str vs,D.str q]=
 (bz (decide (((ByteArray.size vs):Int)≥((ByteArray.size q):Int)))
 (bH (decide (0≤IntKind.wrap .i64 (((ByteArray.size vs):Int)-((ByteArray.size q):Int))∧IntKind.wrap .i64 (((ByteArray.size vs):Int)-((ByteArray.size q):Int))≤((ByteArray.size vs):Int)∧((ByteArray.size vs):Int)≤((ByteArray.size vs):Int)))
 (some (D.bool (ByteArray.toList (ByteArray.extract vs (Int.toNat (IntKind.wrap .i64 (((ByteArray.size vs):Int)-((ByteArray.size q):Int)))) (Int.toNat ((ByteArray.size vs):Int)))==ByteArray.toList q))))
 (some (D.bool false))):=by kernel_rfl
theorem Kk(call:CL)(L:Nat)(C:Nat→Nat)(vs q:ByteArray):bT (cF call L C) O0 N0 FinM.canon Tryz.f132 [D.str vs,D.str q]=
 (bB (call 187 [D.str vs,D.str q]) fun r=>bU r fun s=>some (D.str s)):=by kernel_rfl
theorem Kl(call:CL)(L:Nat)(C:Nat→Nat)(vs q:ByteArray):bT (cF call L C) O0 N0 FinM.canon Tryz.f187 [D.str vs,D.str q]=
 (bB (call 182 [D.str vs,D.str q]) fun r=>ce r fun b=>bz b
 (bH (decide (0≤(0:Int)∧(0:Int)≤IntKind.wrap .i64 (((ByteArray.size vs):Int)-((ByteArray.size q):Int))∧IntKind.wrap .i64 (((ByteArray.size vs):Int)-((ByteArray.size q):Int))≤((ByteArray.size vs):Int)))
 (some (D.str (ByteArray.extract vs 0 (Int.toNat (IntKind.wrap .i64 (((ByteArray.size vs):Int)-((ByteArray.size q):Int))))))))
 (some (D.str vs))):=by kernel_rfl
theorem Km(call:CL)(L:Nat)(C:Nat→Nat)(vs q:ByteArray):bT (cF call L C) O0 N0 FinM.canon Tryz.f278 [D.str vs,D.str q]=
 (bB (call 303 [D.str vs,D.str q]) fun r=>bU r fun s=>some (D.str s)):=by kernel_rfl
theorem Kn(call:CL)(L:Nat)(C:Nat→Nat)(vs q:ByteArray):bT (cF call L C) O0 N0 FinM.canon Tryz.f303 [D.str vs,D.str q]=
 (bB (call 297 [D.str vs,D.str q]) fun r=>ce r fun b=>bz b
 (bH (decide (0≤((ByteArray.size q):Int)∧((ByteArray.size q):Int)≤((ByteArray.size vs):Int)∧((ByteArray.size vs):Int)≤((ByteArray.size vs):Int)))
 (some (D.str (ByteArray.extract vs (Int.toNat ((ByteArray.size q):Int)) (Int.toNat ((ByteArray.size vs):Int))))))
 (some (D.str vs))):=by kernel_rfl
theorem Ko(call:CL)(L:Nat)(C:Nat→Nat)(vs q:ByteArray):bT (cF call L C) O0 N0 FinM.canon Tryz.f297 [D.str vs,D.str q]=
 (bz (decide (((ByteArray.size vs):Int)≥((ByteArray.size q):Int)))
 (bH (decide (0≤(0:Int)∧(0:Int)≤((ByteArray.size q):Int)∧((ByteArray.size q):Int)≤((ByteArray.size vs):Int)))
 (some (D.bool (ByteArray.toList (ByteArray.extract vs (Int.toNat (0:Int)) (Int.toNat ((ByteArray.size q):Int)))==ByteArray.toList q))))
 (some (D.bool false))):=by kernel_rfl
theorem Kp(call:CL)(L:Nat)(C:Nat→Nat)(vs q:ByteArray):bT (cF call L C) O0 N0 FinM.canon Tryz.f131 [D.str vs,D.str q]=
 (bB (call 186 [D.str vs,D.str q,D.int .i64 0,D.int .i64 (-1)]) fun r=>dr r fun f n c=>some (D.slc f n c)):=by kernel_rfl
theorem Kq(call:CL)(L:Nat)(C:Nat→Nat)(vs q:ByteArray):bT (cF call L C) O0 N0 FinM.canon Tryz.f228 [D.str vs,D.str q]=
 (bB (call 277 [D.str vs,D.str q]) fun r=>cy r 3 fun c=>bu c 0 fun d=>bU d fun s=>bu c 1 fun z=>bU z fun K=>bu c 2 fun J=>ce J fun b=>some (D.tup [D.str s,D.str K,D.bool b])):=by kernel_rfl
theorem Ks(call:CL)(L:Nat)(C:Nat→Nat)(vs q:ByteArray):bT (cF call L C) O0 N0 FinM.canon Tryz.f277 [D.str vs,D.str q]=
 (bB (call 284 [D.str vs,D.str q]) fun r=>bD .i64 r fun x=>bz (decide (x≥0))
 (bH (decide (0≤(0:Int)∧(0:Int)≤x∧x≤((ByteArray.size vs):Int)))
 (bH (decide (0≤IntKind.wrap .i64 (x+((ByteArray.size q):Int))∧IntKind.wrap .i64 (x+((ByteArray.size q):Int))≤((ByteArray.size vs):Int)∧((ByteArray.size vs):Int)≤((ByteArray.size vs):Int)))
 (some (D.tup [D.str (ByteArray.extract vs 0 (Int.toNat x)),D.str (ByteArray.extract vs (Int.toNat (IntKind.wrap .i64 (x+((ByteArray.size q):Int)))) (Int.toNat ((ByteArray.size vs):Int))),D.bool true]))))
 (some (D.tup [D.str vs,D.str (ByteArray.mk #[]),D.bool false]))):=by kernel_rfl
def Kt:bY:=fun p=>match p with
 |15=>nm [0] [] []
 |_=>none
noncomputable def oQ(call:CL)(L:Nat)(C:Nat→Nat)(vs:ByteArray):Option D:=
 eL (cF call L C) O0 Kt FinM.canon Tryz.f229 [true,true,true] [] (C 15) (St.mk (D.str vs::jn 37 []) (zn 38 []))
theorem B5(call:CL)(L:Nat)(C:Nat→Nat)(vs:ByteArray)(hC:∀t,C t=1):oQ call L C vs=
 (bB (call 280 [D.str vs]) fun z=>cy z 2 fun c=>bu c 0 fun d=>bD .i64 d fun x=>bu c 1 fun q=>bB (CR q) fun _=>some (D.tup [D.int .i64 x,D.bool true])):=by
 unfold oQ;rw[hC]
 kernel_rfl
theorem DL(call:CL)(L:Nat)(C:Nat→Nat)(vs:ByteArray):bT (cF call L C) O0 Kt FinM.canon Tryz.f229 [D.str vs]=
 (bB (call 278 [D.str vs,D.str (ByteArray.mk #[45])]) fun r=>bU r fun s=>bz (ByteArray.toList s==ByteArray.toList (ByteArray.mk #[]))
 (some (D.tup [D.int .i64 0,D.bool false]))
 (bz (decide (((ByteArray.size s):Int)>9))
 (some (D.tup [D.int .i64 0,D.bool false]))
 (bB (call 279 [D.str s,D.str (ByteArray.mk #[48,49,50,51,52,53,54,55,56,57])]) fun q=>bU q fun z=>bz (!ByteArray.toList z==ByteArray.toList (ByteArray.mk #[]))
 (some (D.tup [D.int .i64 0,D.bool false]))
 (bH (decide ((0:Int)≤0∧0<ByteArray.size s))
 (bz (cA s 0==48)
 (bz (!ByteArray.toList vs==ByteArray.toList (ByteArray.mk #[48]))
 (some (D.tup [D.int .i64 0,D.bool false]))
 (oQ call L C vs))
 (oQ call L C vs)))))):=by kernel_rfl
theorem Ku(call:CL)(L:Nat)(C:Nat→Nat)(vx vy:ByteArray):bT (cF call L C) O0 N0 FinM.canon Tryz.f185 [D.str vx,D.str vy]=
 (bB (call 229 [D.str vx]) fun r=>cy r 2 fun c=>bu c 0 fun d=>bD .i64 d fun x=>bu c 1 fun K=>ce K fun b=>bB (call 229 [D.str vy]) fun S=>cy S 2 fun q=>bu q 0 fun M=>bD .i64 M fun z=>bu q 1 fun O=>ce O fun J=>bz b
 (some (D.tup [D.agg [D.int .i64 x,D.int .i64 z],D.bool J]))
 (some (D.tup [D.agg [D.int .i64 x,D.int .i64 z],D.bool false]))):=by kernel_rfl
def PL:bY:=fun p=>match p with
 |15=>nm [1,2,5] [10,13,16] [2,5,10,13,16]
 |255=>nm [1,5,6,7,8,9] [2,10,13,16] [2,5,10,13,16]
 |511=>nm [1,5,8,9] [2,10,13,16] [2,5,10,13,16]
 |1023=>nm [1] [2,5,10,13,16] [2,5,10,13,16]
 |_=>none
noncomputable def ma(call:CL)(L:Nat)(C:Nat→Nat)(vs:ByteArray):Option D:=
 eL (cF call L C) O0 PL FinM.canon Tryz.f14 (bt 9 511) [] (C 1023) (St.mk (J::D.str vs::jn 107 []) (zn 109 []))
noncomputable def xS(call:CL)(L:Nat)(C:Nat→Nat)(vs:ByteArray)(q:Int)(z vx:ByteArray)(K M O S:Int)(V:Bool)(W:Nat)(U:List D)(Y:Bool)(Z:Nat)(X:List D):Option D:=
 eL (cF call L C) O0 PL FinM.canon Tryz.f14 (bt 8 255) [] (C 511) (St.mk (J::D.str vs::J::J::J::D.loc 5 0 0::J::J::D.int .i64 q::D.str z::jn 99 []) (zn 5 ((1,some (Ob.box [D.str vx,D.int .i64 K,D.int .i64 M,D.int .i64 O,D.int .i64 S,D.slc V W U,D.slc Y Z X] false))::zn 103 [])))
noncomputable def rY(call:CL)(L:Nat)(C:Nat→Nat)(vs vx:ByteArray)(O S U V:Int)(X:Bool)(Y:Nat)(W:List D)(a0:Bool)(a1:Nat)(Z:List D)(K:ByteArray)(z q:Int)(M:ByteArray):Option D:=
 eL (cF call L C) O0 PL FinM.canon Tryz.f14 (bt 7 127) [] (C 255) (St.mk (J::D.str vs::J::J::J::D.loc 5 0 0::D.str K::D.int .i64 z::D.int .i64 q::D.str M::jn 99 []) (zn 5 ((1,some (Ob.box [D.str vx,D.int .i64 O,D.int .i64 S,D.int .i64 U,D.int .i64 V,D.slc X Y W,D.slc a0 a1 Z] false))::zn 103 [])))
noncomputable def tL(call:CL)(L:Nat)(C:Nat→Nat)(vs q:ByteArray)(z K M O:Int)(U:Bool)(V:Nat)(S:List D)(X:Bool)(Y:Nat)(W:List D)(vx:ByteArray)(a0 a1 a2 a3:Int)(a5:Bool)(a6:Nat)(a4:List D)(a8:Bool)(a9:Nat)(a7:List D):Option D:=
 eL (cF call L C) O0 PL FinM.canon Tryz.f14 [true,true,true] [] (C 15) (St.mk (J::D.str vs::D.loc 2 0 0::J::J::D.loc 5 0 0::jn 103 []) (Z::Z::(1,some (Ob.box [D.str q,D.int .i64 z,D.int .i64 K,D.int .i64 M,D.int .i64 O,D.slc U V S,D.slc X Y W] false))::Z::Z::(1,some (Ob.box [D.str vx,D.int .i64 a0,D.int .i64 a1,D.int .i64 a2,D.int .i64 a3,D.slc a5 a6 a4,D.slc a8 a9 a7] false))::zn 103 []))
theorem zJ(call:CL)(L:Nat)(C:Nat→Nat)(vs:ByteArray)(hC:∀t,C t=1):ma call L C vs=
 (bB (call 72 [D.str vs]) fun aF=>cy aF 3 fun K=>bu K 0 fun a0=>dq a0 7 fun q=>bu q 0 fun a1=>bU a1 fun aK=>bu q 1 fun a2=>bD .i64 a2 fun aN=>bu q 2 fun a3=>bD .i64 a3 fun aO=>bu q 3 fun a4=>bD .i64 a4 fun aP=>bu q 4 fun a5=>bD .i64 a5 fun aQ=>bu q 5 fun a6=>dr a6 fun av az U=>bu q 6 fun a7=>dr a7 fun aw aA V=>bu K 1 fun a8=>bD .i64 a8 fun aR=>bu K 2 fun a9=>bD .i64 a9 fun aS=>bB (call 73 [D.str vs]) fun aG=>cy aG 3 fun M=>bu M 0 fun aa=>dq aa 7 fun z=>bu z 0 fun ab=>bU ab fun aL=>bu z 1 fun ac=>bD .i64 ac fun aT=>bu z 2 fun ad=>bD .i64 ad fun aU=>bu z 3 fun ae=>bD .i64 ae fun aV=>bu z 4 fun af=>bD .i64 af fun aW=>bu z 5 fun ag=>dr ag fun ax aB W=>bu z 6 fun ah=>dr ah fun ay aC X=>bu M 1 fun ai=>bD .i64 ai fun aX=>bu M 2 fun aj=>bD .i64 aj fun aY=>bz (aS==aY)
 (bz (aR==aX)
 (bB (call 15 [D.agg [D.str aK,D.int .i64 aN,D.int .i64 aO,D.int .i64 aP,D.int .i64 aQ,D.slc av az U,D.slc aw aA V]]) fun aH=>dq aH 7 fun J=>bu J 0 fun ak=>bU ak fun aM=>bu J 1 fun al=>bD .i64 al fun aZ=>bu J 2 fun am=>bD .i64 am fun b0=>bu J 3 fun an=>bD .i64 an fun b1=>bu J 4 fun ao=>bD .i64 ao fun b2=>bu J 5 fun ap=>dr ap fun ar aD Y=>bu J 6 fun aq=>dr aq fun au aE Z=>bB (call 68 [D.agg [D.str aM,D.int .i64 aZ,D.int .i64 b0,D.int .i64 b1,D.int .i64 b2,D.slc ar aD Y,D.slc au aE Z],D.agg [D.str aL,D.int .i64 aT,D.int .i64 aU,D.int .i64 aV,D.int .i64 aW,D.slc ax aB W,D.slc ay aC X]]) fun aI=>ce aI fun O=>bz O
 (bB (call 17 []) fun aJ=>ce aJ fun S=>some (D.bool S))
 (some (D.bool false)))
 (some (D.bool false)))
 (some (D.bool false))):=by
 unfold ma;rw[hC]
 kernel_rfl
theorem tM(call:CL)(L:Nat)(C:Nat→Nat)(vs:ByteArray)(K:Int)(M vx:ByteArray)(O S U V:Int)(X:Bool)(Y:Nat)(W:List D)(a0:Bool)(a1:Nat)(Z:List D)(hC:∀t,C t=1):xS call L C vs K M vx O S U V X Y W a0 a1 Z=
 (bz (K==0)
 (bB (call 72 [D.str M]) fun az=>cy az 3 fun J=>bu J 0 fun an=>dq an 7 fun q=>bu q 0 fun a7=>bU a7 fun aB=>bu q 1 fun a8=>bD .i64 a8 fun aJ=>bu q 2 fun a9=>bD .i64 a9 fun aK=>bu q 3 fun aa=>bD .i64 aa fun aL=>bu q 4 fun ab=>bD .i64 ab fun aM=>bu q 5 fun ac=>dr ac fun ao au a4=>bu q 6 fun ad=>dr ad fun ap av a5=>bu J 1 fun ae=>bD .i64 ae fun aD=>bu J 2 fun af=>bD .i64 af fun aE=>bz (aE !=0)
 (some (D.bool false))
 (bz (aD !=0)
 (some (D.bool false))
 (bB (call 15 [D.agg [D.str aB,D.int .i64 aJ,D.int .i64 aK,D.int .i64 aL,D.int .i64 aM,D.slc ao au a4,D.slc ap av a5]]) fun aA=>dq aA 7 fun z=>bu z 0 fun ag=>bU ag fun aC=>bu z 1 fun ah=>bD .i64 ah fun aF=>bu z 2 fun ai=>bD .i64 ai fun aG=>bu z 3 fun aj=>bD .i64 aj fun aH=>bu z 4 fun ak=>bD .i64 ak fun aI=>bu z 5 fun al=>dr al fun aq aw a6=>bu z 6 fun am=>dr am fun ar ax a3=>bB (call 68 [D.agg [D.str aC,D.int .i64 aF,D.int .i64 aG,D.int .i64 aH,D.int .i64 aI,D.slc aq aw a6,D.slc ar ax a3],D.agg [D.str vx,D.int .i64 O,D.int .i64 S,D.int .i64 U,D.int .i64 V,D.slc X Y W,D.slc a0 a1 Z]]) fun ay=>ce ay fun a2=>bz (!a2)
 (some (D.bool false))
 (ma call L C vs))))
 (ma call L C vs)):=by
 unfold xS;rw[hC]
 kernel_rfl
theorem tN(call:CL)(L:Nat)(C:Nat→Nat)(vs vx:ByteArray)(M O S U:Int)(W:Bool)(X:Nat)(V:List D)(Z:Bool)(a0:Nat)(Y:List D)(K:ByteArray)(J q:Int)(z:ByteArray)(hC:∀t,C t=1):rY call L C vs vx M O S U W X V Z a0 Y K J q z=
 (bz (J !=q)
 (some (D.bool false))
 (bz (!ByteArray.toList K==ByteArray.toList z)
 (some (D.bool false))
 (xS call L C vs q z vx M O S U W X V Z a0 Y))):=by
 unfold rY;rw[hC]
 kernel_rfl
theorem EQ(call:CL)(L:Nat)(C:Nat→Nat)(vs a0:ByteArray)(a1 a2 a3 a4:Int)(a6:Bool)(a7:Nat)(a5:List D)(a9:Bool)(aa:Nat)(a8:List D)(vx:ByteArray)(q z J K:Int)(O:Bool)(S:Nat)(M:List D)(V:Bool)(W:Nat)(U:List D)(hC:∀t,C t=1):tL call L C vs a0 a1 a2 a3 a4 a6 a7 a5 a9 aa a8 vx q z J K O S M V W U=
 (bB (call 70 [D.agg [D.str a0,D.int .i64 a1,D.int .i64 a2,D.int .i64 a3,D.int .i64 a4,D.slc a6 a7 a5,D.slc a9 aa a8]]) fun ae=>cy ae 2 fun Y=>bu Y 0 fun ac=>bU ac fun Z=>bu Y 1 fun ad=>bD .i64 ad fun ab=>bB (call 18 [D.agg [D.str vx,D.int .i64 q,D.int .i64 z,D.int .i64 J,D.int .i64 K,D.slc O S M,D.slc V W U]]) fun af=>bD .i64 af fun X=>bz (X==0)
 (bB (call 71 [D.agg [D.str vx,D.int .i64 q,D.int .i64 z,D.int .i64 J,D.int .i64 K,D.slc O S M,D.slc V W U]]) fun ag=>bU ag fun ah=>rY call L C vs vx q z J K O S M V W U Z ab X ah)
 (rY call L C vs vx q z J K O S M V W U Z ab X (ByteArray.mk #[]))):=by
 unfold tL;rw[hC]
 kernel_rfl
theorem Od(call:CL)(L:Nat)(C:Nat→Nat)(q:ByteArray)(z J K M:Int)(S:Bool)(U:Nat)(O:List D)(W:Bool)(X:Nat)(V:List D)(vs:ByteArray):bT (cF call L C) O0 PL FinM.canon Tryz.f14 [D.agg [D.str q,D.int .i64 z,D.int .i64 J,D.int .i64 K,D.int .i64 M,D.slc S U O,D.slc W X V],D.str vs]=
 (bB (call 15 [D.agg [D.str q,D.int .i64 z,D.int .i64 J,D.int .i64 K,D.int .i64 M,D.slc S U O,D.slc W X V]]) fun r=>dq r 7 fun c=>bu c 0 fun d=>bU d fun s=>bu c 1 fun a9=>bD .i64 a9 fun x=>bu c 2 fun aa=>bD .i64 aa fun a2=>bu c 3 fun ab=>bD .i64 ab fun a3=>bu c 4 fun ac=>bD .i64 ac fun a4=>bu c 5 fun ad=>dr ad fun f n Y=>bu c 6 fun ae=>dr ae fun a0 a1 Z=>bB (call 16 [D.agg [D.str s,D.int .i64 x,D.int .i64 a2,D.int .i64 a3,D.int .i64 a4,D.slc f n Y,D.slc a0 a1 Z],D.int .i64 6,D.int .i64 8]) fun af=>ce af fun b=>bz (!b)
 (bB (call 17 []) fun ah=>ce ah fun a5=>some (D.bool a5))
 (bz (decide (((ByteArray.size vs):Int)>600))
 (bz (decide (((ByteArray.size vs):Int)≤4096))
 (bB (call 17 []) fun ai=>ce ai fun a6=>some (D.bool a6))
 (bz (decide (((ByteArray.size vs):Int)>4106))
 (bB (call 17 []) fun aj=>ce aj fun a7=>some (D.bool a7))
 (tL call L C vs q z J K M S U O W X V s x a2 a3 a4 f n Y a0 a1 Z)))
 (bz (decide (((ByteArray.size vs):Int)>4106))
 (bB (call 17 []) fun ag=>ce ag fun a8=>some (D.bool a8))
 (tL call L C vs q z J K M S U O W X V s x a2 a3 a4 f n Y a0 a1 Z)))):=by kernel_rfl
end Go.Pd
end
section
namespace Go.Proofs
open Go.Shelf
def Tryz.lays156_ren:Go.Shelf.Ren:=⟨fun|156=>124|165=>180|166=>123|169=>127|240=>179|241=>226|276=>225|277=>272|n=>n,fun|31=>80|9=>9|3=>3|4=>4|0=>0|20=>20|72=>194|76=>197|70=>191|37=>192|75=>196|127=>258|164=>297|5=>5|80=>203|n=>n,fun|n=>n⟩
theorem Tryz.lays156:Go.Proofs.Lays.n156 Tryz.prog Tryz.lays156_ren:={
 mixed:=by kernel_rfl
 f156:=Tryz.func124.trans (congrArg some (by kernel_rfl))
 f165:=Tryz.func180.trans (congrArg some (by kernel_rfl))
 f166:=Tryz.func123.trans (congrArg some (by kernel_rfl))
 f169:=Tryz.func127.trans (congrArg some (by kernel_rfl))
 f240:=Tryz.func179.trans (congrArg some (by kernel_rfl))
 f241:=Tryz.func226.trans (congrArg some (by kernel_rfl))
 f276:=Tryz.func225.trans (congrArg some (by kernel_rfl))
 f277:=Tryz.func272.trans (congrArg some (by kernel_rfl))
 t0:=Tryz.underlying0
 a0:=Tryz.isAgg0
 z0:=Tryz.sizeOf0
 v0:=Tryz.zeroValue0
 t3:=Tryz.underlying3
 a3:=Tryz.isAgg3
 z3:=Tryz.sizeOf3
 v3:=Tryz.zeroValue3
 t4:=Tryz.underlying4
 a4:=Tryz.isAgg4
 z4:=Tryz.sizeOf4
 v4:=Tryz.zeroValue4
 t9:=Tryz.underlying9
 a9:=Tryz.isAgg9
 z9:=Tryz.sizeOf9
 v9:=Tryz.zeroValue9
 t20:=Tryz.underlying20
 a20:=Tryz.isAgg20
 z20:=Tryz.sizeOf20
 v20:=Tryz.zeroValue20
 t31:=Tryz.underlying80
 a31:=Tryz.isAgg80
 z31:=Tryz.sizeOf80
 v31:=Tryz.zeroValue80
 t37:=Tryz.underlying192
 a37:=Tryz.isAgg192
 z37:=Tryz.sizeOf192
 v37:=Tryz.zeroValue192
 t70:=Tryz.underlying191
 a70:=Tryz.isAgg191
 z70:=Tryz.sizeOf191
 v70:=Tryz.zeroValue191
 t72:=Tryz.underlying194
 a72:=Tryz.isAgg194
 z72:=Tryz.sizeOf194
 v72:=Tryz.zeroValue194
 t75:=Tryz.underlying196
 a75:=Tryz.isAgg196
 z75:=Tryz.sizeOf196
 v75:=Tryz.zeroValue196
 t76:=Tryz.underlying197
 a76:=Tryz.isAgg197
 z76:=Tryz.sizeOf197
 v76:=Tryz.zeroValue197
 t127:=Tryz.underlying258
 a127:=Tryz.isAgg258
 z127:=Tryz.sizeOf258
 v127:=Tryz.zeroValue258
 t164:=Tryz.underlying297
 a164:=Tryz.isAgg297
 z164:=Tryz.sizeOf297
 v164:=Tryz.zeroValue297}
theorem Tryz.Builder_Extra_156:Builder.Extra Tryz.prog Tryz.lays156_ren:={
 sizeBuilder:=by kernel_rfl
 liesBuilder:=by kernel_rfl
 t5:=Tryz.underlying5
 a5:=Tryz.isAgg5
 z5:=Tryz.sizeOf5
 v5:=Tryz.zeroValue5
 infoByte:=by kernel_rfl
 cellsByte:=by kernel_rfl
 sizeByte:=by kernel_rfl
 neB5:=by decide}
def Tryz.lays160_ren:Go.Shelf.Ren:=⟨fun|160=>279|232=>305|231=>304|227=>306|234=>308|233=>307|236=>310|235=>309|228=>322|271=>324|151=>323|197=>282|120=>334|152=>333|260=>313|137=>338|119=>339|224=>316|225=>315|217=>314|266=>330|n=>n,fun|9=>9|4=>4|3=>3|5=>5|117=>357|116=>356|0=>0|124=>360|21=>21|105=>338|46=>272|119=>373|139=>376|138=>375|n=>n,fun|3=>5|4=>6|n=>n⟩
theorem Tryz.lays160:Go.Proofs.Lays.n160 Tryz.prog Tryz.lays160_ren:={
 mixed:=by kernel_rfl
 f119:=Tryz.func339.trans (congrArg some (by kernel_rfl))
 f120:=Tryz.func334.trans (congrArg some (by kernel_rfl))
 f137:=Tryz.func338.trans (congrArg some (by kernel_rfl))
 f151:=Tryz.func323.trans (congrArg some (by kernel_rfl))
 f152:=Tryz.func333.trans (congrArg some (by kernel_rfl))
 f160:=Tryz.func279.trans (congrArg some (by kernel_rfl))
 f197:=Tryz.func282.trans (congrArg some (by kernel_rfl))
 f217:=Tryz.func314.trans (congrArg some (by kernel_rfl))
 f224:=Tryz.func316.trans (congrArg some (by kernel_rfl))
 f225:=Tryz.func315.trans (congrArg some (by kernel_rfl))
 f227:=Tryz.func306.trans (congrArg some (by kernel_rfl))
 f228:=Tryz.func322.trans (congrArg some (by kernel_rfl))
 f231:=Tryz.func304.trans (congrArg some (by kernel_rfl))
 f232:=Tryz.func305.trans (congrArg some (by kernel_rfl))
 f233:=Tryz.func307.trans (congrArg some (by kernel_rfl))
 f234:=Tryz.func308.trans (congrArg some (by kernel_rfl))
 f235:=Tryz.func309.trans (congrArg some (by kernel_rfl))
 f236:=Tryz.func310.trans (congrArg some (by kernel_rfl))
 f260:=Tryz.func313.trans (congrArg some (by kernel_rfl))
 f266:=Tryz.func330.trans (congrArg some (by kernel_rfl))
 f271:=Tryz.func324.trans (congrArg some (by kernel_rfl))
 t0:=Tryz.underlying0
 a0:=Tryz.isAgg0
 z0:=Tryz.sizeOf0
 v0:=Tryz.zeroValue0
 t3:=Tryz.underlying3
 a3:=Tryz.isAgg3
 z3:=Tryz.sizeOf3
 v3:=Tryz.zeroValue3
 t4:=Tryz.underlying4
 a4:=Tryz.isAgg4
 z4:=Tryz.sizeOf4
 v4:=Tryz.zeroValue4
 t5:=Tryz.underlying5
 a5:=Tryz.isAgg5
 z5:=Tryz.sizeOf5
 v5:=Tryz.zeroValue5
 t9:=Tryz.underlying9
 a9:=Tryz.isAgg9
 z9:=Tryz.sizeOf9
 v9:=Tryz.zeroValue9
 t21:=Tryz.underlying21
 a21:=Tryz.isAgg21
 z21:=Tryz.sizeOf21
 v21:=Tryz.zeroValue21
 t46:=Tryz.underlying272
 a46:=Tryz.isAgg272
 z46:=Tryz.sizeOf272
 v46:=Tryz.zeroValue272
 t105:=Tryz.underlying338
 a105:=Tryz.isAgg338
 z105:=Tryz.sizeOf338
 v105:=Tryz.zeroValue338
 t116:=Tryz.underlying356
 a116:=Tryz.isAgg356
 z116:=Tryz.sizeOf356
 t117:=Tryz.underlying357
 a117:=Tryz.isAgg357
 z117:=Tryz.sizeOf357
 v117:=Tryz.zeroValue357
 t119:=Tryz.underlying373
 a119:=Tryz.isAgg373
 z119:=Tryz.sizeOf373
 t124:=Tryz.underlying360
 a124:=Tryz.isAgg360
 z124:=Tryz.sizeOf360
 v124:=Tryz.zeroValue360
 t138:=Tryz.underlying375
 a138:=Tryz.isAgg375
 z138:=Tryz.sizeOf375
 v138:=Tryz.zeroValue375
 t139:=Tryz.underlying376
 a139:=Tryz.isAgg376
 z139:=Tryz.sizeOf376
 v139:=Tryz.zeroValue376
 g3:=by kernel_rfl
 g4:=by kernel_rfl}
def Tryz.lays172_ren:Go.Shelf.Ren:=⟨fun|172=>280|244=>311|245=>312|247=>325|279=>326|280=>327|281=>328|282=>329|287=>335|316=>336|171=>125|205=>337|321=>340|322=>341|243=>181|246=>227|283=>273|284=>274|285=>275|286=>276|129=>247|317=>299|318=>300|319=>301|320=>302|337=>320|338=>321|n=>n,fun|9=>9|3=>3|75=>196|76=>197|4=>4|5=>5|167=>367|37=>192|0=>0|85=>368|2=>2|168=>370|53=>217|175=>381|46=>272|210=>385|127=>258|145=>390|143=>388|21=>21|171=>334|173=>336|212=>352|51=>315|20=>20|213=>353|232=>378|233=>379|80=>203|n=>n,fun|15=>9|16=>10|17=>4|18=>7|19=>8|n=>n⟩
theorem Tryz.lays172:Go.Proofs.Lays.n172 Tryz.prog Tryz.lays172_ren:={
 mixed:=by kernel_rfl
 f129:=Tryz.func247.trans (congrArg some (by kernel_rfl))
 f171:=Tryz.func125.trans (congrArg some (by kernel_rfl))
 f172:=Tryz.func280.trans (congrArg some (by kernel_rfl))
 f205:=Tryz.func337.trans (congrArg some (by kernel_rfl))
 f243:=Tryz.func181.trans (congrArg some (by kernel_rfl))
 f244:=Tryz.func311.trans (congrArg some (by kernel_rfl))
 f245:=Tryz.func312.trans (congrArg some (by kernel_rfl))
 f246:=Tryz.func227.trans (congrArg some (by kernel_rfl))
 f247:=Tryz.func325.trans (congrArg some (by kernel_rfl))
 f279:=Tryz.func326.trans (congrArg some (by kernel_rfl))
 f280:=Tryz.func327.trans (congrArg some (by kernel_rfl))
 f281:=Tryz.func328.trans (congrArg some (by kernel_rfl))
 f282:=Tryz.func329.trans (congrArg some (by kernel_rfl))
 f283:=Tryz.func273.trans (congrArg some (by kernel_rfl))
 f284:=Tryz.func274.trans (congrArg some (by kernel_rfl))
 f285:=Tryz.func275.trans (congrArg some (by kernel_rfl))
 f286:=Tryz.func276.trans (congrArg some (by kernel_rfl))
 f287:=Tryz.func335.trans (congrArg some (by kernel_rfl))
 f316:=Tryz.func336.trans (congrArg some (by kernel_rfl))
 f317:=Tryz.func299.trans (congrArg some (by kernel_rfl))
 f318:=Tryz.func300.trans (congrArg some (by kernel_rfl))
 f319:=Tryz.func301.trans (congrArg some (by kernel_rfl))
 f320:=Tryz.func302.trans (congrArg some (by kernel_rfl))
 f321:=Tryz.func340.trans (congrArg some (by kernel_rfl))
 f322:=Tryz.func341.trans (congrArg some (by kernel_rfl))
 f337:=Tryz.func320.trans (congrArg some (by kernel_rfl))
 f338:=Tryz.func321.trans (congrArg some (by kernel_rfl))
 t0:=Tryz.underlying0
 a0:=Tryz.isAgg0
 z0:=Tryz.sizeOf0
 v0:=Tryz.zeroValue0
 t2:=Tryz.underlying2
 a2:=Tryz.isAgg2
 z2:=Tryz.sizeOf2
 v2:=Tryz.zeroValue2
 t3:=Tryz.underlying3
 a3:=Tryz.isAgg3
 z3:=Tryz.sizeOf3
 v3:=Tryz.zeroValue3
 t4:=Tryz.underlying4
 a4:=Tryz.isAgg4
 z4:=Tryz.sizeOf4
 v4:=Tryz.zeroValue4
 t5:=Tryz.underlying5
 a5:=Tryz.isAgg5
 z5:=Tryz.sizeOf5
 v5:=Tryz.zeroValue5
 t9:=Tryz.underlying9
 a9:=Tryz.isAgg9
 z9:=Tryz.sizeOf9
 v9:=Tryz.zeroValue9
 t20:=Tryz.underlying20
 a20:=Tryz.isAgg20
 z20:=Tryz.sizeOf20
 v20:=Tryz.zeroValue20
 t21:=Tryz.underlying21
 a21:=Tryz.isAgg21
 z21:=Tryz.sizeOf21
 v21:=Tryz.zeroValue21
 t37:=Tryz.underlying192
 a37:=Tryz.isAgg192
 z37:=Tryz.sizeOf192
 v37:=Tryz.zeroValue192
 t46:=Tryz.underlying272
 a46:=Tryz.isAgg272
 z46:=Tryz.sizeOf272
 v46:=Tryz.zeroValue272
 t51:=Tryz.underlying315
 a51:=Tryz.isAgg315
 z51:=Tryz.sizeOf315
 v51:=Tryz.zeroValue315
 t53:=Tryz.underlying217
 a53:=Tryz.isAgg217
 z53:=Tryz.sizeOf217
 v53:=Tryz.zeroValue217
 t75:=Tryz.underlying196
 a75:=Tryz.isAgg196
 z75:=Tryz.sizeOf196
 v75:=Tryz.zeroValue196
 t76:=Tryz.underlying197
 a76:=Tryz.isAgg197
 z76:=Tryz.sizeOf197
 v76:=Tryz.zeroValue197
 t85:=Tryz.underlying368
 a85:=Tryz.isAgg368
 z85:=Tryz.sizeOf368
 v85:=Tryz.zeroValue368
 t127:=Tryz.underlying258
 a127:=Tryz.isAgg258
 z127:=Tryz.sizeOf258
 v127:=Tryz.zeroValue258
 t143:=Tryz.underlying388
 a143:=Tryz.isAgg388
 z143:=Tryz.sizeOf388
 v143:=Tryz.zeroValue388
 t145:=Tryz.underlying390
 a145:=Tryz.isAgg390
 z145:=Tryz.sizeOf390
 v145:=Tryz.zeroValue390
 t167:=Tryz.underlying367
 a167:=Tryz.isAgg367
 z167:=Tryz.sizeOf367
 v167:=Tryz.zeroValue367
 t168:=Tryz.underlying370
 a168:=Tryz.isAgg370
 z168:=Tryz.sizeOf370
 v168:=Tryz.zeroValue370
 t171:=Tryz.underlying334
 a171:=Tryz.isAgg334
 z171:=Tryz.sizeOf334
 v171:=Tryz.zeroValue334
 t173:=Tryz.underlying336
 a173:=Tryz.isAgg336
 z173:=Tryz.sizeOf336
 v173:=Tryz.zeroValue336
 t175:=Tryz.underlying381
 a175:=Tryz.isAgg381
 z175:=Tryz.sizeOf381
 v175:=Tryz.zeroValue381
 t210:=Tryz.underlying385
 a210:=Tryz.isAgg385
 z210:=Tryz.sizeOf385
 v210:=Tryz.zeroValue385
 t212:=Tryz.underlying352
 a212:=Tryz.isAgg352
 z212:=Tryz.sizeOf352
 v212:=Tryz.zeroValue352
 t213:=Tryz.underlying353
 a213:=Tryz.isAgg353
 z213:=Tryz.sizeOf353
 t232:=Tryz.underlying378
 a232:=Tryz.isAgg378
 z232:=Tryz.sizeOf378
 v232:=Tryz.zeroValue378
 t233:=Tryz.underlying379
 a233:=Tryz.isAgg379
 z233:=Tryz.sizeOf379
 v233:=Tryz.zeroValue379
 g15:=by kernel_rfl
 g16:=by kernel_rfl
 g17:=by kernel_rfl
 g18:=by kernel_rfl
 g19:=by kernel_rfl}
def Tryz.lays221_ren:Go.Shelf.Ren:=⟨fun|221=>186|268=>230|138=>231|143=>232|195=>281|197=>282|218=>283|219=>284|260=>313|217=>314|225=>315|224=>316|267=>317|266=>330|314=>331|n=>n,fun|9=>9|3=>3|31=>80|4=>4|0=>0|105=>338|21=>21|5=>5|46=>272|119=>373|139=>376|138=>375|146=>349|51=>315|n=>n,fun|1=>3|3=>5|4=>6|n=>n⟩
theorem Tryz.lays221:Go.Proofs.Lays.n221 Tryz.prog Tryz.lays221_ren:={
 mixed:=by kernel_rfl
 f138:=Tryz.func231.trans (congrArg some (by kernel_rfl))
 f143:=Tryz.func232.trans (congrArg some (by kernel_rfl))
 f195:=Tryz.func281.trans (congrArg some (by kernel_rfl))
 f197:=Tryz.func282.trans (congrArg some (by kernel_rfl))
 f217:=Tryz.func314.trans (congrArg some (by kernel_rfl))
 f218:=Tryz.func283.trans (congrArg some (by kernel_rfl))
 f219:=Tryz.func284.trans (congrArg some (by kernel_rfl))
 f221:=Tryz.func186.trans (congrArg some (by kernel_rfl))
 f224:=Tryz.func316.trans (congrArg some (by kernel_rfl))
 f225:=Tryz.func315.trans (congrArg some (by kernel_rfl))
 f260:=Tryz.func313.trans (congrArg some (by kernel_rfl))
 f266:=Tryz.func330.trans (congrArg some (by kernel_rfl))
 f267:=Tryz.func317.trans (congrArg some (by kernel_rfl))
 f268:=Tryz.func230.trans (congrArg some (by kernel_rfl))
 f314:=Tryz.func331.trans (congrArg some (by kernel_rfl))
 t0:=Tryz.underlying0
 a0:=Tryz.isAgg0
 z0:=Tryz.sizeOf0
 v0:=Tryz.zeroValue0
 t3:=Tryz.underlying3
 a3:=Tryz.isAgg3
 z3:=Tryz.sizeOf3
 v3:=Tryz.zeroValue3
 t4:=Tryz.underlying4
 a4:=Tryz.isAgg4
 z4:=Tryz.sizeOf4
 v4:=Tryz.zeroValue4
 t5:=Tryz.underlying5
 a5:=Tryz.isAgg5
 z5:=Tryz.sizeOf5
 v5:=Tryz.zeroValue5
 t9:=Tryz.underlying9
 a9:=Tryz.isAgg9
 z9:=Tryz.sizeOf9
 v9:=Tryz.zeroValue9
 t21:=Tryz.underlying21
 a21:=Tryz.isAgg21
 z21:=Tryz.sizeOf21
 v21:=Tryz.zeroValue21
 t31:=Tryz.underlying80
 a31:=Tryz.isAgg80
 z31:=Tryz.sizeOf80
 v31:=Tryz.zeroValue80
 t46:=Tryz.underlying272
 a46:=Tryz.isAgg272
 z46:=Tryz.sizeOf272
 v46:=Tryz.zeroValue272
 t51:=Tryz.underlying315
 a51:=Tryz.isAgg315
 z51:=Tryz.sizeOf315
 v51:=Tryz.zeroValue315
 t105:=Tryz.underlying338
 a105:=Tryz.isAgg338
 z105:=Tryz.sizeOf338
 v105:=Tryz.zeroValue338
 t119:=Tryz.underlying373
 a119:=Tryz.isAgg373
 z119:=Tryz.sizeOf373
 t138:=Tryz.underlying375
 a138:=Tryz.isAgg375
 z138:=Tryz.sizeOf375
 v138:=Tryz.zeroValue375
 t139:=Tryz.underlying376
 a139:=Tryz.isAgg376
 z139:=Tryz.sizeOf376
 v139:=Tryz.zeroValue376
 t146:=Tryz.underlying349
 a146:=Tryz.isAgg349
 z146:=Tryz.sizeOf349
 v146:=Tryz.zeroValue349
 g1:=by kernel_rfl
 g3:=by kernel_rfl
 g4:=by kernel_rfl}
end Go.Proofs
end
