import Derived.Test.YtjhoaknnmfifgaaGreatDoorUoA
import Derived.KernelRfl
section
namespace Go.Pd
open Go Go.Proofs
set_option maxRecDepth 100000
def Nb:bA:=fun p=>match p with
 |26=>nm [0,7,8,9] [4] [4]
 |3379=>nm [0,4,7,8,9] [] [4]
 |13518=>nm [0,7,8,9,36,37,38] [4] [4]
 |_=>none
noncomputable def kE(r:FuncId→List D→Option D)(L:Nat)(C:Nat→Nat)(n z:Nat)(j:Bool)(q:Nat)(h:List D)(M O:Int)(U:Bool)(V:Nat)(S:List D)(J K:Int):Option D:=
 bY (cv r L C) O0 Nb FinM.canon Tryz.f42 (bt 13 3685) [n] z (St.mk (D.slc j q h::jn 6 (D.slc j q h::D.int .i64 M::D.int .i64 O::jn 26 (D.slc U V S::D.int .i64 J::D.int .i64 K::jn 11 []))) (zn 50 []))
noncomputable def qz(r:FuncId→List D→Option D)(L:Nat)(C:Nat→Nat)(n:Nat)(j:Bool)(q:Nat)(h:List D)(z K M:Int)(O:ByteArray)(U:Bool)(V:Nat)(S:List D)(Y:Bool)(a0:Nat)(W:List D)(a1:ByteArray):Option D:=
 d9 (cv r L C) O0 Nb FinM.canon Tryz.f42 (bt 11 1637) [n] (C 3379) (St.mk (D.slc j q h::J::J::J::D.loc 4 0 0::J::J::D.slc j q h::D.int .i64 z::D.int .i64 K::jn 40 []) (Z::Z::Z::Z::(1,some (Ob.box [D.int .i64 M,D.str O,D.slc U V S,D.slc Y a0 W,D.str a1] false))::zn 45 []))
noncomputable def qA(r:FuncId→List D→Option D)(L:Nat)(C:Nat→Nat)(n:Nat)(j:Bool)(q:Nat)(h:List D)(z J:Int):Option D:=
 bY (cv r L C) O0 Nb FinM.canon Tryz.f42 [true,false,true,false] [] n (St.mk (D.slc j q h::jn 6 (D.slc j q h::D.int .i64 z::D.int .i64 J::jn 40 [])) (zn 50 []))
theorem my(j:FuncId→List D→Option D)(L:Nat)(C:Nat→Nat)(n U:Nat)(O:Bool)(S:Nat)(M:List D)(r z:Int)(V:Bool)(K:Nat)(J:List D)(q h:Int):kE j L C n (U+1) O S M r z V K J q h=
 (bo (decide (h<q))
 (bu (decide (0≤h∧h<(K:Int)))
 (bc J (Int.toNat h*1) fun W=>bH W fun Y=>bo (decide (((ByteArray.size Y):Int)>60))
 (some (D.bool false))
 (kE j L C n U O S M r z V K J q (IntKind.wrap .i64 (h+1)))))
 (qA j L C n O S M r (IntKind.wrap .i64 (z+1)))):=by kernel_rfl
theorem wN(j:FuncId→List D→Option D)(L:Nat)(C:Nat→Nat)(n:Nat)(M:Bool)(O:Nat)(K:List D)(q r S:Int)(U:ByteArray)(J:Bool)(h:Nat)(z:List D)(W:Bool)(Y:Nat)(V:List D)(Z:ByteArray)(hC:∀t,C t=1):qz j L C n M O K q r S U J h z W Y V Z=
 (kE j L C n L M O K q r J h z ((h:Int)) 0):=by
 unfold qz;rw[hC]
 kernel_rfl
theorem sW(z:FuncId→List D→Option D)(L:Nat)(C:Nat→Nat)(n:Nat)(O:Bool)(q:Nat)(j:List D)(r h:Int):qA z L C (n+1) O q j r h=
 (bo (decide (h<r))
 (bu (decide (0≤h∧h<(q:Int)))
 (bc j (Int.toNat h*5+0) fun d=>bw .i64 d fun x=>bc j (Int.toNat h*5+1) fun U=>bH U fun s=>bc j (Int.toNat h*5+2) fun V=>cP V fun f J c=>bc j (Int.toNat h*5+3) fun W=>cP W fun Z K S=>bc j (Int.toNat h*5+4) fun Y=>bH Y fun M=>bo (decide (((ByteArray.size s):Int)>60))
 (some (D.bool false))
 (bo (decide ((J:Int)>5))
 (some (D.bool false))
 (bo (decide ((K:Int)>5))
 (some (D.bool false))
 (bo (decide (((ByteArray.size M):Int)>300))
 (some (D.bool false))
 (qz z L C n O q j r h x s f J c Z K S M))))))
 (some (D.bool (decide ((q:Int)≤24))))):=by kernel_rfl
theorem JO(j:FuncId→List D→Option D)(L:Nat)(C:Nat→Nat)(r:Bool)(h:Nat)(q:List D):bF (cv j L C) O0 Nb FinM.canon Tryz.f42 [D.slc r h q]=
 (qA j L C L r h q ((h:Int)) 0):=by kernel_rfl
def Hz:bA:=fun p=>match p with
 |7=>nm [1] [] [1]
 |63=>nm [1,3,4,5] [] [1]
 |506=>nm [1,3,4,5,7] [] [1]
 |511=>nm [1] [] [1]
 |1018=>nm [1,4,5,8] [] [1]
 |4090=>nm [1,9] [] [1]
 |_=>none
noncomputable def mz(h:FuncId→List D→Option D)(L:Nat)(C:Nat→Nat)(j:Nat)(q:Int)(r:ByteArray)(K:Bool)(M:Nat)(z:List D)(S:Bool)(U:Nat)(O:List D)(V:ByteArray)(W:Int):Option D:=
 bY (cv h L C) O0 Hz FinM.canon Tryz.f44 (bt 11 767) [] j (St.mk (J::D.loc 1 0 0::jn 7 (D.int .i64 W::jn 91 [])) (Z::(1,some (Ob.box [D.int .i64 q,D.str r,D.slc K M z,D.slc S U O,D.str V] false))::zn 99 []))
noncomputable def kF(h:FuncId→List D→Option D)(L:Nat)(C:Nat→Nat)(j:Int)(q:ByteArray)(z:Bool)(K:Nat)(r:List D)(O:Bool)(S:Nat)(M:List D)(U:ByteArray):Option D:=
 d9 (cv h L C) O0 Hz FinM.canon Tryz.f44 (bt 8 255) [] (C 511) (St.mk (J::D.loc 1 0 0::jn 99 []) (Z::(1,some (Ob.box [D.int .i64 j,D.str q,D.slc z K r,D.slc O S M,D.str U] false))::zn 99 []))
noncomputable def j6(h:FuncId→List D→Option D)(L:Nat)(C:Nat→Nat)(j:Nat)(a0:Int)(Y:Bool)(q:Int)(r:ByteArray)(K:Bool)(M:Nat)(z:List D)(S:Bool)(U:Nat)(O:List D)(V:ByteArray)(W:Int):Option D:=
 bY (cv h L C) O0 Hz FinM.canon Tryz.f44 (bt 9 191) [] j (St.mk (J::D.loc 1 0 0::J::J::D.int .i64 a0::D.bool Y::J::J::D.int .i64 W::jn 92 []) (Z::(1,some (Ob.box [D.int .i64 q,D.str r,D.slc K M z,D.slc S U O,D.str V] false))::zn 99 []))
noncomputable def oP(h:FuncId→List D→Option D)(L:Nat)(C:Nat→Nat)(j:Nat)(Y a1:Int)(a0:Bool)(q:Int)(r:ByteArray)(K:Bool)(M:Nat)(z:List D)(S:Bool)(U:Nat)(O:List D)(V:ByteArray)(W:Int):Option D:=
 bY (cv h L C) O0 Hz FinM.canon Tryz.f44 (bt 8 95) [] j (St.mk (J::D.loc 1 0 0::J::D.int .i64 Y::D.int .i64 a1::D.bool a0::J::D.int .i64 W::jn 93 []) (Z::(1,some (Ob.box [D.int .i64 q,D.str r,D.slc K M z,D.slc S U O,D.str V] false))::zn 99 []))
noncomputable def uk(h:FuncId→List D→Option D)(L:Nat)(C:Nat→Nat)(j:Int)(q:ByteArray)(z:Bool)(K:Nat)(r:List D)(O:Bool)(S:Nat)(M:List D)(U:ByteArray)(V Y:Int)(W:Bool):Option D:=
 d9 (cv h L C) O0 Hz FinM.canon Tryz.f44 (bt 5 31) [] (C 63) (St.mk (J::D.loc 1 0 0::J::D.int .i64 V::D.int .i64 Y::D.bool W::jn 95 []) (Z::(1,some (Ob.box [D.int .i64 j,D.str q,D.slc z K r,D.slc O S M,D.str U] false))::zn 99 []))
noncomputable def DF(h:FuncId→List D→Option D)(L:Nat)(C:Nat→Nat)(j:Int)(q:ByteArray)(z:Bool)(K:Nat)(r:List D)(O:Bool)(S:Nat)(M:List D)(U:ByteArray):Option D:=
 d9 (cv h L C) O0 Hz FinM.canon Tryz.f44 [true,true] [] (C 7) (St.mk (J::D.loc 1 0 0::jn 99 []) (Z::(1,some (Ob.box [D.int .i64 j,D.str q,D.slc z K r,D.slc O S M,D.str U] false))::zn 99 []))
theorem nP(q:FuncId→List D→Option D)(L:Nat)(C:Nat→Nat)(r:Nat)(z:Int)(J:ByteArray)(M:Bool)(O:Nat)(K:List D)(U:Bool)(V:Nat)(S:List D)(j:ByteArray)(h:Int):mz q L C (r+1) z J M O K U V S j h=
 (bo (decide (h<((ByteArray.size j):Int)))
 (bu (decide (0≤h∧Int.toNat h<ByteArray.size j))
 (bo (bB j (Int.toNat h)==35)
 (some (D.int .i64 1))
 (bu (decide (0≤h∧Int.toNat h<ByteArray.size j))
 (bo (bB j (Int.toNat h)==10)
 (some (D.int .i64 1))
 (mz q L C r z J M O K U V S j (IntKind.wrap .i64 (h+1)))))))
 (bo (decide (((ByteArray.size j):Int)>4096))
 (some (D.int .i64 26))
 (some (D.int .i64 0)))):=by kernel_rfl
theorem yA(h:FuncId→List D→Option D)(L:Nat)(C:Nat→Nat)(j:Int)(q:ByteArray)(z:Bool)(J:Nat)(r:List D)(M:Bool)(O:Nat)(K:List D)(S:ByteArray)(hC:∀t,C t=1):kF h L C j q z J r M O K S=
 (mz h L C L j q z J r M O K S 0):=by
 unfold kF;rw[hC]
 kernel_rfl
theorem nQ(z:FuncId→List D→Option D)(L:Nat)(C:Nat→Nat)(Y:Nat)(W:Int)(V:Bool)(J:Int)(K:ByteArray)(O:Bool)(S:Nat)(M:List D)(U:Bool)(q:Nat)(j:List D)(r:ByteArray)(h:Int):j6 z L C (Y+1) W V J K O S M U q j r h=
 (bo (decide (h<W))
 (bu (decide (0≤h∧h<(q:Int)))
 (bc j (Int.toNat h*1) fun Z=>bw .i64 Z fun a1=>bo (decide (a1<0))
 (some (D.int .i64 3))
 (bu (decide (0≤h∧h<(q:Int)))
 (bc j (Int.toNat h*1) fun a0=>bw .i64 a0 fun a2=>bo (decide (a2>999999999))
 (some (D.int .i64 3))
 (j6 z L C Y W V J K O S M U q j r (IntKind.wrap .i64 (h+1)))))))
 (bo (!V)
 (bo (!ByteArray.toList r==ByteArray.toList (ByteArray.mk #[]))
 (some (D.int .i64 1))
 (kF z L C J K O S M U q j r))
 (kF z L C J K O S M U q j r))):=by kernel_rfl
theorem qB(j:FuncId→List D→Option D)(L:Nat)(C:Nat→Nat)(Z:Nat)(V Y:Int)(W:Bool)(z:Int)(J:ByteArray)(K:Bool)(r:Nat)(q:List D)(O:Bool)(S:Nat)(M:List D)(U:ByteArray)(h:Int):oP j L C (Z+1) V Y W z J K r q O S M U h=
 (bo (decide (h<V))
 (bu (decide (0≤h∧h<(r:Int)))
 (bc q (Int.toNat h*1) fun a1=>bH a1 fun s=>bn (j 80 [D.str s]) fun a2=>bM a2 fun a0=>bo (!a0)
 (some (D.int .i64 8))
 (oP j L C Z V Y W z J K r q O S M U (IntKind.wrap .i64 (h+1)))))
 (j6 j L C L Y W z J K r q O S M U 0)):=by kernel_rfl
theorem Bd(h:FuncId→List D→Option D)(L:Nat)(C:Nat→Nat)(j:Int)(q:ByteArray)(z:Bool)(J:Nat)(r:List D)(M:Bool)(O:Nat)(K:List D)(S:ByteArray)(U W:Int)(V:Bool)(hC:∀t,C t=1):uk h L C j q z J r M O K S U W V=
 (oP h L C L U W V j q z J r M O K S 0):=by
 unfold uk;rw[hC]
 kernel_rfl
theorem DG(h:FuncId→List D→Option D)(L:Nat)(C:Nat→Nat)(J:Int)(j:ByteArray)(M:Bool)(q:Nat)(K:List D)(S:Bool)(z:Nat)(O:List D)(U:ByteArray)(hC:∀t,C t=1):DF h L C J j M q K S z O U=
 (bn (h 121 [D.str j]) fun r=>cJ r 4 fun c=>bc c 0 fun d=>bw .i64 d fun x=>bc c 1 fun Y=>bw .i64 Y fun V=>bc c 2 fun Z=>bM Z fun b=>bc c 3 fun a0=>bM a0 fun W=>bo (!W)
 (some (D.int .i64 13))
 (bo ((q:Int) !=x)
 (some (D.int .i64 2))
 (bo ((z:Int) !=V)
 (some (D.int .i64 2))
 (uk h L C J j M q K S z O U x V b)))):=by
 unfold DF;rw[hC]
 kernel_rfl
theorem JP(j:FuncId→List D→Option D)(L:Nat)(C:Nat→Nat)(h:Int)(q:ByteArray)(z:Bool)(J:Nat)(r:List D)(M:Bool)(O:Nat)(K:List D)(S:ByteArray):bF (cv j L C) O0 Hz FinM.canon Tryz.f44 [D.agg [D.int .i64 h,D.str q,D.slc z J r,D.slc M O K,D.str S]]=
 (bo (decide (h<1))
 (some (D.int .i64 3))
 (bo (decide (h>1000))
 (some (D.int .i64 3))
 (DF j L C h q z J r M O K S))):=by kernel_rfl
def JQ:bA:=fun p=>match p with
 |58=>nm [0,1,5] [] []
 |_=>none
noncomputable def oQ(h:FuncId→List D→Option D)(L:Nat)(C:Nat→Nat)(n:Nat)(q:Bool)(r:Nat)(j:List D)(K:Bool)(M:Nat)(z:List D)(O:Int):Option D:=
 bY (cv h L C) O0 JQ FinM.canon Tryz.f124 (bt 5 11) [] n (St.mk (D.slc q r j::D.slc K M z::J::J::J::D.int .i64 O::jn 20 []) (zn 26 []))
theorem qC(J:FuncId→List D→Option D)(L:Nat)(C:Nat→Nat)(n:Nat)(K:Bool)(j:Nat)(q:List D)(M:Bool)(z:Nat)(r:List D)(h:Int):oQ J L C (n+1) K j q M z r h=
 (bo (decide (h<(j:Int)))
 (bu (decide (0≤h∧h<(j:Int)))
 (bc q (Int.toNat h*1) fun d=>bH d fun s=>bu (decide (0≤h∧h<(z:Int)))
 (bc r (Int.toNat h*1) fun O=>bH O fun S=>bo (!ByteArray.toList s==ByteArray.toList S)
 (some (D.bool false))
 (oQ J L C n K j q M z r (IntKind.wrap .i64 (h+1))))))
 (some (D.bool true))):=by kernel_rfl
theorem Gk(q:FuncId→List D→Option D)(L:Nat)(C:Nat→Nat)(z:Bool)(h:Nat)(r:List D)(K:Bool)(j:Nat)(J:List D):bF (cv q L C) O0 JQ FinM.canon Tryz.f124 [D.slc z h r,D.slc K j J]=
 (bo ((h:Int) !=(j:Int))
 (some (D.bool false))
 (oQ q L C L z h r K j J 0)):=by kernel_rfl
def Pv:bA:=fun p=>match p with
 |58=>nm [0,1,5] [] []
 |_=>none
noncomputable def ul(h:FuncId→List D→Option D)(L:Nat)(C:Nat→Nat)(n:Nat)(q:Bool)(r:Nat)(j:List D)(K:Bool)(M:Nat)(z:List D)(O:Int):Option D:=
 bY (cv h L C) O0 Pv FinM.canon Tryz.f54 (bt 5 11) [] n (St.mk (D.slc q r j::D.slc K M z::J::J::J::D.int .i64 O::jn 76 []) (zn 82 []))
theorem sX(K:FuncId→List D→Option D)(L:Nat)(C:Nat→Nat)(n:Nat)(M:Bool)(j:Nat)(q:List D)(O:Bool)(J:Nat)(z:List D)(h:Int):ul K L C (n+1) M j q O J z h=
 (bo (decide (h<(j:Int)))
 (bu (decide (0≤h∧h<(j:Int)))
 (bc q (Int.toNat h*5+0) fun d=>bw .i64 d fun x=>bu (decide (0≤h∧h<(J:Int)))
 (bc z (Int.toNat h*5+0) fun Y=>bw .i64 Y fun ai=>bo (x !=ai)
 (some (D.bool false))
 (bu (decide (0≤h∧h<(j:Int)))
 (bc q (Int.toNat h*5+1) fun Z=>bH Z fun s=>bu (decide (0≤h∧h<(J:Int)))
 (bc z (Int.toNat h*5+1) fun a0=>bH a0 fun af=>bo (!ByteArray.toList s==ByteArray.toList af)
 (some (D.bool false))
 (bu (decide (0≤h∧h<(j:Int)))
 (bc q (Int.toNat h*5+2) fun a1=>cP a1 fun f aa c=>bu (decide (0≤h∧h<(J:Int)))
 (bc z (Int.toNat h*5+2) fun a2=>cP a2 fun a7 ab U=>bn (K 124 [D.slc f aa c,D.slc a7 ab U]) fun r=>bM r fun b=>bo (!b)
 (some (D.bool false))
 (bu (decide (0≤h∧h<(j:Int)))
 (bc q (Int.toNat h*5+3) fun a3=>cP a3 fun a8 ac V=>bu (decide (0≤h∧h<(J:Int)))
 (bc z (Int.toNat h*5+3) fun a4=>cP a4 fun a9 ad W=>bn (K 26 [D.slc a8 ac V,D.slc a9 ad W]) fun ae=>bM ae fun S=>bo (!S)
 (some (D.bool false))
 (bu (decide (0≤h∧h<(j:Int)))
 (bc q (Int.toNat h*5+4) fun a5=>bH a5 fun ag=>bu (decide (0≤h∧h<(J:Int)))
 (bc z (Int.toNat h*5+4) fun a6=>bH a6 fun ah=>bo (!ByteArray.toList ag==ByteArray.toList ah)
 (some (D.bool false))
 (ul K L C n M j q O J z (IntKind.wrap .i64 (h+1))))))))))))))))))
 (some (D.bool true))):=by kernel_rfl
theorem JR(q:FuncId→List D→Option D)(L:Nat)(C:Nat→Nat)(z:Bool)(h:Nat)(r:List D)(K:Bool)(j:Nat)(J:List D):bF (cv q L C) O0 Pv FinM.canon Tryz.f54 [D.slc z h r,D.slc K j J]=
 (bo ((h:Int) !=(j:Int))
 (some (D.bool false))
 (ul q L C L z h r K j J 0)):=by kernel_rfl
theorem Gm(h:FuncId→List D→Option D)(L:Nat)(C:Nat→Nat)(vs:ByteArray):bF (cv h L C) O0 N0 FinM.canon Tryz.f115 [D.str vs]=
 (bn (h 111 [D.str vs]) fun r=>bM r fun b=>some (D.bool !b)):=by kernel_rfl
theorem Gn(h:FuncId→List D→Option D)(L:Nat)(C:Nat→Nat)(vn:Int):bF (cv h L C) O0 N0 FinM.canon Tryz.f117 [D.int .i64 vn]=
 (bn (h 118 [D.int .i64 vn,D.int .i64 0,D.int .i64 999999999]) fun r=>bM r fun b=>some (D.bool b)):=by kernel_rfl
theorem Gp(h:FuncId→List D→Option D)(L:Nat)(C:Nat→Nat)(q:Bool)(z:Nat)(j:List D):bF (cv h L C) O0 N0 FinM.canon Tryz.f114 [D.slc q z j,D.fn (Fn.func 115) [] []]=
 (bn (h 181 [D.slc q z j,D.fn (Fn.func 115) [] []]) fun r=>bw .i64 r fun x=>some (D.bool (decide (x≥0)))):=by kernel_rfl
theorem Gq(h:FuncId→List D→Option D)(L:Nat)(C:Nat→Nat)(q:Bool)(z:Nat)(j:List D):bF (cv h L C) O0 N0 FinM.canon Tryz.f116 [D.slc q z j,D.fn (Fn.func 117) [] []]=
 (bn (h 182 [D.slc q z j,D.fn (Fn.func 117) [] []]) fun r=>bw .i64 r fun x=>some (D.bool (decide (x≥0)))):=by kernel_rfl
def JS:bA:=fun p=>match p with
 |26=>nm [0,1,7,8] [] []
 |_=>none
noncomputable def oR(h:FuncId→List D→Option D)(L:Nat)(C:Nat→Nat)(n:Nat)(z:Bool)(J:Nat)(r:List D)(j q:Int):Option D:=
 bY (cv h L C) O0 JS FinM.canon Tryz.f181 [true,false,true,false] [] n (St.mk (D.slc z J r::D.fn (Fn.func 115) [] []::jn 5 (D.int .i64 j::D.int .i64 q::jn 10 [])) (zn 19 []))
theorem qD(j:FuncId→List D→Option D)(L:Nat)(C:Nat→Nat)(n:Nat)(K:Bool)(J:Nat)(z:List D)(q h:Int):oR j L C (n+1) K J z q h=
 (bo (decide (h<q))
 (bu (decide (0≤h∧h<(J:Int)))
 (bc z (Int.toNat h*1) fun d=>bH d fun s=>bn (j 115 [D.str s]) fun r=>bM r fun b=>bo b
 (some (D.int .i64 h))
 (oR j L C n K J z q (IntKind.wrap .i64 (h+1)))))
 (some (D.int .i64 (-1)))):=by kernel_rfl
theorem Gr(j:FuncId→List D→Option D)(L:Nat)(C:Nat→Nat)(r:Bool)(h:Nat)(q:List D):bF (cv j L C) O0 JS FinM.canon Tryz.f181 [D.slc r h q,D.fn (Fn.func 115) [] []]=
 (oR j L C L r h q ((h:Int)) 0):=by kernel_rfl
def JT:bA:=fun p=>match p with
 |26=>nm [0,1,7,8] [] []
 |_=>none
noncomputable def oS(h:FuncId→List D→Option D)(L:Nat)(C:Nat→Nat)(n:Nat)(z:Bool)(J:Nat)(r:List D)(j q:Int):Option D:=
 bY (cv h L C) O0 JT FinM.canon Tryz.f182 [true,false,true,false] [] n (St.mk (D.slc z J r::D.fn (Fn.func 117) [] []::jn 5 (D.int .i64 j::D.int .i64 q::jn 10 [])) (zn 19 []))
theorem qE(j:FuncId→List D→Option D)(L:Nat)(C:Nat→Nat)(n:Nat)(K:Bool)(J:Nat)(z:List D)(q h:Int):oS j L C (n+1) K J z q h=
 (bo (decide (h<q))
 (bu (decide (0≤h∧h<(J:Int)))
 (bc z (Int.toNat h*1) fun d=>bw .i64 d fun x=>bn (j 117 [D.int .i64 x]) fun r=>bM r fun b=>bo b
 (some (D.int .i64 h))
 (oS j L C n K J z q (IntKind.wrap .i64 (h+1)))))
 (some (D.int .i64 (-1)))):=by kernel_rfl
theorem Gs(j:FuncId→List D→Option D)(L:Nat)(C:Nat→Nat)(r:Bool)(h:Nat)(q:List D):bF (cv j L C) O0 JT FinM.canon Tryz.f182 [D.slc r h q,D.fn (Fn.func 117) [] []]=
 (oS j L C L r h q ((h:Int)) 0):=by kernel_rfl
theorem Gt(h:FuncId→List D→Option D)(L:Nat)(C:Nat→Nat)(vs j:ByteArray):bF (cv h L C) O0 N0 FinM.canon Tryz.f120 [D.str vs,D.str j]=
 (bn (h 183 [D.str vs,D.str j]) fun r=>bw .i64 r fun x=>some (D.bool (decide (x≥0)))):=by kernel_rfl
def Pw:bA:=fun p=>match p with
 |7=>some {keep:=[1,3,4],kl:=[],ren:=[(1,1),(3,3)],cn:=true}
 |_=>none
def Px:hZ:=fun id=>match id with
 |1=>some {l:=some [0,1,2,3,4,5,6,7,8,9],ks:=[3]}
 |_=>none
noncomputable def iB(h:FuncId→List D→Option D)(L:Nat)(C:Nat→Nat)(j:Int)(q:ByteArray)(z:Bool)(K:Nat)(r:List D)(O:Bool)(S:Nat)(M:List D)(U:ByteArray)(a0:Bool)(V W:Int)(Y:Bool):Option D:=
 d9 (jy h L C) Px Pw FinM.canon Tryz.f43 [true,true] [] (C 7) (St.mk (J::D.loc 1 0 0::J::D.loc 3 0 0::D.bool a0::jn 62 []) (Z::(1,some (Ob.box [D.int .i64 j,D.str q,D.slc z K r,D.slc O S M,D.str U] false))::Z::(1,some (Ob.box [D.int .i64 V,D.int .i64 W,D.bool Y,J] false))::zn 63 []))
theorem DH(h:FuncId→List D→Option D)(L:Nat)(C:Nat→Nat)(Z:Int)(aK:ByteArray)(a1:Bool)(z:Nat)(a0:List D)(a3:Bool)(J:Nat)(a2:List D)(j:ByteArray)(a6:Bool)(vk a5:Int)(K:Bool)(hC:∀t,C t=1):iB h L C Z aK a1 z a0 a3 J a2 j a6 vk a5 K=
 (bn (h 114 [D.slc a1 z a0,D.fn (Fn.func 115) [] []]) fun r=>bM r fun b=>bn (h 116 [D.slc a3 J a2,D.fn (Fn.func 117) [] []]) fun ac=>bM ac fun Y=>bn (h 118 [D.int .i64 Z,D.int .i64 1,D.int .i64 1000]) fun an=>bM an fun a7=>bn (h 119 [D.bool a7,D.int .i64 3]) fun aA=>bw .i64 aA fun x=>bn (h 119 [D.bool !a6,D.int .i64 13]) fun aE=>bw .i64 aE fun q=>bo ((z:Int) !=vk)
 (bn (h 119 [D.bool true,D.int .i64 2]) fun aF=>bw .i64 aF fun U=>bn (h 119 [D.bool b,D.int .i64 8]) fun aG=>bw .i64 aG fun V=>bn (h 119 [D.bool Y,D.int .i64 3]) fun aH=>bw .i64 aH fun W=>bo (!K)
 (bo (!ByteArray.toList j==ByteArray.toList (ByteArray.mk #[]))
 (bn (h 119 [D.bool true,D.int .i64 1]) fun aI=>bw .i64 aI fun aY=>bn (h 119 [D.bool (decide (((ByteArray.size j):Int)>4096)),D.int .i64 26]) fun aJ=>bw .i64 aJ fun aZ=>bn (h 87 [D.slc true 7 [D.int .i64 x,D.int .i64 q,D.int .i64 U,D.int .i64 V,D.int .i64 W,D.int .i64 aY,D.int .i64 aZ]]) fun ad=>bw .i64 ad fun b0=>some (D.int .i64 b0))
 (bn (h 120 [D.str j,D.str (ByteArray.mk #[10,35])]) fun ae=>bM ae fun a8=>bn (h 119 [D.bool a8,D.int .i64 1]) fun af=>bw .i64 af fun b1=>bn (h 119 [D.bool (decide (((ByteArray.size j):Int)>4096)),D.int .i64 26]) fun ag=>bw .i64 ag fun b2=>bn (h 87 [D.slc true 7 [D.int .i64 x,D.int .i64 q,D.int .i64 U,D.int .i64 V,D.int .i64 W,D.int .i64 b1,D.int .i64 b2]]) fun ah=>bw .i64 ah fun aL=>some (D.int .i64 aL)))
 (bn (h 120 [D.str j,D.str (ByteArray.mk #[10,35])]) fun ai=>bM ai fun a9=>bn (h 119 [D.bool a9,D.int .i64 1]) fun aj=>bw .i64 aj fun aM=>bn (h 119 [D.bool (decide (((ByteArray.size j):Int)>4096)),D.int .i64 26]) fun ak=>bw .i64 ak fun aN=>bn (h 87 [D.slc true 7 [D.int .i64 x,D.int .i64 q,D.int .i64 U,D.int .i64 V,D.int .i64 W,D.int .i64 aM,D.int .i64 aN]]) fun al=>bw .i64 al fun aO=>some (D.int .i64 aO)))
 (bn (h 119 [D.bool ((J:Int) !=a5),D.int .i64 2]) fun am=>bw .i64 am fun M=>bn (h 119 [D.bool b,D.int .i64 8]) fun ao=>bw .i64 ao fun O=>bn (h 119 [D.bool Y,D.int .i64 3]) fun ap=>bw .i64 ap fun S=>bo (!K)
 (bo (!ByteArray.toList j==ByteArray.toList (ByteArray.mk #[]))
 (bn (h 119 [D.bool true,D.int .i64 1]) fun aq=>bw .i64 aq fun aP=>bn (h 119 [D.bool (decide (((ByteArray.size j):Int)>4096)),D.int .i64 26]) fun ar=>bw .i64 ar fun aQ=>bn (h 87 [D.slc true 7 [D.int .i64 x,D.int .i64 q,D.int .i64 M,D.int .i64 O,D.int .i64 S,D.int .i64 aP,D.int .i64 aQ]]) fun au=>bw .i64 au fun aR=>some (D.int .i64 aR))
 (bn (h 120 [D.str j,D.str (ByteArray.mk #[10,35])]) fun av=>bM av fun aa=>bn (h 119 [D.bool aa,D.int .i64 1]) fun aw=>bw .i64 aw fun aS=>bn (h 119 [D.bool (decide (((ByteArray.size j):Int)>4096)),D.int .i64 26]) fun ax=>bw .i64 ax fun aT=>bn (h 87 [D.slc true 7 [D.int .i64 x,D.int .i64 q,D.int .i64 M,D.int .i64 O,D.int .i64 S,D.int .i64 aS,D.int .i64 aT]]) fun ay=>bw .i64 ay fun aU=>some (D.int .i64 aU)))
 (bn (h 120 [D.str j,D.str (ByteArray.mk #[10,35])]) fun az=>bM az fun ab=>bn (h 119 [D.bool ab,D.int .i64 1]) fun aB=>bw .i64 aB fun aV=>bn (h 119 [D.bool (decide (((ByteArray.size j):Int)>4096)),D.int .i64 26]) fun aC=>bw .i64 aC fun aW=>bn (h 87 [D.slc true 7 [D.int .i64 x,D.int .i64 q,D.int .i64 M,D.int .i64 O,D.int .i64 S,D.int .i64 aV,D.int .i64 aW]]) fun aD=>bw .i64 aD fun aX=>some (D.int .i64 aX)))):=by
 unfold iB;rw[hC]
 kernel_rfl
theorem JU(j:FuncId→List D→Option D)(L:Nat)(C:Nat→Nat)(q:Int)(h:ByteArray)(z:Bool)(J:Nat)(r:List D)(M:Bool)(O:Nat)(K:List D)(S:ByteArray):bF (jy j L C) Px Pw FinM.canon Tryz.f43 [D.agg [D.int .i64 q,D.str h,D.slc z J r,D.slc M O K,D.str S]]=
 (bo (ByteArray.toList h==ByteArray.toList (ByteArray.mk #[99,108,117,98]))
 (iB j L C q h z J r M O K S true 1 0 false)
 (bo (ByteArray.toList h==ByteArray.toList (ByteArray.mk #[109,101,109,98,101,114]))
 (iB j L C q h z J r M O K S true 2 0 true)
 (bo (ByteArray.toList h==ByteArray.toList (ByteArray.mk #[104,111,108,101,115]))
 (iB j L C q h z J r M O K S true 0 0 true)
 (bo (ByteArray.toList h==ByteArray.toList (ByteArray.mk #[109,97,114,107]))
 (iB j L C q h z J r M O K S true 2 1 true)
 (bo (ByteArray.toList h==ByteArray.toList (ByteArray.mk #[99,108,97,105,109]))
 (iB j L C q h z J r M O K S true 1 1 true)
 (bo (ByteArray.toList h==ByteArray.toList (ByteArray.mk #[115,105,103,110]))
 (iB j L C q h z J r M O K S true 1 0 false)
 (bo (ByteArray.toList h==ByteArray.toList (ByteArray.mk #[114,117,108,105,110,103]))
 (iB j L C q h z J r M O K S true 1 1 true)
 (bo (ByteArray.toList h==ByteArray.toList (ByteArray.mk #[114,111,117,110,100]))
 (iB j L C q h z J r M O K S true 1 0 false)
 (bo (ByteArray.toList h==ByteArray.toList (ByteArray.mk #[117,110,100,111]))
 (iB j L C q h z J r M O K S true 0 0 false)
 (iB j L C q h z J r M O K S false 0 0 false)))))))))):=by kernel_rfl
def DI:bA:=fun p=>match p with
 |506=>nm [2,5,6,7,8,9,11,12] [] [2,11,60,74]
 |_=>none
noncomputable def cB(q:FuncId→List D→Option D)(L:Nat)(C:Nat→Nat)(n:Nat)(vrest:ByteArray)(K:Bool)(M S:Int)(O:Bool)(z:Int)(r:ByteArray)(h:Ow)(j:Ow):Option D:=
 bY (cv q L C) O0 DI FinM.canon Tryz.f132 (bt 8 95) [] n (St.mk (J::J::D.loc 2 0 0::J::J::D.str vrest::D.bool K::D.int .i64 M::D.int .i64 S::D.bool O::J::D.loc 11 0 0::D.int .i64 z::jn 70 []) (Z::Z::(1,some (Ob.box [D.int .i64 0,D.str (ByteArray.mk #[]),D.nils,D.nils,D.str (ByteArray.mk #[])] false))::zn 8 ((1,some (Ob.box [D.int .i64 0,D.str r,rg 60 h,rg 74 j,D.str (ByteArray.mk #[])] false))::zn 48 (rh 9 1 h::zn 13 (rh 3 1 j::zn 8 [])))))
theorem rx(j:FuncId→List D→Option D)(L:Nat)(C:Nat→Nat)(n:Nat)(vrest:ByteArray)(J:Bool)(z K:Int)(h:Bool)(r:Int)(q:ByteArray):cB j L C (n+1) vrest J z K h r q (Ow.nil) (Ow.nil)=
 (bo (decide (r<IntKind.wrap .i64 (z+K)))
 (bo (!J)
 (some (D.tup [D.agg [D.int .i64 0,D.str (ByteArray.mk #[]),D.slc true 0 [],D.slc true 0 [],D.str (ByteArray.mk #[])],D.bool false]))
 (bn (j 188 [D.str vrest]) fun a3=>cJ a3 3 fun M=>bc M 0 fun a0=>bH a0 fun O=>bc M 1 fun a1=>bH a1 fun V=>bc M 2 fun a2=>bM a2 fun S=>bo (ByteArray.toList O==ByteArray.toList (ByteArray.mk #[]))
 (some (D.tup [D.agg [D.int .i64 0,D.str (ByteArray.mk #[]),D.slc true 0 [],D.slc true 0 [],D.str (ByteArray.mk #[])],D.bool false]))
 (bo (decide (r<z))
 (cB j L C n V S z K h (IntKind.wrap .i64 (r+1)) q (Ow.own 1 [D.str O]) (Ow.nil))
 (bn (j 189 [D.str O]) fun a4=>cJ a4 2 fun U=>bc U 0 fun Y=>bw .i64 Y fun a5=>bc U 1 fun Z=>bM Z fun W=>bo (!W)
 (some (D.tup [D.agg [D.int .i64 0,D.str (ByteArray.mk #[]),D.slc true 0 [],D.slc true 0 [],D.str (ByteArray.mk #[])],D.bool false]))
 (cB j L C n V S z K h (IntKind.wrap .i64 (r+1)) q (Ow.nil) (Ow.own 1 [D.int .i64 a5]))))))
 (bo h
 (some (D.tup [D.agg [D.int .i64 0,D.str q,D.slc true 0 [],D.slc true 0 [],D.str vrest],D.bool (J==h)]))
 (some (D.tup [D.agg [D.int .i64 0,D.str q,D.slc true 0 [],D.slc true 0 [],D.str (ByteArray.mk #[])],D.bool (J==h)])))):=by kernel_rfl
theorem ry(q:FuncId→List D→Option D)(L:Nat)(C:Nat→Nat)(n:Nat)(vrest:ByteArray)(M:Bool)(K O:Int)(j:Bool)(J:Int)(r:ByteArray)(h:Nat)(z:List D):cB q L C (n+1) vrest M K O j J r (Ow.nil) (Ow.own h z)=
 (bo (decide (J<IntKind.wrap .i64 (K+O)))
 (bo (!M)
 (some (D.tup [D.agg [D.int .i64 0,D.str (ByteArray.mk #[]),D.slc true 0 [],D.slc true 0 [],D.str (ByteArray.mk #[])],D.bool false]))
 (bn (q 188 [D.str vrest]) fun a5=>cJ a5 3 fun S=>bc S 0 fun a0=>bH a0 fun U=>bc S 1 fun a1=>bH a1 fun Y=>bc S 2 fun a2=>bM a2 fun V=>bo (ByteArray.toList U==ByteArray.toList (ByteArray.mk #[]))
 (some (D.tup [D.agg [D.int .i64 0,D.str (ByteArray.mk #[]),D.slc true 0 [],D.slc true 0 [],D.str (ByteArray.mk #[])],D.bool false]))
 (bo (decide (J<K))
 (cB q L C n Y V K O j (IntKind.wrap .i64 (J+1)) r (Ow.own 1 [D.str U]) (Ow.own h z))
 (bn (q 189 [D.str U]) fun a6=>cJ a6 2 fun W=>bc W 0 fun a3=>bw .i64 a3 fun a7=>bc W 1 fun a4=>bM a4 fun Z=>bo (!Z)
 (some (D.tup [D.agg [D.int .i64 0,D.str (ByteArray.mk #[]),D.slc true 0 [],D.slc true 0 [],D.str (ByteArray.mk #[])],D.bool false]))
 (bu (decide ((h+1)*8≤cg∧h+1≤9223372036854775807))
 (cB q L C n Y V K O j (IntKind.wrap .i64 (J+1)) r (Ow.nil) (Ow.own (h+1) (z++[D.int .i64 a7]))))))))
 (bo j
 (some (D.tup [D.agg [D.int .i64 0,D.str r,D.slc true 0 [],D.slc false h z,D.str vrest],D.bool (M==j)]))
 (some (D.tup [D.agg [D.int .i64 0,D.str r,D.slc true 0 [],D.slc false h z,D.str (ByteArray.mk #[])],D.bool (M==j)])))):=by kernel_rfl
theorem rz(q:FuncId→List D→Option D)(L:Nat)(C:Nat→Nat)(n:Nat)(vrest:ByteArray)(M:Bool)(K O:Int)(j:Bool)(J:Int)(r:ByteArray)(h:Nat)(z:List D):cB q L C (n+1) vrest M K O j J r (Ow.own h z) (Ow.nil)=
 (bo (decide (J<IntKind.wrap .i64 (K+O)))
 (bo (!M)
 (some (D.tup [D.agg [D.int .i64 0,D.str (ByteArray.mk #[]),D.slc true 0 [],D.slc true 0 [],D.str (ByteArray.mk #[])],D.bool false]))
 (bn (q 188 [D.str vrest]) fun a5=>cJ a5 3 fun S=>bc S 0 fun a0=>bH a0 fun U=>bc S 1 fun a1=>bH a1 fun Y=>bc S 2 fun a2=>bM a2 fun V=>bo (ByteArray.toList U==ByteArray.toList (ByteArray.mk #[]))
 (some (D.tup [D.agg [D.int .i64 0,D.str (ByteArray.mk #[]),D.slc true 0 [],D.slc true 0 [],D.str (ByteArray.mk #[])],D.bool false]))
 (bo (decide (J<K))
 (bu (decide ((h+1)*16≤cg∧h+1≤9223372036854775807))
 (cB q L C n Y V K O j (IntKind.wrap .i64 (J+1)) r (Ow.own (h+1) (z++[D.str U])) (Ow.nil)))
 (bn (q 189 [D.str U]) fun a6=>cJ a6 2 fun W=>bc W 0 fun a3=>bw .i64 a3 fun a7=>bc W 1 fun a4=>bM a4 fun Z=>bo (!Z)
 (some (D.tup [D.agg [D.int .i64 0,D.str (ByteArray.mk #[]),D.slc true 0 [],D.slc true 0 [],D.str (ByteArray.mk #[])],D.bool false]))
 (cB q L C n Y V K O j (IntKind.wrap .i64 (J+1)) r (Ow.own h z) (Ow.own 1 [D.int .i64 a7]))))))
 (bo j
 (some (D.tup [D.agg [D.int .i64 0,D.str r,D.slc false h z,D.slc true 0 [],D.str vrest],D.bool (M==j)]))
 (some (D.tup [D.agg [D.int .i64 0,D.str r,D.slc false h z,D.slc true 0 [],D.str (ByteArray.mk #[])],D.bool (M==j)])))):=by kernel_rfl
theorem rA(r:FuncId→List D→Option D)(L:Nat)(C:Nat→Nat)(n:Nat)(vrest:ByteArray)(S:Bool)(O U:Int)(q:Bool)(M:Int)(z:ByteArray)(h:Nat)(J:List D)(j:Nat)(K:List D):cB r L C (n+1) vrest S O U q M z (Ow.own h J) (Ow.own j K)=
 (bo (decide (M<IntKind.wrap .i64 (O+U)))
 (bo (!S)
 (some (D.tup [D.agg [D.int .i64 0,D.str (ByteArray.mk #[]),D.slc true 0 [],D.slc true 0 [],D.str (ByteArray.mk #[])],D.bool false]))
 (bn (r 188 [D.str vrest]) fun a7=>cJ a7 3 fun V=>bc V 0 fun a2=>bH a2 fun W=>bc V 1 fun a3=>bH a3 fun a0=>bc V 2 fun a4=>bM a4 fun Y=>bo (ByteArray.toList W==ByteArray.toList (ByteArray.mk #[]))
 (some (D.tup [D.agg [D.int .i64 0,D.str (ByteArray.mk #[]),D.slc true 0 [],D.slc true 0 [],D.str (ByteArray.mk #[])],D.bool false]))
 (bo (decide (M<O))
 (bu (decide ((h+1)*16≤cg∧h+1≤9223372036854775807))
 (cB r L C n a0 Y O U q (IntKind.wrap .i64 (M+1)) z (Ow.own (h+1) (J++[D.str W])) (Ow.own j K)))
 (bn (r 189 [D.str W]) fun a8=>cJ a8 2 fun Z=>bc Z 0 fun a5=>bw .i64 a5 fun a9=>bc Z 1 fun a6=>bM a6 fun a1=>bo (!a1)
 (some (D.tup [D.agg [D.int .i64 0,D.str (ByteArray.mk #[]),D.slc true 0 [],D.slc true 0 [],D.str (ByteArray.mk #[])],D.bool false]))
 (bu (decide ((j+1)*8≤cg∧j+1≤9223372036854775807))
 (cB r L C n a0 Y O U q (IntKind.wrap .i64 (M+1)) z (Ow.own h J) (Ow.own (j+1) (K++[D.int .i64 a9]))))))))
 (bo q
 (some (D.tup [D.agg [D.int .i64 0,D.str z,D.slc false h J,D.slc false j K,D.str vrest],D.bool (S==q)]))
 (some (D.tup [D.agg [D.int .i64 0,D.str z,D.slc false h J,D.slc false j K,D.str (ByteArray.mk #[])],D.bool (S==q)])))):=by kernel_rfl
theorem Gu(j:FuncId→List D→Option D)(L:Nat)(C:Nat→Nat)(q:ByteArray):bF (cv j L C) O0 DI FinM.canon Tryz.f132 [D.str q]=
 (bn (j 188 [D.str q]) fun r=>cJ r 3 fun c=>bc c 0 fun d=>bH d fun s=>bc c 1 fun K=>bH K fun Y=>bc c 2 fun M=>bM M fun b=>bn (j 121 [D.str s]) fun W=>cJ W 4 fun h=>bc h 0 fun O=>bw .i64 O fun x=>bc h 1 fun S=>bw .i64 S fun Z=>bc h 2 fun U=>bM U fun z=>bc h 3 fun V=>bM V fun J=>bo (!J)
 (some (D.tup [D.agg [D.int .i64 0,D.str (ByteArray.mk #[]),D.slc true 0 [],D.slc true 0 [],D.str (ByteArray.mk #[])],D.bool false]))
 (cB j L C L Y b x Z z 0 s (Ow.nil) (Ow.nil))):=by kernel_rfl
def um:bA:=fun p=>match p with
 |15=>some {keep:=[1,4,6,7,8,9,10],kl:=[11],ren:=[(4,4),(9,9),(11,11),(91,91),(114,114)],cn:=true}
 |127=>nm [4,7,8,9,11,12] [] [4,9,11,91,114]
 |1023=>nm [4,9,11,12,13] [] [4,9,11,91,114]
 |2047=>nm [4,9,11,13] [] [4,9,11,91,114]
 |32762=>nm [4,11,96,97,98] [9] [4,9,11,91,114]
 |_=>none
noncomputable def cI(q:FuncId→List D→Option D)(L:Nat)(C:Nat→Nat)(r:Nat)(W:Int)(V U:ByteArray)(K:Bool)(M:Nat)(z:List D)(O S:Int)(h:Ow)(j:Ow):Option D:=
 bY (jy q L C) O0 um FinM.canon Tryz.f136 (bt 14 6143) [] r (St.mk (J::J::J::J::D.loc 4 0 0::jn 6 (D.loc 11 0 0::jn 84 (D.slc K M z::D.int .i64 O::D.int .i64 S::jn 19 []))) (Z::Z::Z::Z::(1,some (Ob.box [D.int .i64 0,D.str (ByteArray.mk #[]),D.slc true 0 [],D.slc true 0 [],D.str (ByteArray.mk #[])] false))::zn 6 ((1,some (Ob.box [D.int .i64 W,D.str V,rg 91 h,rg 114 j,D.str U] false))::zn 79 (rh 9 1 h::zn 22 [rh 3 1 j,Z,Z,Z]))))
noncomputable def kG(h:FuncId→List D→Option D)(L:Nat)(C:Nat→Nat)(M:Bool)(O:Nat)(K:List D)(q r:Int)(z:Bool)(U:Int)(S j:ByteArray):Option D:=
 d9 (jy h L C) O0 um FinM.canon Tryz.f136 (bt 10 1023) [] (C 2047) (St.mk (J::J::J::J::D.loc 4 0 0::J::J::J::J::D.loc 9 0 0::J::D.loc 11 0 0::J::D.slc M O K::jn 104 []) (Z::Z::Z::Z::(1,some (Ob.box [D.int .i64 0,D.str (ByteArray.mk #[]),D.slc true 0 [],D.slc true 0 [],D.str (ByteArray.mk #[])] false))::Z::Z::Z::Z::(1,some (Ob.box [D.int .i64 q,D.int .i64 r,D.bool z,J] false))::Z::(1,some (Ob.box [D.int .i64 U,D.str S,D.nils,D.nils,D.str j] false))::zn 106 []))
noncomputable def gf(h:FuncId→List D→Option D)(L:Nat)(C:Nat→Nat)(V q r:Int)(z:Bool)(U:Int)(S:ByteArray)(M:Bool)(O:Nat)(K:List D)(j:ByteArray):Option D:=
 d9 (jy h L C) O0 um FinM.canon Tryz.f136 (bt 9 511) [] (C 1023) (St.mk (J::J::J::J::D.loc 4 0 0::J::J::J::J::D.loc 9 0 0::J::D.loc 11 0 0::D.int .i64 V::D.slc M O K::jn 104 []) (Z::Z::Z::Z::(1,some (Ob.box [D.int .i64 0,D.str (ByteArray.mk #[]),D.slc true 0 [],D.slc true 0 [],D.str (ByteArray.mk #[])] false))::Z::Z::Z::Z::(1,some (Ob.box [D.int .i64 q,D.int .i64 r,D.bool z,J] false))::Z::(1,some (Ob.box [D.int .i64 U,D.str S,D.nils,D.nils,D.str j] false))::zn 106 []))
noncomputable def j7(h:FuncId→List D→Option D)(L:Nat)(C:Nat→Nat)(vrest:ByteArray)(z:Bool)(j q:Int)(r:Bool)(M:Int)(K:ByteArray)(O:Int):Option D:=
 d9 (jy h L C) O0 um FinM.canon Tryz.f136 (bt 6 63) [] (C 127) (St.mk (J::J::J::J::D.loc 4 0 0::J::J::D.str vrest::D.bool z::D.loc 9 0 0::J::D.loc 11 0 0::D.int .i64 O::jn 105 []) (Z::Z::Z::Z::(1,some (Ob.box [D.int .i64 0,D.str (ByteArray.mk #[]),D.slc true 0 [],D.slc true 0 [],D.str (ByteArray.mk #[])] false))::Z::Z::Z::Z::(1,some (Ob.box [D.int .i64 j,D.int .i64 q,D.bool r,J] false))::Z::(1,some (Ob.box [D.int .i64 M,D.str K,D.nils,D.nils,D.str (ByteArray.mk #[])] false))::zn 106 []))
noncomputable def dP(h:FuncId→List D→Option D)(L:Nat)(C:Nat→Nat)(O:Int)(M vrest:ByteArray)(K z:Bool)(j q:Int)(r:Bool):Option D:=
 d9 (jy h L C) O0 um FinM.canon Tryz.f136 [true,true,true] [] (C 15) (St.mk (J::D.int .i64 O::J::J::D.loc 4 0 0::J::D.str M::D.str vrest::D.bool K::D.loc 9 0 0::D.bool z::jn 107 []) (Z::Z::Z::Z::(1,some (Ob.box [D.int .i64 0,D.str (ByteArray.mk #[]),D.slc true 0 [],D.slc true 0 [],D.str (ByteArray.mk #[])] false))::Z::Z::Z::Z::(1,some (Ob.box [D.int .i64 j,D.int .i64 q,D.bool r,J] false))::zn 108 []))
theorem n9(z:FuncId→List D→Option D)(L:Nat)(C:Nat→Nat)(S:Nat)(r:Int)(q j:ByteArray)(U:Bool)(K:Nat)(J:List D)(M h:Int):cI z L C (S+1) r q j U K J M h (Ow.nil) (Ow.nil)=
 (bo (decide (h<M))
 (bu (decide (0≤h∧h<(K:Int)))
 (bc J (Int.toNat h*1) fun W=>bH W fun a1=>bn (z 205 [D.str a1]) fun a0=>cJ a0 2 fun O=>bc O 0 fun Y=>bw .i64 Y fun x=>bc O 1 fun Z=>bM Z fun V=>bo (!V)
 (some (D.tup [D.agg [D.int .i64 r,D.str q,D.slc true 0 [],D.slc true 0 [],D.str j],D.bool false]))
 (cI z L C S r q j U K J M (IntKind.wrap .i64 (h+1)) (Ow.nil) (Ow.own 1 [D.int .i64 x]))))
 (some (D.tup [D.agg [D.int .i64 r,D.str q,D.slc true 0 [],D.slc true 0 [],D.str j],D.bool true]))):=by kernel_rfl
theorem oa(K:FuncId→List D→Option D)(L:Nat)(C:Nat→Nat)(V:Nat)(J:Int)(z r:ByteArray)(W:Bool)(O:Nat)(M:List D)(S h:Int)(j:Nat)(q:List D):cI K L C (V+1) J z r W O M S h (Ow.nil) (Ow.own j q)=
 (bo (decide (h<S))
 (bu (decide (0≤h∧h<(O:Int)))
 (bc M (Int.toNat h*1) fun Z=>bH Z fun a3=>bn (K 205 [D.str a3]) fun a2=>cJ a2 2 fun U=>bc U 0 fun a0=>bw .i64 a0 fun a4=>bc U 1 fun a1=>bM a1 fun Y=>bo (!Y)
 (some (D.tup [D.agg [D.int .i64 J,D.str z,D.slc true 0 [],D.slc false j q,D.str r],D.bool false]))
 (bu (decide ((j+1)*8≤cg∧j+1≤9223372036854775807))
 (cI K L C V J z r W O M S (IntKind.wrap .i64 (h+1)) (Ow.nil) (Ow.own (j+1) (q++[D.int .i64 a4]))))))
 (some (D.tup [D.agg [D.int .i64 J,D.str z,D.slc true 0 [],D.slc false j q,D.str r],D.bool true]))):=by kernel_rfl
theorem oe(K:FuncId→List D→Option D)(L:Nat)(C:Nat→Nat)(V:Nat)(J:Int)(z r:ByteArray)(W:Bool)(O:Nat)(M:List D)(S h:Int)(q:Nat)(j:List D):cI K L C (V+1) J z r W O M S h (Ow.own q j) (Ow.nil)=
 (bo (decide (h<S))
 (bu (decide (0≤h∧h<(O:Int)))
 (bc M (Int.toNat h*1) fun Z=>bH Z fun a3=>bn (K 205 [D.str a3]) fun a2=>cJ a2 2 fun U=>bc U 0 fun a0=>bw .i64 a0 fun a4=>bc U 1 fun a1=>bM a1 fun Y=>bo (!Y)
 (some (D.tup [D.agg [D.int .i64 J,D.str z,D.slc false q j,D.slc true 0 [],D.str r],D.bool false]))
 (cI K L C V J z r W O M S (IntKind.wrap .i64 (h+1)) (Ow.own q j) (Ow.own 1 [D.int .i64 a4]))))
 (some (D.tup [D.agg [D.int .i64 J,D.str z,D.slc false q j,D.slc true 0 [],D.str r],D.bool true]))):=by kernel_rfl
theorem og(O:FuncId→List D→Option D)(L:Nat)(C:Nat→Nat)(Y:Nat)(M:Int)(K J:ByteArray)(Z:Bool)(U:Nat)(S:List D)(V h:Int)(r:Nat)(q:List D)(j:Nat)(z:List D):cI O L C (Y+1) M K J Z U S V h (Ow.own r q) (Ow.own j z)=
 (bo (decide (h<V))
 (bu (decide (0≤h∧h<(U:Int)))
 (bc S (Int.toNat h*1) fun a1=>bH a1 fun a5=>bn (O 205 [D.str a5]) fun a4=>cJ a4 2 fun W=>bc W 0 fun a2=>bw .i64 a2 fun a6=>bc W 1 fun a3=>bM a3 fun a0=>bo (!a0)
 (some (D.tup [D.agg [D.int .i64 M,D.str K,D.slc false r q,D.slc false j z,D.str J],D.bool false]))
 (bu (decide ((j+1)*8≤cg∧j+1≤9223372036854775807))
 (cI O L C Y M K J Z U S V (IntKind.wrap .i64 (h+1)) (Ow.own r q) (Ow.own (j+1) (z++[D.int .i64 a6]))))))
 (some (D.tup [D.agg [D.int .i64 M,D.str K,D.slc false r q,D.slc false j z,D.str J],D.bool true]))):=by kernel_rfl
theorem un(r:FuncId→List D→Option D)(L:Nat)(C:Nat→Nat)(J:Bool)(j:Nat)(q:List D)(h O:Int)(S:Bool)(M:Int)(K z:ByteArray)(hC:∀t,C t=1):kG r L C J j q h O S M K z=
 (bu (decide (0≤(0:Int)∧(0:Int)≤h∧h≤(j:Int)))
 (bu (decide (List.length (List.take (Int.toNat (h-(0:Int))*1) q)=Int.toNat (h-(0:Int))*1))
 (bu (List.all (List.take (Int.toNat (h-(0:Int))*1) q) D.one)
 (bo (decide (Int.toNat (h-(0:Int))=0))
 (bu (decide (0≤h∧h≤(j:Int)∧(j:Int)≤(j:Int)))
 (cI r L C L M K z (J&&decide ((j:Int)=(j:Int))) (Int.toNat ((j:Int)-h)) (List.take (Int.toNat ((j:Int)-h)*1) (List.drop (Int.toNat h*1) q)) (((Int.toNat ((j:Int)-h)):Int)) 0 (Ow.nil) (Ow.nil)))
 (bu (decide (Int.toNat (h-(0:Int))*16≤cg∧Int.toNat (h-(0:Int))≤9223372036854775807))
 (bu (decide (0≤h∧h≤(j:Int)∧(j:Int)≤(j:Int)))
 (cI r L C L M K z (J&&decide ((j:Int)=(j:Int))) (Int.toNat ((j:Int)-h)) (List.take (Int.toNat ((j:Int)-h)*1) (List.drop (Int.toNat h*1) q)) (((Int.toNat ((j:Int)-h)):Int)) 0 (Ow.own (Int.toNat (h-(0:Int))) (List.take (Int.toNat (h-(0:Int))*1) q)) (Ow.nil)))))))):=by
 unfold kG;rw[hC]
 kernel_rfl
theorem uo(z:FuncId→List D→Option D)(L:Nat)(C:Nat→Nat)(U M O:Int)(S:Bool)(r:Int)(q:ByteArray)(K:Bool)(j:Nat)(J:List D)(h:ByteArray)(hC:∀t,C t=1):gf z L C U M O S r q K j J h=
 (bo ((j:Int) !=U)
 (some (D.tup [D.agg [D.int .i64 r,D.str q,D.slc true 0 [],D.slc true 0 [],D.str h],D.bool false]))
 (bn (z 155 [D.slc K j J,D.str (ByteArray.mk #[])]) fun W=>bM W fun V=>bo V
 (some (D.tup [D.agg [D.int .i64 r,D.str q,D.slc true 0 [],D.slc true 0 [],D.str h],D.bool false]))
 (kG z L C K j J M O S r q h))):=by
 unfold gf;rw[hC]
 kernel_rfl
theorem wO(j:FuncId→List D→Option D)(L:Nat)(C:Nat→Nat)(vrest:ByteArray)(S:Bool)(K M:Int)(J:Bool)(r:Int)(q:ByteArray)(h:Int)(hC:∀t,C t=1):j7 j L C vrest S K M J r q h=
 (bo (!S)
 (some (D.tup [D.agg [D.int .i64 r,D.str q,D.slc true 0 [],D.slc true 0 [],D.str (ByteArray.mk #[])],D.bool true]))
 (bn (j 130 [D.str vrest,D.str (ByteArray.mk #[32])]) fun Z=>cP Z fun f Y U=>bo J
 (bn (j 204 [D.str vrest,D.str (ByteArray.mk #[32]),D.int .i64 (IntKind.wrap .i64 (h+1))]) fun a0=>cP a0 fun W z O=>bo ((z:Int) !=IntKind.wrap .i64 (h+1))
 (some (D.tup [D.agg [D.int .i64 r,D.str q,D.slc true 0 [],D.slc true 0 [],D.str (ByteArray.mk #[])],D.bool false]))
 (bu (decide (0≤h∧h<(z:Int)))
 (bc O (Int.toNat h*1) fun V=>bH V fun a1=>bu (decide (0≤(0:Int)∧(0:Int)≤h∧h≤(z:Int)))
 (gf j L C h K M J r q (W&&decide (h=(z:Int))) (Int.toNat (h-(0:Int))) (List.take (Int.toNat (h-(0:Int))*1) O) a1))))
 (gf j L C h K M J r q f Y U (ByteArray.mk #[])))):=by
 unfold j7;rw[hC]
 kernel_rfl
theorem yB(K:FuncId→List D→Option D)(L:Nat)(C:Nat→Nat)(r:Int)(q vrest:ByteArray)(z M:Bool)(h j:Int)(J:Bool)(hC:∀t,C t=1):dP K L C r q vrest z M h j J=
 (bo (!M)
 (some (D.tup [D.agg [D.int .i64 r,D.str q,D.slc true 0 [],D.slc true 0 [],D.str (ByteArray.mk #[])],D.bool false]))
 (bo (decide (IntKind.wrap .i64 (h+j)>0))
 (bo (!z==true)
 (some (D.tup [D.agg [D.int .i64 r,D.str q,D.slc true 0 [],D.slc true 0 [],D.str (ByteArray.mk #[])],D.bool false]))
 (j7 K L C vrest z h j J r q (IntKind.wrap .i64 (h+j))))
 (bo (!z==J)
 (some (D.tup [D.agg [D.int .i64 r,D.str q,D.slc true 0 [],D.slc true 0 [],D.str (ByteArray.mk #[])],D.bool false]))
 (j7 K L C vrest z h j J r q (IntKind.wrap .i64 (h+j)))))):=by
 unfold dP;rw[hC]
 kernel_rfl
theorem Gv(h:FuncId→List D→Option D)(L:Nat)(C:Nat→Nat)(vs:ByteArray)(j:Int):bF (jy h L C) O0 um FinM.canon Tryz.f136 [D.str vs,D.int .i64 j]=
 (bn (h 133 [D.str vs,D.str (ByteArray.mk #[32])]) fun r=>cJ r 3 fun c=>bc c 0 fun d=>bH d fun s=>bc c 1 fun z=>bH z fun q=>bc c 2 fun J=>bM J fun b=>bo (ByteArray.toList s==ByteArray.toList (ByteArray.mk #[99,108,117,98]))
 (dP h L C j s q b true 1 0 false)
 (bo (ByteArray.toList s==ByteArray.toList (ByteArray.mk #[109,101,109,98,101,114]))
 (dP h L C j s q b true 2 0 true)
 (bo (ByteArray.toList s==ByteArray.toList (ByteArray.mk #[104,111,108,101,115]))
 (dP h L C j s q b true 0 0 true)
 (bo (ByteArray.toList s==ByteArray.toList (ByteArray.mk #[109,97,114,107]))
 (dP h L C j s q b true 2 1 true)
 (bo (ByteArray.toList s==ByteArray.toList (ByteArray.mk #[99,108,97,105,109]))
 (dP h L C j s q b true 1 1 true)
 (bo (ByteArray.toList s==ByteArray.toList (ByteArray.mk #[115,105,103,110]))
 (dP h L C j s q b true 1 0 false)
 (bo (ByteArray.toList s==ByteArray.toList (ByteArray.mk #[114,117,108,105,110,103]))
 (dP h L C j s q b true 1 1 true)
 (bo (ByteArray.toList s==ByteArray.toList (ByteArray.mk #[114,111,117,110,100]))
 (dP h L C j s q b true 1 0 false)
 (bo (ByteArray.toList s==ByteArray.toList (ByteArray.mk #[117,110,100,111]))
 (dP h L C j s q b true 0 0 false)
 (dP h L C j s q b false 0 0 false)))))))))):=by kernel_rfl
def Be:bA:=fun p=>match p with
 |63=>nm [1,4,8,9] [11] [4,11]
 |_=>none
noncomputable def up(h:FuncId→List D→Option D)(L:Nat)(C:Nat→Nat)(q:Int)(j r:ByteArray):Option D:=
 d9 (cv h L C) O0 Be FinM.canon Tryz.f269 (bt 5 31) [] (C 63) (St.mk (J::D.int .i64 q::J::J::D.loc 4 0 0::J::J::J::D.str j::D.str r::jn 42 []) (Z::Z::Z::Z::(1,some (Ob.box [D.int .i64 0,D.str (ByteArray.mk #[]),D.nils,D.nils,D.str (ByteArray.mk #[])] false))::zn 47 []))
theorem yC(j:FuncId→List D→Option D)(L:Nat)(C:Nat→Nat)(r:Int)(q z:ByteArray)(hC:∀t,C t=1):up j L C r q z=
 (bn (j 211 [D.int .i64 r,D.str q]) fun a2=>bw .i64 a2 fun J=>bn (j 212 [D.int .i64 J]) fun a3=>bH a3 fun a6=>bo (!ByteArray.toList a6==ByteArray.toList z)
 (some (D.tup [D.agg [D.int .i64 0,D.str (ByteArray.mk #[]),D.slc true 0 [],D.slc true 0 [],D.str (ByteArray.mk #[])],D.int .i64 0,D.int .i64 27]))
 (bn (j 325 [D.str q]) fun a4=>cJ a4 2 fun c=>bc c 0 fun d=>fK d 5 fun h=>bc h 0 fun O=>bw .i64 O fun a9=>bc h 1 fun S=>bH S fun a7=>bc h 2 fun U=>cP U fun f a0 K=>bc h 3 fun V=>cP V fun Z a1 M=>bc h 4 fun W=>bH W fun a8=>bc c 1 fun Y=>bM Y fun b=>bn (j 119 [D.bool !b,D.int .i64 25]) fun a5=>bw .i64 a5 fun aa=>some (D.tup [D.agg [D.int .i64 a9,D.str a7,D.slc f a0 K,D.slc Z a1 M,D.str a8],D.int .i64 J,D.int .i64 aa]))):=by
 unfold up;rw[hC]
 kernel_rfl
theorem zS(j:FuncId→List D→Option D)(L:Nat)(C:Nat→Nat)(h:ByteArray)(q:Int):bF (cv j L C) O0 Be FinM.canon Tryz.f269 [D.str h,D.int .i64 q]=
 (bn (j 324 [D.str h,D.str (ByteArray.mk #[35])]) fun r=>bw .i64 r fun x=>bo (decide (x<0))
 (some (D.tup [D.agg [D.int .i64 0,D.str (ByteArray.mk #[]),D.slc true 0 [],D.slc true 0 [],D.str (ByteArray.mk #[])],D.int .i64 0,D.int .i64 25]))
 (bu (decide (0≤(0:Int)∧(0:Int)≤x∧x≤((ByteArray.size h):Int)))
 (bu (decide (0≤IntKind.wrap .i64 (x+1)∧IntKind.wrap .i64 (x+1)≤((ByteArray.size h):Int)∧((ByteArray.size h):Int)≤((ByteArray.size h):Int)))
 (bo (((ByteArray.size (ByteArray.extract h (Int.toNat (IntKind.wrap .i64 (x+1))) (Int.toNat ((ByteArray.size h):Int)))):Int) !=6)
 (some (D.tup [D.agg [D.int .i64 0,D.str (ByteArray.mk #[]),D.slc true 0 [],D.slc true 0 [],D.str (ByteArray.mk #[])],D.int .i64 0,D.int .i64 25]))
 (bn (j 261 [D.str (ByteArray.extract h (Int.toNat (IntKind.wrap .i64 (x+1))) (Int.toNat ((ByteArray.size h):Int))),D.str (ByteArray.mk #[48,49,50,51,52,53,54,55,56,57,97,98,99,100,101,102])]) fun z=>bH z fun s=>bo (!ByteArray.toList s==ByteArray.toList (ByteArray.mk #[]))
 (some (D.tup [D.agg [D.int .i64 0,D.str (ByteArray.mk #[]),D.slc true 0 [],D.slc true 0 [],D.str (ByteArray.mk #[])],D.int .i64 0,D.int .i64 25]))
 (up j L C q (ByteArray.extract h 0 (Int.toNat x)) (ByteArray.extract h (Int.toNat (IntKind.wrap .i64 (x+1))) (Int.toNat ((ByteArray.size h):Int))))))))):=by kernel_rfl
theorem zT(j:FuncId→List D→Option D)(L:Nat)(C:Nat→Nat)(W:ByteArray):bF (cv j L C) O0 N0 FinM.canon Tryz.f325 [D.str W]=
 (bn (j 133 [D.str W,D.str (ByteArray.mk #[32])]) fun r=>cJ r 3 fun c=>bc c 0 fun d=>bH d fun s=>bc c 1 fun a0=>bH a0 fun ae=>bc c 2 fun a3=>bM a3 fun b=>bn (j 205 [D.str s]) fun ab=>cJ ab 2 fun U=>bc U 0 fun a4=>bw .i64 a4 fun x=>bc U 1 fun a5=>bM a5 fun Y=>bo (!b)
 (some (D.tup [D.agg [D.int .i64 0,D.str (ByteArray.mk #[]),D.slc true 0 [],D.slc true 0 [],D.str (ByteArray.mk #[])],D.bool false]))
 (bo (!Y)
 (some (D.tup [D.agg [D.int .i64 0,D.str (ByteArray.mk #[]),D.slc true 0 [],D.slc true 0 [],D.str (ByteArray.mk #[])],D.bool false]))
 (bn (j 136 [D.str ae,D.int .i64 x]) fun ac=>cJ ac 2 fun V=>bc V 0 fun a6=>fK a6 5 fun h=>bc h 0 fun a7=>bw .i64 a7 fun S=>bc h 1 fun a8=>bH a8 fun M=>bc h 2 fun a9=>cP a9 fun f n q=>bc h 3 fun aa=>cP aa fun J K z=>bc h 4 fun a1=>bH a1 fun O=>bc V 1 fun a2=>bM a2 fun Z=>bo Z
 (bn (j 43 [D.agg [D.int .i64 S,D.str M,D.slc f n q,D.slc J K z,D.str O]]) fun ad=>bw .i64 ad fun af=>some (D.tup [D.agg [D.int .i64 S,D.str M,D.slc f n q,D.slc J K z,D.str O],D.bool (af==0)]))
 (some (D.tup [D.agg [D.int .i64 S,D.str M,D.slc f n q,D.slc J K z,D.str O],D.bool false]))))):=by kernel_rfl
def JV:bA:=fun p=>match p with
 |58=>some {keep:=[1,3,16,17,18],kl:=[],ren:=[(1,1),(14,14),(26,14),(37,14)]}
 |_=>none
noncomputable def fw(r:FuncId→List D→Option D)(L:Nat)(C:Nat→Nat)(n:Nat)(j:Bool)(q:Nat)(h:List D)(M:Int)(O:ByteArray)(U:Bool)(V:Nat)(S:List D)(W:ByteArray)(vl:Ow)(z K:Int):Option D:=
 bY (jy r L C) O0 JV FinM.canon Tryz.f210 (bt 5 11) [] n (St.mk (J::D.loc 1 0 0::J::rg 14 vl::jn 12 (D.slc j q h::D.int .i64 z::D.int .i64 K::jn 21 [])) (Z::(1,some (Ob.box [D.int .i64 M,D.str O,D.slc U V S,D.slc j q h,D.str W] false))::zn 12 (rh 9 1 vl::zn 25 [])))
theorem nR(j:FuncId→List D→Option D)(L:Nat)(C:Nat→Nat)(n:Nat)(Y:Bool)(O:Nat)(M:List D)(S:Int)(r:ByteArray)(V:Bool)(W:Nat)(U:List D)(z:ByteArray)(h:Nat)(q:List D)(K J:Int):fw j L C (n+1) Y O M S r V W U z (Ow.own h q) K J=
 (bo (decide (J<K))
 (bu (decide (0≤J∧J<(O:Int)))
 (bc M (Int.toNat J*1) fun Z=>bw .i64 Z fun am=>bn (j 138 [D.int .i64 am]) fun a0=>bH a0 fun ab=>bu (decide ((h+1)*16≤cg∧h+1≤9223372036854775807))
 (fw j L C n Y O M S r V W U z (Ow.own (h+1) (q++[D.str ab])) K (IntKind.wrap .i64 (J+1)))))
 (bo (ByteArray.toList r==ByteArray.toList (ByteArray.mk #[99,108,117,98]))
 (bn (j 137 [D.slc false h q]) fun a1=>bH a1 fun ac=>some (D.str ac))
 (bo (ByteArray.toList r==ByteArray.toList (ByteArray.mk #[109,101,109,98,101,114]))
 (bu (decide ((h+1)*16≤cg∧h+1≤9223372036854775807))
 (bn (j 137 [D.slc false (h+1) (q++[D.str z])]) fun a2=>bH a2 fun ad=>some (D.str ad)))
 (bo (ByteArray.toList r==ByteArray.toList (ByteArray.mk #[104,111,108,101,115]))
 (bu (decide ((h+1)*16≤cg∧h+1≤9223372036854775807))
 (bn (j 137 [D.slc false (h+1) (q++[D.str z])]) fun a3=>bH a3 fun ae=>some (D.str ae)))
 (bo (ByteArray.toList r==ByteArray.toList (ByteArray.mk #[109,97,114,107]))
 (bu (decide ((h+1)*16≤cg∧h+1≤9223372036854775807))
 (bn (j 137 [D.slc false (h+1) (q++[D.str z])]) fun a4=>bH a4 fun af=>some (D.str af)))
 (bo (ByteArray.toList r==ByteArray.toList (ByteArray.mk #[99,108,97,105,109]))
 (bu (decide ((h+1)*16≤cg∧h+1≤9223372036854775807))
 (bn (j 137 [D.slc false (h+1) (q++[D.str z])]) fun a5=>bH a5 fun ag=>some (D.str ag)))
 (bo (ByteArray.toList r==ByteArray.toList (ByteArray.mk #[115,105,103,110]))
 (bn (j 137 [D.slc false h q]) fun a6=>bH a6 fun ah=>some (D.str ah))
 (bo (ByteArray.toList r==ByteArray.toList (ByteArray.mk #[114,117,108,105,110,103]))
 (bu (decide ((h+1)*16≤cg∧h+1≤9223372036854775807))
 (bn (j 137 [D.slc false (h+1) (q++[D.str z])]) fun a7=>bH a7 fun ai=>some (D.str ai)))
 (bo (ByteArray.toList r==ByteArray.toList (ByteArray.mk #[114,111,117,110,100]))
 (bn (j 137 [D.slc false h q]) fun a8=>bH a8 fun aj=>some (D.str aj))
 (bo (ByteArray.toList r==ByteArray.toList (ByteArray.mk #[117,110,100,111]))
 (bn (j 137 [D.slc false h q]) fun a9=>bH a9 fun ak=>some (D.str ak))
 (bn (j 137 [D.slc false h q]) fun aa=>bH aa fun al=>some (D.str al)))))))))))):=by kernel_rfl
theorem nS(q:FuncId→List D→Option D)(L:Nat)(C:Nat→Nat)(n:Nat)(Z:Bool)(S:Nat)(O:List D)(U:Int)(z:ByteArray)(W:Bool)(Y:Nat)(V:List D)(J:ByteArray)(r:Bool)(h:Nat)(j:List D)(M K:Int):fw q L C (n+1) Z S O U z W Y V J (Ow.slc r h j) M K=
 (bo (decide (K<M))
 (bu (decide (0≤K∧K<(S:Int)))
 (bc O (Int.toNat K*1) fun a0=>bw .i64 a0 fun an=>bn (q 138 [D.int .i64 an]) fun a1=>bH a1 fun ac=>bu r
 (bu (decide (0<1∧List.length j=h*1∧(h+1)*16≤cg∧h+1≤4611686018427387903))
 (fw q L C n Z S O U z W Y V J (Ow.own (h+1) (j++[D.str ac])) M (IntKind.wrap .i64 (K+1))))))
 (bo (ByteArray.toList z==ByteArray.toList (ByteArray.mk #[99,108,117,98]))
 (bn (q 137 [D.slc r h j]) fun a2=>bH a2 fun ad=>some (D.str ad))
 (bo (ByteArray.toList z==ByteArray.toList (ByteArray.mk #[109,101,109,98,101,114]))
 (bu r
 (bu (decide (0<1∧List.length j=h*1∧(h+1)*16≤cg∧h+1≤4611686018427387903))
 (bn (q 137 [D.slc false (h+1) (j++[D.str J])]) fun a3=>bH a3 fun ae=>some (D.str ae))))
 (bo (ByteArray.toList z==ByteArray.toList (ByteArray.mk #[104,111,108,101,115]))
 (bu r
 (bu (decide (0<1∧List.length j=h*1∧(h+1)*16≤cg∧h+1≤4611686018427387903))
 (bn (q 137 [D.slc false (h+1) (j++[D.str J])]) fun a4=>bH a4 fun af=>some (D.str af))))
 (bo (ByteArray.toList z==ByteArray.toList (ByteArray.mk #[109,97,114,107]))
 (bu r
 (bu (decide (0<1∧List.length j=h*1∧(h+1)*16≤cg∧h+1≤4611686018427387903))
 (bn (q 137 [D.slc false (h+1) (j++[D.str J])]) fun a5=>bH a5 fun ag=>some (D.str ag))))
 (bo (ByteArray.toList z==ByteArray.toList (ByteArray.mk #[99,108,97,105,109]))
 (bu r
 (bu (decide (0<1∧List.length j=h*1∧(h+1)*16≤cg∧h+1≤4611686018427387903))
 (bn (q 137 [D.slc false (h+1) (j++[D.str J])]) fun a6=>bH a6 fun ah=>some (D.str ah))))
 (bo (ByteArray.toList z==ByteArray.toList (ByteArray.mk #[115,105,103,110]))
 (bn (q 137 [D.slc r h j]) fun a7=>bH a7 fun ai=>some (D.str ai))
 (bo (ByteArray.toList z==ByteArray.toList (ByteArray.mk #[114,117,108,105,110,103]))
 (bu r
 (bu (decide (0<1∧List.length j=h*1∧(h+1)*16≤cg∧h+1≤4611686018427387903))
 (bn (q 137 [D.slc false (h+1) (j++[D.str J])]) fun a8=>bH a8 fun aj=>some (D.str aj))))
 (bo (ByteArray.toList z==ByteArray.toList (ByteArray.mk #[114,111,117,110,100]))
 (bn (q 137 [D.slc r h j]) fun a9=>bH a9 fun ak=>some (D.str ak))
 (bo (ByteArray.toList z==ByteArray.toList (ByteArray.mk #[117,110,100,111]))
 (bn (q 137 [D.slc r h j]) fun aa=>bH aa fun al=>some (D.str al))
 (bn (q 137 [D.slc r h j]) fun ab=>bH ab fun am=>some (D.str am)))))))))))):=by kernel_rfl
theorem Gw(J:FuncId→List D→Option D)(L:Nat)(C:Nat→Nat)(K:Int)(q:ByteArray)(M:Bool)(h:Nat)(j:List D)(S:Bool)(z:Nat)(O:List D)(U:ByteArray):bF (jy J L C) O0 JV FinM.canon Tryz.f210 [D.agg [D.int .i64 K,D.str q,D.slc M h j,D.slc S z O,D.str U]]=
 (bn (J 138 [D.int .i64 K]) fun r=>bH r fun s=>bu (decide (List.length j=h*1))
 (bu (List.all j D.one)
 (bo (decide (h=0))
 (fw J L C L S z O K q M h j U (Ow.slc true 2 [D.str s,D.str q]) ((z:Int)) 0)
 (bu (decide (0<h∧2=2∧(2+h)*16≤cg∧2+h≤4611686018427387903))
 (fw J L C L S z O K q M h j U (Ow.own (2+h) ([D.str s,D.str q]++j)) ((z:Int)) 0))))):=by kernel_rfl
def Ol:bA:=fun p=>match p with
 |58=>nm [1,3,4] [] [1]
 |122=>nm [1,3,5] [] [1]
 |_=>none
noncomputable def mA(h:FuncId→List D→Option D)(L:Nat)(C:Nat→Nat)(j:Nat)(q:Int)(r:ByteArray)(K:Bool)(M:Nat)(z:List D)(S:Bool)(U:Nat)(O:List D)(V Y:ByteArray)(W:Int):Option D:=
 bY (cv h L C) O0 Ol FinM.canon Tryz.f63 (bt 6 23) [] j (St.mk (J::D.loc 1 0 0::J::D.str Y::J::D.int .i64 W::jn 57 []) (Z::(1,some (Ob.box [D.int .i64 q,D.str r,D.slc K M z,D.slc S U O,D.str V] false))::zn 61 []))
noncomputable def uq(h:FuncId→List D→Option D)(L:Nat)(C:Nat→Nat)(n:Nat)(j:Int)(q:ByteArray)(z:Bool)(K:Nat)(r:List D)(O:Bool)(S:Nat)(M:List D)(U W:ByteArray)(V:Int):Option D:=
 bY (cv h L C) O0 Ol FinM.canon Tryz.f63 (bt 5 11) [] n (St.mk (J::D.loc 1 0 0::J::D.str W::D.int .i64 V::jn 58 []) (Z::(1,some (Ob.box [D.int .i64 j,D.str q,D.slc z K r,D.slc O S M,D.str U] false))::zn 61 []))
theorem qF(q:FuncId→List D→Option D)(L:Nat)(C:Nat→Nat)(M:Nat)(S:Int)(J:ByteArray)(V:Bool)(W:Nat)(U:List D)(Y:Bool)(r:Nat)(K:List D)(z h:ByteArray)(j:Int):mA q L C (M+1) S J V W U Y r K z h j=
 (bo (decide (j<(r:Int)))
 (bu (!decide (((ByteArray.size h+1):Int)>9223372036854775807))
 (bu (decide (0≤j∧j<(r:Int)))
 (bc K (Int.toNat j*1) fun Z=>bw .i64 Z fun x=>bn (q 60 [D.int .i64 x]) fun a4=>bH a4 fun O=>bu (!decide (((ByteArray.size (h++ByteArray.mk #[32])+ByteArray.size O):Int)>9223372036854775807))
 (mA q L C M S J V W U Y r K z (h++ByteArray.mk #[32]++O) (IntKind.wrap .i64 (j+1))))))
 (bn (q 121 [D.str J]) fun a5=>cJ a5 4 fun c=>bc c 0 fun a0=>bw .i64 a0 fun _x_1=>bc c 1 fun a1=>bw .i64 a1 fun _x_2=>bc c 2 fun a2=>bM a2 fun b=>bc c 3 fun a3=>bM a3 fun _b_1=>bo b
 (bu (!decide (((ByteArray.size h+1):Int)>9223372036854775807))
 (bu (!decide (((ByteArray.size (h++ByteArray.mk #[32])+ByteArray.size z):Int)>9223372036854775807))
 (some (D.str (h++ByteArray.mk #[32]++z)))))
 (some (D.str h)))):=by kernel_rfl
theorem sY(z:FuncId→List D→Option D)(L:Nat)(C:Nat→Nat)(n:Nat)(J:Int)(K:ByteArray)(M:Bool)(j:Nat)(r:List D)(S:Bool)(U:Nat)(O:List D)(V q:ByteArray)(h:Int):uq z L C (n+1) J K M j r S U O V q h=
 (bo (decide (h<(j:Int)))
 (bu (!decide (((ByteArray.size q+1):Int)>9223372036854775807))
 (bu (decide (0≤h∧h<(j:Int)))
 (bc r (Int.toNat h*1) fun d=>bH d fun W=>bu (!decide (((ByteArray.size (q++ByteArray.mk #[32])+ByteArray.size W):Int)>9223372036854775807))
 (uq z L C n J K M j r S U O V (q++ByteArray.mk #[32]++W) (IntKind.wrap .i64 (h+1))))))
 (mA z L C L J K M j r S U O V q 0)):=by kernel_rfl
theorem JW(j:FuncId→List D→Option D)(L:Nat)(C:Nat→Nat)(q:Int)(h:ByteArray)(J:Bool)(K:Nat)(z:List D)(O:Bool)(S:Nat)(M:List D)(U:ByteArray):bF (cv j L C) O0 Ol FinM.canon Tryz.f63 [D.agg [D.int .i64 q,D.str h,D.slc J K z,D.slc O S M,D.str U]]=
 (bn (j 60 [D.int .i64 q]) fun r=>bH r fun s=>bu (!decide (((ByteArray.size s+1):Int)>9223372036854775807))
 (bu (!decide (((ByteArray.size (s++ByteArray.mk #[32])+ByteArray.size h):Int)>9223372036854775807))
 (uq j L C L q h J K z O S M U (s++ByteArray.mk #[32]++h) 0))):=by kernel_rfl
def Py:bA:=fun p=>match p with
 |58=>nm [0,3,4,5] [] []
 |_=>none
noncomputable def ur(h:FuncId→List D→Option D)(L:Nat)(C:Nat→Nat)(n:Nat)(r:Bool)(z:Nat)(q:List D)(K:ByteArray)(vs j:Int):Option D:=
 bY (cv h L C) O0 Py FinM.canon Tryz.f57 (bt 5 11) [] n (St.mk (D.slc r z q::J::J::D.str K::D.int .i64 vs::D.int .i64 j::jn 26 []) (zn 32 []))
theorem sZ(z:FuncId→List D→Option D)(L:Nat)(C:Nat→Nat)(n:Nat)(O:Bool)(K:Nat)(j:List D)(q:ByteArray)(vs h:Int):ur z L C (n+1) O K j q vs h=
 (bo (decide (h<(K:Int)))
 (bu (decide (0≤h∧h<(K:Int)))
 (bc j (Int.toNat h*5+0) fun d=>bw .i64 d fun x=>bc j (Int.toNat h*5+1) fun Y=>bH Y fun s=>bc j (Int.toNat h*5+2) fun Z=>cP Z fun f aa c=>bc j (Int.toNat h*5+3) fun a0=>cP a0 fun a7 ab U=>bc j (Int.toNat h*5+4) fun a1=>bH a1 fun ah=>bn (z 63 [D.agg [D.int .i64 x,D.str s,D.slc f aa c,D.slc a7 ab U,D.str ah]]) fun r=>bH r fun ai=>bn (z 62 [D.int .i64 vs,D.str ai]) fun ae=>bw .i64 ae fun S=>bu (decide (0≤h∧h<(K:Int)))
 (bc j (Int.toNat h*5+0) fun a2=>bw .i64 a2 fun al=>bc j (Int.toNat h*5+1) fun a3=>bH a3 fun aj=>bc j (Int.toNat h*5+2) fun a4=>cP a4 fun a8 ac V=>bc j (Int.toNat h*5+3) fun a5=>cP a5 fun a9 ad W=>bc j (Int.toNat h*5+4) fun a6=>bH a6 fun ak=>bn (z 63 [D.agg [D.int .i64 al,D.str aj,D.slc a8 ac V,D.slc a9 ad W,D.str ak]]) fun af=>bH af fun J=>bu (!decide (((ByteArray.size q+ByteArray.size J):Int)>9223372036854775807))
 (bu (!decide (((ByteArray.size (q++J)+1):Int)>9223372036854775807))
 (bn (z 79 [D.int .i64 S]) fun ag=>bH ag fun M=>bu (!decide (((ByteArray.size (q++J++ByteArray.mk #[35])+ByteArray.size M):Int)>9223372036854775807))
 (bu (!decide (((ByteArray.size (q++J++ByteArray.mk #[35]++M)+1):Int)>9223372036854775807))
 (ur z L C n O K j (q++J++ByteArray.mk #[35]++M++ByteArray.mk #[10]) S (IntKind.wrap .i64 (h+1)))))))))
 (some (D.str q))):=by kernel_rfl
theorem JX(h:FuncId→List D→Option D)(L:Nat)(C:Nat→Nat)(q:Bool)(r:Nat)(j:List D):bF (cv h L C) O0 Py FinM.canon Tryz.f57 [D.slc q r j]=
 (ur h L C L q r j (ByteArray.mk #[]) 0 0):=by kernel_rfl
theorem Gx(h:FuncId→List D→Option D)(L:Nat)(C:Nat→Nat)(z:Int)(J:ByteArray)(M:Bool)(O:Nat)(K:List D)(U:Bool)(V:Nat)(S:List D)(W:ByteArray)(q:Int):bF (cv h L C) O0 N0 FinM.canon Tryz.f140 [D.agg [D.int .i64 z,D.str J,D.slc M O K,D.slc U V S,D.str W],D.int .i64 q]=
 (bn (h 210 [D.agg [D.int .i64 z,D.str J,D.slc M O K,D.slc U V S,D.str W]]) fun r=>bH r fun s=>bn (h 211 [D.int .i64 q,D.str s]) fun Y=>bw .i64 Y fun x=>bu (!decide (((ByteArray.size s+1):Int)>9223372036854775807))
 (bn (h 212 [D.int .i64 x]) fun Z=>bH Z fun j=>bu (!decide (((ByteArray.size (s++ByteArray.mk #[35])+ByteArray.size j):Int)>9223372036854775807))
 (bu (!decide (((ByteArray.size (s++ByteArray.mk #[35]++j)+1):Int)>9223372036854775807))
 (some (D.tup [D.str (s++ByteArray.mk #[35]++j++ByteArray.mk #[10]),D.int .i64 x]))))):=by kernel_rfl
theorem Gy(h:FuncId→List D→Option D)(L:Nat)(C:Nat→Nat)(q:Bool)(z:Nat)(j:List D):bF (cv h L C) O0 N0 FinM.canon Tryz.f137 [D.slc q z j]=
 (bn (h 206 [D.slc q z j,D.str (ByteArray.mk #[32])]) fun r=>bH r fun s=>some (D.str s)):=by kernel_rfl
def JY:bA:=fun p=>match p with
 |122=>nm [3,4,5] [6,7] [3,4,5,6,7,20]
 |_=>none
noncomputable def c9(h:FuncId→List D→Option D)(L:Nat)(C:Nat→Nat)(j:FuncId→List D→Option (List (List D)))(K:List (List D))(vl:Ow)(q r z:Int):Option D:=
 H9 (Oi h L C j) O0 JY FinM.canon Tryz.f143 (bt 6 23) [] 268 K (St.mk (J::J::J::D.loc 3 0 0::D.loc 4 0 0::D.loc 5 0 0::jn 17 []) (Z::Z::Z::(1,some (Ob.box [D.int .i64 0,D.int .i64 0,D.int .i64 0] false))::(1,some (Ob.box [rg 20 vl] false))::(1,some (Ob.box [D.int .i64 q,D.int .i64 r,D.int .i64 z] false))::zn 14 [rh 91 5 vl,Z,Z]))
theorem rB(r:FuncId→List D→Option D)(L:Nat)(C:Nat→Nat)(z:FuncId→List D→Option (List (List D)))(h j q:Int):c9 r L C z [] (Ow.nil) h j q=
 (some (D.tup [D.slc true 0 [],D.agg [D.int .i64 h,D.int .i64 j,D.int .i64 q]])):=by kernel_rfl
theorem j8(j:FuncId→List D→Option D)(L:Nat)(C:Nat→Nat)(q:FuncId→List D→Option (List (List D)))(y:List D)(z:List (List D))(a6 a7 a8:Int):c9 j L C q (y::z) (Ow.nil) a6 a7 a8=
 (bu (decide (List.length y=2))
 (bc y 0 fun d=>fK d 5 fun c=>bc c 0 fun S=>bw .i64 S fun x=>bc c 1 fun U=>bH U fun s=>bc c 2 fun V=>cP V fun f n M=>bc c 3 fun W=>cP W fun a3 a4 O=>bc c 4 fun Y=>bH Y fun a5=>bc y 1 fun Z=>fK Z 3 fun h=>bc h 0 fun a0=>bw .i64 a0 fun J=>bc h 1 fun a1=>bw .i64 a1 fun K=>bc h 2 fun a2=>bw .i64 a2 fun r=>bo (r==0)
 (c9 j L C q z (Ow.own 1 [D.int .i64 x,D.str s,D.slc f n M,D.slc a3 a4 O,D.str a5]) J K r)
 (c9 j L C q z (Ow.nil) J K r))):=by kernel_rfl
theorem rC(J:FuncId→List D→Option D)(L:Nat)(C:Nat→Nat)(K:FuncId→List D→Option (List (List D)))(j:Nat)(h:List D)(q r z:Int):c9 J L C K [] (Ow.own j h) q r z=
 (some (D.tup [D.slc false j h,D.agg [D.int .i64 q,D.int .i64 r,D.int .i64 z]])):=by kernel_rfl
theorem j9(z:FuncId→List D→Option D)(L:Nat)(C:Nat→Nat)(J:FuncId→List D→Option (List (List D)))(q:List D)(O:List (List D))(j:Nat)(K:List D)(ae af ag:Int):c9 z L C J (q::O) (Ow.own j K) ae af ag=
 (bu (decide (List.length q=2))
 (bc q 0 fun Y=>fK Y 5 fun h=>bc h 0 fun Z=>bw .i64 Z fun ah=>bc h 1 fun a0=>bH a0 fun ac=>bc h 2 fun a1=>cP a1 fun a8 aa V=>bc h 3 fun a2=>cP a2 fun a9 ab W=>bc h 4 fun a3=>bH a3 fun ad=>bc q 1 fun a4=>fK a4 3 fun r=>bc r 0 fun a5=>bw .i64 a5 fun S=>bc r 1 fun a6=>bw .i64 a6 fun U=>bc r 2 fun a7=>bw .i64 a7 fun M=>bo (M==0)
 (bu (decide ((j+1)*88≤cg∧j+1≤9223372036854775807))
 (c9 z L C J O (Ow.own (j+1) (K++[D.int .i64 ah,D.str ac,D.slc a8 aa V,D.slc a9 ab W,D.str ad])) S U M))
 (c9 z L C J O (Ow.own j K) S U M))):=by kernel_rfl
theorem Gz(j:FuncId→List D→Option D)(L:Nat)(C:Nat→Nat)(h:FuncId→List D→Option (List (List D)))(q:ByteArray):bF (Oi j L C h) O0 JY FinM.canon Tryz.f143 [D.str q]=
 (bn (h 268 [D.snap [D.str q] 0]) fun r=>c9 j L C h r (Ow.nil) 0 0 0):=by kernel_rfl
def Bf:bA:=fun p=>match p with
 |15=>nm [0,1,4,7] [13] [4,13]
 |4095=>nm [4,9,13] [] [4,13]
 |8189=>nm [4,9,13,76] [] [4,13]
 |_=>none
noncomputable def ni(h:FuncId→List D→Option D)(L:Nat)(C:Nat→Nat)(V j:Int)(q:ByteArray)(z:Bool)(K:Nat)(r:List D)(O:Bool)(S:Nat)(M:List D)(U:ByteArray):Option D:=
 d9 (cv h L C) O0 Bf FinM.canon Tryz.f129 (bt 11 2047) [] (C 4095) (St.mk (J::J::J::J::D.loc 4 0 0::J::J::J::J::D.int .i64 V::J::J::J::D.loc 13 0 0::jn 66 []) (Z::Z::Z::Z::(1,some (Ob.box [D.int .i64 0,D.str (ByteArray.mk #[]),D.nils,D.nils,D.str (ByteArray.mk #[])] false))::zn 8 ((1,some (Ob.box [D.int .i64 j,D.str q,D.slc z K r,D.slc O S M,D.str U] false))::zn 66 [])))
noncomputable def de(h:FuncId→List D→Option D)(L:Nat)(C:Nat→Nat)(W:Int)(j:Bool)(q:Int)(r:ByteArray)(K:Bool)(M:Nat)(z:List D)(S:Bool)(U:Nat)(O:List D)(V:ByteArray):Option D:=
 d9 (cv h L C) O0 Bf FinM.canon Tryz.f129 (bt 12 3071) [] (C 8189) (St.mk (J::J::J::J::D.loc 4 0 0::J::J::J::J::D.int .i64 W::J::J::J::D.loc 13 0 0::jn 62 [D.bool j,J,J,J]) (Z::Z::Z::Z::(1,some (Ob.box [D.int .i64 0,D.str (ByteArray.mk #[]),D.nils,D.nils,D.str (ByteArray.mk #[])] false))::zn 8 ((1,some (Ob.box [D.int .i64 q,D.str r,D.slc K M z,D.slc S U O,D.str V] false))::zn 66 [])))
noncomputable def ut(h:FuncId→List D→Option D)(L:Nat)(C:Nat→Nat)(q:Int)(vs:ByteArray)(j:Int):Option D:=
 d9 (cv h L C) O0 Bf FinM.canon Tryz.f129 [true,true,true] [] (C 15) (St.mk (D.int .i64 q::D.str vs::J::J::D.loc 4 0 0::J::J::D.int .i64 j::jn 72 []) (Z::Z::Z::Z::(1,some (Ob.box [D.int .i64 0,D.str (ByteArray.mk #[]),D.nils,D.nils,D.str (ByteArray.mk #[])] false))::zn 75 []))
theorem uu(U:FuncId→List D→Option D)(L:Nat)(C:Nat→Nat)(S h:Int)(j:ByteArray)(r:Bool)(z:Nat)(q:List D)(K:Bool)(M:Nat)(J:List D)(O:ByteArray)(hC:∀t,C t=1):ni U L C S h j r z q K M J O=
 (some (D.tup [D.agg [D.int .i64 h,D.str j,D.slc r z q,D.slc K M J,D.str O],D.int .i64 S,D.int .i64 0])):=by
 unfold ni;rw[hC]
 kernel_rfl
theorem mB(h:FuncId→List D→Option D)(L:Nat)(C:Nat→Nat)(V:Int)(j:Bool)(q:Int)(r:ByteArray)(J:Bool)(K:Nat)(z:List D)(O:Bool)(S:Nat)(M:List D)(U:ByteArray)(hC:∀t,C t=1):de h L C V j q r J K z O S M U=
 (bo j
 (some (D.tup [D.agg [D.int .i64 0,D.str (ByteArray.mk #[]),D.slc true 0 [],D.slc true 0 [],D.str (ByteArray.mk #[])],D.int .i64 0,D.int .i64 25]))
 (ni h L C V q r J K z O S M U)):=by
 unfold de;rw[hC]
 kernel_rfl
theorem yD(h:FuncId→List D→Option D)(L:Nat)(C:Nat→Nat)(Z:Int)(vs:ByteArray)(j:Int)(hC:∀t,C t=1):ut h L C Z vs j=
 (bu (decide (0≤(0:Int)∧(0:Int)≤j∧j≤((ByteArray.size vs):Int)))
 (bn (h 62 [D.int .i64 Z,D.str (ByteArray.extract vs 0 (Int.toNat j))]) fun ae=>bw .i64 ae fun U=>bn (h 79 [D.int .i64 U]) fun af=>bH af fun s=>bu (decide (0≤IntKind.wrap .i64 (j+1)∧IntKind.wrap .i64 (j+1)≤((ByteArray.size vs):Int)∧((ByteArray.size vs):Int)≤((ByteArray.size vs):Int)))
 (bo (!ByteArray.toList s==ByteArray.toList (ByteArray.extract vs (Int.toNat (IntKind.wrap .i64 (j+1))) (Int.toNat ((ByteArray.size vs):Int))))
 (some (D.tup [D.agg [D.int .i64 0,D.str (ByteArray.mk #[]),D.slc true 0 [],D.slc true 0 [],D.str (ByteArray.mk #[])],D.int .i64 0,D.int .i64 27]))
 (bn (h 188 [D.str (ByteArray.extract vs 0 (Int.toNat j))]) fun ag=>cJ ag 3 fun c=>bc c 0 fun d=>bH d fun ak=>bc c 1 fun a3=>bH a3 fun al=>bc c 2 fun a6=>bM a6 fun a0=>bn (h 132 [D.str al]) fun ah=>cJ ah 2 fun W=>bc W 0 fun a7=>fK a7 5 fun q=>bc q 0 fun a8=>bw .i64 a8 fun _x_2=>bc q 1 fun a9=>bH a9 fun O=>bc q 2 fun aa=>cP aa fun f K r=>bc q 3 fun ab=>cP ab fun J M z=>bc q 4 fun ac=>bH ac fun S=>bc W 1 fun ad=>bM ad fun a1=>bn (h 189 [D.str ak]) fun ai=>cJ ai 2 fun Y=>bc Y 0 fun a4=>bw .i64 a4 fun V=>bc Y 1 fun a5=>bM a5 fun a2=>bo (!a0)
 (de h L C U true V O f K r J M z S)
 (bo (!a1)
 (de h L C U true V O f K r J M z S)
 (bo (!a2)
 (de h L C U true V O f K r J M z S)
 (bn (h 44 [D.agg [D.int .i64 V,D.str O,D.slc f K r,D.slc J M z,D.str S]]) fun aj=>bw .i64 aj fun am=>de h L C U (am !=0) V O f K r J M z S))))))):=by
 unfold ut;rw[hC]
 kernel_rfl
theorem zU(h:FuncId→List D→Option D)(L:Nat)(C:Nat→Nat)(j:Int)(vs:ByteArray):bF (cv h L C) O0 Bf FinM.canon Tryz.f129 [D.int .i64 j,D.str vs]=
 (bn (h 186 [D.str vs,D.int IntKind.u8 35]) fun r=>bw .i64 r fun x=>bo (decide (x<0))
 (some (D.tup [D.agg [D.int .i64 0,D.str (ByteArray.mk #[]),D.slc true 0 [],D.slc true 0 [],D.str (ByteArray.mk #[])],D.int .i64 0,D.int .i64 25]))
 (bu (decide (0≤IntKind.wrap .i64 (x+1)∧IntKind.wrap .i64 (x+1)≤((ByteArray.size vs):Int)∧((ByteArray.size vs):Int)≤((ByteArray.size vs):Int)))
 (bn (h 187 [D.str (ByteArray.extract vs (Int.toNat (IntKind.wrap .i64 (x+1))) (Int.toNat ((ByteArray.size vs):Int)))]) fun q=>bM q fun b=>bo (!b)
 (some (D.tup [D.agg [D.int .i64 0,D.str (ByteArray.mk #[]),D.slc true 0 [],D.slc true 0 [],D.str (ByteArray.mk #[])],D.int .i64 0,D.int .i64 25]))
 (ut h L C j vs x)))):=by kernel_rfl
def Nc:bA:=fun p=>match p with
 |124=>nm [0,5,6,7] [9] [9,63]
 |7956=>nm [0,5,6,7,8] [9] [9,63]
 |31839=>nm [0,5,6,8,9,10,11] [] [9,63]
 |_=>none
noncomputable def cO(j:FuncId→List D→Option D)(L:Nat)(C:Nat→Nat)(n:Nat)(a0:ByteArray)(q Z:Int)(h:Ow)(a1 r z:Int)(K:ByteArray)(O:Bool)(S:Nat)(M:List D)(V:Bool)(W:Nat)(U:List D)(Y:ByteArray):Option D:=
 d9 (cv j L C) O0 Nc FinM.canon Tryz.f50 (bt 14 16015) [n] (C 31839) (St.mk (D.str a0::J::J::J::J::rg 63 h::D.int .i64 q::J::D.int .i64 Z::D.loc 9 0 0::D.int .i64 a1::D.int .i64 r::jn 57 []) (zn 9 ((1,some (Ob.box [D.int .i64 z,D.str K,D.slc O S M,D.slc V W U,D.str Y] false))::zn 53 (rh 91 5 h::zn 5 []))))
noncomputable def dL(j:FuncId→List D→Option D)(L:Nat)(C:Nat→Nat)(n q:Nat)(K:ByteArray)(r M:Int)(h:Ow)(z:Int):Option D:=
 bY (cv j L C) O0 Nc FinM.canon Tryz.f50 (bt 12 655) [n] q (St.mk (D.str K::J::J::J::J::rg 63 h::D.int .i64 r::D.int .i64 M::D.int .i64 z::jn 60 []) (zn 63 (rh 91 5 h::zn 5 [])))
noncomputable def gN(j:FuncId→List D→Option D)(L:Nat)(C:Nat→Nat)(n:Nat)(r:ByteArray)(h:Ow)(q z:Int):Option D:=
 bY (cv j L C) O0 Nc FinM.canon Tryz.f50 (bt 6 15) [] n (St.mk (D.str r::J::J::J::J::rg 63 h::D.int .i64 q::D.int .i64 z::jn 61 []) (zn 63 (rh 91 5 h::zn 5 [])))
theorem lc(j:FuncId→List D→Option D)(L:Nat)(C:Nat→Nat)(n:Nat)(Y:ByteArray)(q W Z h r:Int)(z:ByteArray)(K:Bool)(M:Nat)(J:List D)(S:Bool)(U:Nat)(O:List D)(V:ByteArray)(hC:∀t,C t=1):cO j L C n Y q W (Ow.nil) Z h r z K M J S U O V=
 (bo (h !=0)
 (some (D.tup [D.slc true 0 [],D.int .i64 q,D.int .i64 h]))
 (gN j L C n Y (Ow.own 1 [D.int .i64 r,D.str z,D.slc K M J,D.slc S U O,D.str V]) (IntKind.wrap .i64 (W+1)) Z)):=by
 unfold cO;rw[hC]
 kernel_rfl
theorem ld(r:FuncId→List D→Option D)(L:Nat)(C:Nat→Nat)(n:Nat)(a0:ByteArray)(z Z:Int)(h:Nat)(q:List D)(a1 j J:Int)(K:ByteArray)(O:Bool)(S:Nat)(M:List D)(V:Bool)(W:Nat)(U:List D)(Y:ByteArray)(hC:∀t,C t=1):cO r L C n a0 z Z (Ow.own h q) a1 j J K O S M V W U Y=
 (bo (j !=0)
 (some (D.tup [D.slc false h q,D.int .i64 z,D.int .i64 j]))
 (bu (decide ((h+1)*88≤cg∧h+1≤9223372036854775807))
 (gN r L C n a0 (Ow.own (h+1) (q++[D.int .i64 J,D.str K,D.slc O S M,D.slc V W U,D.str Y])) (IntKind.wrap .i64 (Z+1)) a1))):=by
 unfold cO;rw[hC]
 kernel_rfl
theorem ji(z:FuncId→List D→Option D)(L:Nat)(C:Nat→Nat)(n a3:Nat)(j:ByteArray)(q M h:Int):dL z L C n (a3+1) j q M (Ow.nil) h=
 (bo (decide (h<((ByteArray.size j):Int)))
 (bu (decide (0≤h∧Int.toNat h<ByteArray.size j))
 (bo (bB j (Int.toNat h) !=10)
 (dL z L C n a3 j q M (Ow.nil) (IntKind.wrap .i64 (h+1)))
 (bo (h==((ByteArray.size j):Int))
 (some (D.tup [D.slc true 0 [],D.int .i64 q,D.int .i64 28]))
 (bu (decide (0≤q∧q≤h∧h≤((ByteArray.size j):Int)))
 (bn (z 129 [D.int .i64 M,D.str (ByteArray.extract j (Int.toNat q) (Int.toNat h))]) fun r=>cJ r 3 fun c=>bc c 0 fun d=>fK d 5 fun J=>bc J 0 fun ae=>bw .i64 ae fun x=>bc J 1 fun al=>bH al fun s=>bc J 2 fun am=>cP am fun f a4 V=>bc J 3 fun an=>cP an fun a0 a5 W=>bc J 4 fun ao=>bH ao fun a8=>bc c 1 fun ap=>bw .i64 ap fun ab=>bc c 2 fun aq=>bw .i64 aq fun S=>bo (S==0)
 (cO z L C n j q h (Ow.nil) ab S x s f a4 V a0 a5 W a8)
 (cO z L C n j q h (Ow.nil) ab S x s f a4 V a0 a5 W a8))))))
 (bo (h==((ByteArray.size j):Int))
 (some (D.tup [D.slc true 0 [],D.int .i64 q,D.int .i64 28]))
 (bu (decide (0≤q∧q≤h∧h≤((ByteArray.size j):Int)))
 (bn (z 129 [D.int .i64 M,D.str (ByteArray.extract j (Int.toNat q) (Int.toNat h))]) fun av=>cJ av 3 fun O=>bc O 0 fun ar=>fK ar 5 fun K=>bc K 0 fun au=>bw .i64 au fun ac=>bc K 1 fun af=>bH af fun a9=>bc K 2 fun ag=>cP ag fun a1 a6 Y=>bc K 3 fun ah=>cP ah fun a2 a7 Z=>bc K 4 fun ai=>bH ai fun aa=>bc O 1 fun aj=>bw .i64 aj fun ad=>bc O 2 fun ak=>bw .i64 ak fun U=>bo (U==0)
 (cO z L C n j q h (Ow.nil) ad U ac a9 a1 a6 Y a2 a7 Z aa)
 (cO z L C n j q h (Ow.nil) ad U ac a9 a1 a6 Y a2 a7 Z aa))))):=by kernel_rfl
theorem jj(z:FuncId→List D→Option D)(L:Nat)(C:Nat→Nat)(n ai:Nat)(j:ByteArray)(q O:Int)(r:Nat)(J:List D)(h:Int):dL z L C n (ai+1) j q O (Ow.own r J) h=
 (bo (decide (h<((ByteArray.size j):Int)))
 (bu (decide (0≤h∧Int.toNat h<ByteArray.size j))
 (bo (bB j (Int.toNat h) !=10)
 (dL z L C n ai j q O (Ow.own r J) (IntKind.wrap .i64 (h+1)))
 (bo (h==((ByteArray.size j):Int))
 (some (D.tup [D.slc false r J,D.int .i64 q,D.int .i64 28]))
 (bu (decide (0≤q∧q≤h∧h≤((ByteArray.size j):Int)))
 (bn (z 129 [D.int .i64 O,D.str (ByteArray.extract j (Int.toNat q) (Int.toNat h))]) fun aB=>cJ aB 3 fun Z=>bc Z 0 fun aj=>fK aj 5 fun M=>bc M 0 fun ak=>bw .i64 ak fun ae=>bc M 1 fun al=>bH al fun a8=>bc M 2 fun am=>cP am fun a0 a5 S=>bc M 3 fun an=>cP an fun a1 a6 U=>bc M 4 fun ao=>bH ao fun a9=>bc Z 1 fun ap=>bw .i64 ap fun af=>bc Z 2 fun aq=>bw .i64 aq fun ag=>bo (ag==0)
 (bo ((r:Int)==1000)
 (cO z L C n j q h (Ow.own r J) af 5 ae a8 a0 a5 S a1 a6 U a9)
 (cO z L C n j q h (Ow.own r J) af ag ae a8 a0 a5 S a1 a6 U a9))
 (cO z L C n j q h (Ow.own r J) af ag ae a8 a0 a5 S a1 a6 U a9))))))
 (bo (h==((ByteArray.size j):Int))
 (some (D.tup [D.slc false r J,D.int .i64 q,D.int .i64 28]))
 (bu (decide (0≤q∧q≤h∧h≤((ByteArray.size j):Int)))
 (bn (z 129 [D.int .i64 O,D.str (ByteArray.extract j (Int.toNat q) (Int.toNat h))]) fun aC=>cJ aC 3 fun V=>bc V 0 fun ar=>fK ar 5 fun K=>bc K 0 fun au=>bw .i64 au fun ah=>bc K 1 fun av=>bH av fun aa=>bc K 2 fun aw=>cP aw fun a2 a7 W=>bc K 3 fun ax=>cP ax fun a3 a4 Y=>bc K 4 fun ay=>bH ay fun ab=>bc V 1 fun az=>bw .i64 az fun ac=>bc V 2 fun aA=>bw .i64 aA fun ad=>bo (ad==0)
 (bo ((r:Int)==1000)
 (cO z L C n j q h (Ow.own r J) ac 5 ah aa a2 a7 W a3 a4 Y ab)
 (cO z L C n j q h (Ow.own r J) ac ad ah aa a2 a7 W a3 a4 Y ab))
 (cO z L C n j q h (Ow.own r J) ac ad ah aa a2 a7 W a3 a4 Y ab))))):=by kernel_rfl
theorem wP(q:FuncId→List D→Option D)(L:Nat)(C:Nat→Nat)(n:Nat)(j:ByteArray)(h r:Int):gN q L C (n+1) j (Ow.nil) h r=
 (bo (decide (h<((ByteArray.size j):Int)))
 (dL q L C n L j h r (Ow.nil) h)
 (some (D.tup [D.slc true 0 [],D.int .i64 h,D.int .i64 0]))):=by kernel_rfl
theorem wQ(z:FuncId→List D→Option D)(L:Nat)(C:Nat→Nat)(n:Nat)(j:ByteArray)(r:Nat)(q:List D)(h J:Int):gN z L C (n+1) j (Ow.own r q) h J=
 (bo (decide (h<((ByteArray.size j):Int)))
 (dL z L C n L j h J (Ow.own r q) h)
 (some (D.tup [D.slc false r q,D.int .i64 h,D.int .i64 0]))):=by kernel_rfl
theorem JZ(j:FuncId→List D→Option D)(L:Nat)(C:Nat→Nat)(h:ByteArray):bF (cv j L C) O0 Nc FinM.canon Tryz.f50 [D.str h]=
 (bo (decide (((ByteArray.size h):Int)>1000000))
 (some (D.tup [D.slc true 0 [],D.int .i64 0,D.int .i64 26]))
 (gN j L C L h (Ow.nil) 0 0)):=by kernel_rfl
theorem J0(q:FuncId→List D→Option D)(L:Nat)(C:Nat→Nat)(j:ByteArray):bF (cv q L C) O0 N0 FinM.canon Tryz.f59 [D.str j]=
 (bo (decide (((ByteArray.size j):Int)>1000000))
 (some (D.tup [D.slc true 0 [],D.int .i64 0,D.int .i64 26]))
 (bn (q 143 [D.str j]) fun r=>cJ r 2 fun c=>bc c 0 fun d=>cP d fun f n z=>bc c 1 fun J=>fK J 3 fun h=>bc h 0 fun K=>bw .i64 K fun x=>bc h 1 fun M=>bw .i64 M fun _x_1=>bc h 2 fun O=>bw .i64 O fun S=>some (D.tup [D.slc f n z,D.int .i64 x,D.int .i64 S]))):=by kernel_rfl
theorem DJ(h:FuncId→List D→Option D)(L:Nat)(C:Nat→Nat)(j:ByteArray)(z:Int)(J:ByteArray)(M:Bool)(O:Nat)(K:List D)(U:Bool)(V:Nat)(S:List D)(W:ByteArray):bF (cv h L C) O0 N0 FinM.canon Tryz.f58 [D.str j,D.agg [D.int .i64 z,D.str J,D.slc M O K,D.slc U V S,D.str W]]=
 (bn (h 59 [D.str j]) fun r=>cJ r 3 fun c=>bc c 0 fun d=>cP d fun _f n _c_1=>bc c 1 fun a2=>bw .i64 a2 fun _x=>bc c 2 fun a3=>bw .i64 a3 fun ai=>bn (h 43 [D.agg [D.int .i64 z,D.str J,D.slc M O K,D.slc U V S,D.str W]]) fun ab=>bw .i64 ab fun aj=>bn (h 87 [D.slc true 2 [D.int .i64 ai,D.int .i64 aj]]) fun ac=>bw .i64 ac fun a1=>bo (a1 !=0)
 (some (D.tup [D.str (ByteArray.mk #[]),D.int .i64 a1]))
 (bn (h 143 [D.str j]) fun ad=>cJ ad 2 fun Y=>bc Y 0 fun a4=>cP a4 fun _f_1 _n_1 _c_3=>bc Y 1 fun a5=>fK a5 3 fun q=>bc q 0 fun a6=>bw .i64 a6 fun _x_4=>bc q 1 fun a7=>bw .i64 a7 fun ak=>bc q 2 fun a8=>bw .i64 a8 fun _x_6=>bn (h 140 [D.agg [D.int .i64 z,D.str J,D.slc M O K,D.slc U V S,D.str W],D.int .i64 ak]) fun ae=>cJ ae 2 fun Z=>bc Z 0 fun a9=>bH a9 fun s=>bc Z 1 fun aa=>bw .i64 aa fun _x_7=>bn (h 119 [D.bool ((n:Int)==1000),D.int .i64 5]) fun af=>bw .i64 af fun al=>bn (h 119 [D.bool (decide (IntKind.wrap .i64 (((ByteArray.size j):Int)+((ByteArray.size s):Int))>1000000)),D.int .i64 26]) fun ag=>bw .i64 ag fun am=>bn (h 87 [D.slc true 2 [D.int .i64 al,D.int .i64 am]]) fun ah=>bw .i64 ah fun a0=>bo (a0 !=0)
 (some (D.tup [D.str (ByteArray.mk #[]),D.int .i64 a0]))
 (bu (!decide (((ByteArray.size j+ByteArray.size s):Int)>9223372036854775807))
 (some (D.tup [D.str (j++s),D.int .i64 0]))))):=by kernel_rfl
theorem J1(h:FuncId→List D→Option D)(L:Nat)(C:Nat→Nat)(vn:Int):bF (cv h L C) O0 N0 FinM.canon Tryz.f60 [D.int .i64 vn]=
 (bn (h 144 [D.int .i64 vn]) fun r=>bH r fun s=>some (D.str s)):=by kernel_rfl
theorem zV(h:FuncId→List D→Option D)(L:Nat)(C:Nat→Nat)(vn:Int):bF (cv h L C) O0 N0 FinM.canon Tryz.f144 [D.int .i64 vn]=
 (bn (h 216 [D.int .i64 vn]) fun r=>fK r 2 fun c=>bc c 0 fun d=>bM d fun b=>bc c 1 fun q=>cP q fun f n j=>bn (h 215 [D.agg [D.bool b,D.slc f n j]]) fun z=>bH z fun s=>some (D.str s)):=by kernel_rfl
def O9:hZ:=fun id=>match id with
 |9=>some {fs:=[(50,52)]}
 |_=>none
def N9:bA:=fun p=>match p with
 |7=>some {keep:=[1,2],kl:=[52,55],ren:=[(2,2),(52,52),(55,52)]}
 |_=>none
noncomputable def J2(h:FuncId→List D→Option D)(L:Nat)(C:Nat→Nat)(V:ByteArray)(j:Int)(q:ByteArray)(z:Bool)(K:Nat)(r:List D)(O:Bool)(S:Nat)(M:List D)(U:ByteArray):Option D:=
 d9 (cv h L C) O9 N9 FinM.canon Tryz.f9 [true,true] [] (C 7) (St.mk (J::D.str V::D.loc 2 0 0::jn 80 []) (Z::Z::(1,some (Ob.box [D.int .i64 j,D.str q,D.slc z K r,D.slc O S M,D.str U] false))::zn 80 []))
theorem GA(h:FuncId→List D→Option D)(L:Nat)(C:Nat→Nat)(W:ByteArray)(r:Int)(z:ByteArray)(K:Bool)(M:Nat)(J:List D)(S:Bool)(U:Nat)(O:List D)(V:ByteArray)(hC:∀t,C t=1):J2 h L C W r z K M J S U O V=
 (bn (h 58 [D.str W,D.agg [D.int .i64 r,D.str z,D.slc K M J,D.slc S U O,D.str V]]) fun ar=>cJ ar 2 fun c=>bc c 0 fun d=>bH d fun s=>bc c 1 fun ae=>bw .i64 ae fun x=>bn (h 59 [D.str W]) fun au=>cJ au 3 fun a0=>bc a0 0 fun af=>cP af fun f a4 a1=>bc a0 1 fun ag=>bw .i64 ag fun a5=>bc a0 2 fun ah=>bw .i64 ah fun a6=>bn (h 50 [D.str W]) fun av=>cJ av 3 fun a2=>bc a2 0 fun ai=>cP ai fun a3 j q=>bc a2 1 fun aj=>bw .i64 aj fun a7=>bc a2 2 fun ak=>bw .i64 ak fun Y=>bn (h 44 [D.agg [D.int .i64 r,D.str z,D.slc K M J,D.slc S U O,D.str V]]) fun aw=>bw .i64 aw fun aC=>bn (h 34 [D.slc true 2 [D.int .i64 Y,D.int .i64 aC]]) fun ax=>bw .i64 ax fun Z=>bo (Z==0)
 (bu (decide (List.length q=j*5))
 (bu (List.all q D.one)
 (bo (decide (j=0))
 (bn (h 57 [D.slc false 1 [D.int .i64 r,D.str z,D.slc K M J,D.slc S U O,D.str V]]) fun ay=>bH ay fun aA=>bo (x==Z)
 (bo (ByteArray.toList s==ByteArray.toList aA)
 (bn (h 54 [D.slc f a4 a1,D.slc a3 j q]) fun az=>bM az fun a8=>bo a8
 (bo (a5==a7)
 (bo (a6==Y)
 (bn (h 15 []) fun al=>bM al fun a9=>some (D.bool a9))
 (some (D.bool false)))
 (some (D.bool false)))
 (some (D.bool false)))
 (some (D.bool false)))
 (some (D.bool false)))
 (bu (decide (0<j∧0=0∧(0+j)*88≤cg∧0+j≤4611686018427387903))
 (bu (decide ((0+j+1)*88≤cg∧0+j+1≤9223372036854775807))
 (bn (h 57 [D.slc false (0+j+1) (q++[D.int .i64 r,D.str z,D.slc K M J,D.slc S U O,D.str V])]) fun am=>bH am fun aB=>bo (x==Z)
 (bo (ByteArray.toList s==ByteArray.toList aB)
 (bn (h 54 [D.slc f a4 a1,D.slc a3 j q]) fun an=>bM an fun aa=>bo aa
 (bo (a5==a7)
 (bo (a6==Y)
 (bn (h 15 []) fun ao=>bM ao fun ab=>some (D.bool ab))
 (some (D.bool false)))
 (some (D.bool false)))
 (some (D.bool false)))
 (some (D.bool false)))
 (some (D.bool false))))))))
 (bo (x==Z)
 (bo (ByteArray.toList s==ByteArray.toList (ByteArray.mk #[]))
 (bn (h 54 [D.slc f a4 a1,D.slc a3 j q]) fun ap=>bM ap fun ac=>bo ac
 (bo (a5==a7)
 (bo (a6==Y)
 (bn (h 15 []) fun aq=>bM aq fun ad=>some (D.bool ad))
 (some (D.bool false)))
 (some (D.bool false)))
 (some (D.bool false)))
 (some (D.bool false)))
 (some (D.bool false)))):=by
 unfold J2;rw[hC]
 kernel_rfl
theorem DK(h:FuncId→List D→Option D)(L:Nat)(C:Nat→Nat)(j:Int)(q:ByteArray)(J:Bool)(K:Nat)(z:List D)(O:Bool)(S:Nat)(M:List D)(U V:ByteArray):bF (cv h L C) O9 N9 FinM.canon Tryz.f9 [D.agg [D.int .i64 j,D.str q,D.slc J K z,D.slc O S M,D.str U],D.str V]=
 (bn (h 42 [D.slc true 1 [D.int .i64 j,D.str q,D.slc J K z,D.slc O S M,D.str U]]) fun r=>bM r fun b=>bo (!b)
 (bn (h 15 []) fun Z=>bM Z fun W=>some (D.bool W))
 (bo (decide (((ByteArray.size V):Int)>1500))
 (bn (h 15 []) fun a0=>bM a0 fun Y=>some (D.bool Y))
 (J2 h L C V j q J K z O S M U))):=by kernel_rfl
end Go.Pd
end
