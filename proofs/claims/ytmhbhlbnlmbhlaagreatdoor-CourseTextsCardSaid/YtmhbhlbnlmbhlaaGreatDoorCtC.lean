import Derived.Test.YtmhbhlbnlmbhlaaGreatDoorCrA
import Derived.KernelRfl
import Derived.Test.YtmhbhlbnlmbhlaaGreatDoorCrB
import Derived.Test.YtmhbhlbnlmbhlaaGreatDoorCtA
import Derived.Shelf.Strings.BuilderK
import Derived.Test.YtmhbhlbnlmbhlaaGreatDoorCrE
import Derived.Test.YtmhbhlbnlmbhlaaGreatDoorCsM
section
namespace Go.Pd
open Go Go.Proofs
set_option maxRecDepth 100000
def Sj:bY:=fun p=>match p with
 |58=>nm [1,3,4] [] [1]
 |122=>nm [1,3,5] [] [1]
 |31306=>nm [1,3,5,6] [] [1]
 |_=>none
noncomputable def mN(call:CL)(L:Nat)(C:Nat→Nat)(q z:Nat)(a2:Int)(K:ByteArray)(M O S U:Int)(W:Bool)(X:Nat)(V:List D)(a0:Bool)(a1:Nat)(Y:List D)(a4:ByteArray)(vk:Int):Option D:=
 cw (cF call L C) O0 Sj FinM.canon Tryz.f71 (bt 14 5271) [q] z (St.mk (J::D.loc 1 0 0::J::D.str a4::J::D.int .i64 a2::D.int .i64 vk::jn 112 []) (Z::(1,some (Ob.box [D.str K,D.int .i64 M,D.int .i64 O,D.int .i64 S,D.int .i64 U,D.slc W X V,D.slc a0 a1 Y] false))::zn 117 []))
noncomputable def mO(call:CL)(L:Nat)(C:Nat→Nat)(q:Nat)(z:ByteArray)(K M O S:Int)(V:Bool)(W:Nat)(U:List D)(Y:Bool)(a0:Nat)(X:List D)(a2:ByteArray)(a1:Int):Option D:=
 cw (cF call L C) O0 Sj FinM.canon Tryz.f71 (bt 6 23) [] q (St.mk (J::D.loc 1 0 0::J::D.str a2::J::D.int .i64 a1::jn 113 []) (Z::(1,some (Ob.box [D.str z,D.int .i64 K,D.int .i64 M,D.int .i64 O,D.int .i64 S,D.slc V W U,D.slc Y a0 X] false))::zn 117 []))
noncomputable def xT(call:CL)(L:Nat)(C:Nat→Nat)(n:Nat)(q:ByteArray)(z K M O:Int)(U:Bool)(V:Nat)(S:List D)(X:Bool)(Y:Nat)(W:List D)(a1:ByteArray)(vi:Int):Option D:=
 cw (cF call L C) O0 Sj FinM.canon Tryz.f71 (bt 5 11) [] n (St.mk (J::D.loc 1 0 0::J::D.str a1::D.int .i64 vi::jn 114 []) (Z::(1,some (Ob.box [D.str q,D.int .i64 z,D.int .i64 K,D.int .i64 M,D.int .i64 O,D.slc U V S,D.slc X Y W] false))::zn 117 []))
theorem oR(call:CL)(L:Nat)(C:Nat→Nat)(S a3:Nat)(q:Int)(U:ByteArray)(V W X Y:Int)(a0:Bool)(a1:Nat)(Z:List D)(a2:Bool)(M:Nat)(K:List D)(J:ByteArray)(z:Int):mN call L C S (a3+1) q U V W X Y a0 a1 Z a2 M K J z=
 (bH (decide (0≤q∧q<(M:Int)))
 (bu K (Int.toNat q*2+1) fun a7=>dr a7 fun _f ac _c=>bz (decide (z<(ac:Int)))
 (bH (!decide (((ByteArray.size J+1):Int)>9223372036854775807))
 (bH (decide (0≤q∧q<(M:Int)))
 (bu K (Int.toNat q*2+1) fun a8=>dr a8 fun _f_1 ad a5=>bH (decide (0≤z∧z<(ad:Int)))
 (bu a5 (Int.toNat z*2+0) fun a9=>bD .i64 a9 fun ah=>bB (call 128 [D.int .i64 ah]) fun af=>bU af fun O=>bH (!decide (((ByteArray.size (J++ByteArray.mk #[32])+ByteArray.size O):Int)>9223372036854775807))
 (bH (!decide (((ByteArray.size (J++ByteArray.mk #[32]++O)+1):Int)>9223372036854775807))
 (bH (decide (0≤q∧q<(M:Int)))
 (bu K (Int.toNat q*2+1) fun aa=>dr aa fun _f_2 ae a6=>bH (decide (0≤z∧z<(ae:Int)))
 (bu a6 (Int.toNat z*2+1) fun ab=>bD .i64 ab fun ai=>bB (call 128 [D.int .i64 ai]) fun ag=>bU ag fun a4=>bH (!decide (((ByteArray.size (J++ByteArray.mk #[32]++O++ByteArray.mk #[44])+ByteArray.size a4):Int)>9223372036854775807))
 (mN call L C S a3 q U V W X Y a0 a1 Z a2 M K (J++ByteArray.mk #[32]++O++ByteArray.mk #[44]++a4) (IntKind.wrap .i64 (z+1)))))))))))
 (bH (!decide (((ByteArray.size J+1):Int)>9223372036854775807))
 (mO call L C S U V W X Y a0 a1 Z a2 M K (J++ByteArray.mk #[10]) (IntKind.wrap .i64 (q+1)))))):=by kernel_rfl
theorem tP(call:CL)(L:Nat)(C:Nat→Nat)(M:Nat)(S:ByteArray)(U V W X:Int)(Z:Bool)(a0:Nat)(Y:List D)(a1:Bool)(J:Nat)(K:List D)(z:ByteArray)(q:Int):mO call L C (M+1) S U V W X Z a0 Y a1 J K z q=
 (bz (decide (q<(J:Int)))
 (bH (!decide (((ByteArray.size z+5):Int)>9223372036854775807))
 (bH (decide (0≤q∧q<(J:Int)))
 (bu K (Int.toNat q*2+0) fun a2=>bU a2 fun O=>bH (!decide (((ByteArray.size (z++ByteArray.mk #[97,114,101,97,32])+ByteArray.size O):Int)>9223372036854775807))
 (mN call L C M L q S U V W X Z a0 Y a1 J K (z++ByteArray.mk #[97,114,101,97,32]++O) 0))))
 (some (D.str z))):=by kernel_rfl
theorem we(call:CL)(L:Nat)(C:Nat→Nat)(n:Nat)(S:ByteArray)(U V W X:Int)(Y:Bool)(J:Nat)(M:List D)(a0:Bool)(a1:Nat)(Z:List D)(z:ByteArray)(q:Int):xT call L C (n+1) S U V W X Y J M a0 a1 Z z q=
 (bz (decide (q<(J:Int)))
 (bH (!decide (((ByteArray.size z+4):Int)>9223372036854775807))
 (bH (decide (0≤q∧q<(J:Int)))
 (bu M (Int.toNat q*2+0) fun d=>bD .i64 d fun x=>bB (call 128 [D.int .i64 x]) fun a3=>bU a3 fun K=>bH (!decide (((ByteArray.size (z++ByteArray.mk #[118,105,97,32])+ByteArray.size K):Int)>9223372036854775807))
 (bH (!decide (((ByteArray.size (z++ByteArray.mk #[118,105,97,32]++K)+1):Int)>9223372036854775807))
 (bH (decide (0≤q∧q<(J:Int)))
 (bu M (Int.toNat q*2+1) fun a2=>bD .i64 a2 fun a5=>bB (call 128 [D.int .i64 a5]) fun a4=>bU a4 fun O=>bH (!decide (((ByteArray.size (z++ByteArray.mk #[118,105,97,32]++K++ByteArray.mk #[32])+ByteArray.size O):Int)>9223372036854775807))
 (bH (!decide (((ByteArray.size (z++ByteArray.mk #[118,105,97,32]++K++ByteArray.mk #[32]++O)+1):Int)>9223372036854775807))
 (xT call L C n S U V W X Y J M a0 a1 Z (z++ByteArray.mk #[118,105,97,32]++K++ByteArray.mk #[32]++O++ByteArray.mk #[10]) (IntKind.wrap .i64 (q+1))))))))))
 (mO call L C L S U V W X Y J M a0 a1 Z z 0)):=by kernel_rfl
theorem Oh(call:CL)(L:Nat)(C:Nat→Nat)(q:ByteArray)(M O S U:Int)(W:Bool)(X:Nat)(V:List D)(Z:Bool)(a0:Nat)(Y:List D):bT (cF call L C) O0 Sj FinM.canon Tryz.f71 [D.agg [D.str q,D.int .i64 M,D.int .i64 O,D.int .i64 S,D.int .i64 U,D.slc W X V,D.slc Z a0 Y]]=
 (bH (!decide (((5+ByteArray.size q):Int)>9223372036854775807))
 (bH (!decide (((ByteArray.size (ByteArray.mk #[104,111,108,101,32]++q)+5):Int)>9223372036854775807))
 (bB (call 128 [D.int .i64 M]) fun r=>bU r fun s=>bH (!decide (((ByteArray.size (ByteArray.mk #[104,111,108,101,32]++q++ByteArray.mk #[10,116,101,101,32])+ByteArray.size s):Int)>9223372036854775807))
 (bH (!decide (((ByteArray.size (ByteArray.mk #[104,111,108,101,32]++q++ByteArray.mk #[10,116,101,101,32]++s)+1):Int)>9223372036854775807))
 (bB (call 128 [D.int .i64 O]) fun a1=>bU a1 fun z=>bH (!decide (((ByteArray.size (ByteArray.mk #[104,111,108,101,32]++q++ByteArray.mk #[10,116,101,101,32]++s++ByteArray.mk #[32])+ByteArray.size z):Int)>9223372036854775807))
 (bH (!decide (((ByteArray.size (ByteArray.mk #[104,111,108,101,32]++q++ByteArray.mk #[10,116,101,101,32]++s++ByteArray.mk #[32]++z)+5):Int)>9223372036854775807))
 (bB (call 128 [D.int .i64 S]) fun a2=>bU a2 fun J=>bH (!decide (((ByteArray.size (ByteArray.mk #[104,111,108,101,32]++q++ByteArray.mk #[10,116,101,101,32]++s++ByteArray.mk #[32]++z++ByteArray.mk #[10,99,117,112,32])+ByteArray.size J):Int)>9223372036854775807))
 (bH (!decide (((ByteArray.size (ByteArray.mk #[104,111,108,101,32]++q++ByteArray.mk #[10,116,101,101,32]++s++ByteArray.mk #[32]++z++ByteArray.mk #[10,99,117,112,32]++J)+1):Int)>9223372036854775807))
 (bB (call 128 [D.int .i64 U]) fun a3=>bU a3 fun K=>bH (!decide (((ByteArray.size (ByteArray.mk #[104,111,108,101,32]++q++ByteArray.mk #[10,116,101,101,32]++s++ByteArray.mk #[32]++z++ByteArray.mk #[10,99,117,112,32]++J++ByteArray.mk #[32])+ByteArray.size K):Int)>9223372036854775807))
 (bH (!decide (((ByteArray.size (ByteArray.mk #[104,111,108,101,32]++q++ByteArray.mk #[10,116,101,101,32]++s++ByteArray.mk #[32]++z++ByteArray.mk #[10,99,117,112,32]++J++ByteArray.mk #[32]++K)+1):Int)>9223372036854775807))
 (xT call L C L q M O S U W X V Z a0 Y (ByteArray.mk #[104,111,108,101,32]++q++ByteArray.mk #[10,116,101,101,32]++s++ByteArray.mk #[32]++z++ByteArray.mk #[10,99,117,112,32]++J++ByteArray.mk #[32]++K++ByteArray.mk #[10]) 0))))))))))):=by kernel_rfl
theorem Kz(call:CL)(L:Nat)(C:Nat→Nat)(q:Int):bT (cF call L C) O0 N0 FinM.canon Tryz.f128 [D.int .i64 q]=
 (bB (call 165 [D.int .i64 q]) fun r=>bU r fun s=>some (D.str s)):=by kernel_rfl
def Oi:bY:=fun p=>match p with
 |122=>some {keep:=[0,1,5,6,7],kl:=[33],ren:=[(25,25),(33,25)]}
 |_=>none
noncomputable def dX(call:CL)(L:Nat)(C:Nat→Nat)(n:Nat)(vs:ByteArray)(z:Int)(q:Ow)(K M:Int):Option D:=
 cw (cF call L C) O0 Oi FinM.canon Tryz.f133 (bt 6 23) [] n (St.mk (D.str vs::D.int IntKind.u8 z::J::J::J::jv 25 q::D.int .i64 K::D.int .i64 M::jn 26 []) (zn 25 (j5 9 1 q::zn 8 [])))
theorem kZ(call:CL)(L:Nat)(C:Nat→Nat)(n:Nat)(vs:ByteArray)(J z q:Int):dX call L C (n+1) vs J (Ow.nil) z q=
 (bz (decide (q<((ByteArray.size vs):Int)))
 (bH (decide (0≤q∧Int.toNat q<ByteArray.size vs))
 (bz (cA vs (Int.toNat q)==J)
 (bH (decide (0≤z∧z≤q∧q≤((ByteArray.size vs):Int)))
 (dX call L C n vs J (Ow.own 1 [D.str (ByteArray.extract vs (Int.toNat z) (Int.toNat q))]) (IntKind.wrap .i64 (q+1)) (IntKind.wrap .i64 (q+1))))
 (dX call L C n vs J (Ow.nil) z (IntKind.wrap .i64 (q+1)))))
 (bH (decide (0≤z∧z≤((ByteArray.size vs):Int)∧((ByteArray.size vs):Int)≤((ByteArray.size vs):Int)))
 (some (D.slc false 1 [D.str (ByteArray.extract vs (Int.toNat z) (Int.toNat ((ByteArray.size vs):Int)))])))):=by kernel_rfl
theorem k9(call:CL)(L:Nat)(C:Nat→Nat)(n:Nat)(vs:ByteArray)(K:Int)(J:Nat)(M:List D)(z q:Int):dX call L C (n+1) vs K (Ow.own J M) z q=
 (bz (decide (q<((ByteArray.size vs):Int)))
 (bH (decide (0≤q∧Int.toNat q<ByteArray.size vs))
 (bz (cA vs (Int.toNat q)==K)
 (bH (decide (0≤z∧z≤q∧q≤((ByteArray.size vs):Int)))
 (bH (decide ((J+1)*16≤limit∧J+1≤9223372036854775807))
 (dX call L C n vs K (Ow.own (J+1) (M++[D.str (ByteArray.extract vs (Int.toNat z) (Int.toNat q))])) (IntKind.wrap .i64 (q+1)) (IntKind.wrap .i64 (q+1)))))
 (dX call L C n vs K (Ow.own J M) z (IntKind.wrap .i64 (q+1)))))
 (bH (decide (0≤z∧z≤((ByteArray.size vs):Int)∧((ByteArray.size vs):Int)≤((ByteArray.size vs):Int)))
 (bH (decide ((J+1)*16≤limit∧J+1≤9223372036854775807))
 (some (D.slc false (J+1) (M++[D.str (ByteArray.extract vs (Int.toNat z) (Int.toNat ((ByteArray.size vs):Int)))])))))):=by kernel_rfl
theorem KA(call:CL)(L:Nat)(C:Nat→Nat)(vs:ByteArray)(q:Int):bT (cF call L C) O0 Oi FinM.canon Tryz.f133 [D.str vs,D.int IntKind.u8 q]=
 (dX call L C L vs q (Ow.nil) 0 0):=by kernel_rfl
def Oj:bY:=fun p=>match p with
 |26=>nm [0,3] [] []
 |_=>none
noncomputable def sc(call:CL)(L:Nat)(C:Nat→Nat)(n:Nat)(vs:ByteArray)(q:Int):Option D:=
 cw (cF call L C) O0 Oj FinM.canon Tryz.f332 [true,false,true,false] [] n (St.mk (D.str vs::J::J::D.int .i64 q::jn 16 []) (zn 20 []))
theorem tQ(call:CL)(L:Nat)(C:Nat→Nat)(n:Nat)(vs:ByteArray)(q:Int):sc call L C (n+1) vs q=
 (bz (decide (q<((ByteArray.size vs):Int)))
 (bH (decide (0≤q∧Int.toNat q<ByteArray.size vs))
 (bz (decide (cA vs (Int.toNat q)<48))
 (some (D.bool false))
 (bH (decide (0≤q∧Int.toNat q<ByteArray.size vs))
 (bz (decide (cA vs (Int.toNat q)>57))
 (some (D.bool false))
 (sc call L C n vs (IntKind.wrap .i64 (q+1)))))))
 (some (D.bool true))):=by kernel_rfl
theorem KB(call:CL)(L:Nat)(C:Nat→Nat)(vs:ByteArray):bT (cF call L C) O0 Oj FinM.canon Tryz.f332 [D.str vs]=
 (sc call L C L vs 0):=by kernel_rfl
theorem KC(call:CL)(L:Nat)(C:Nat→Nat)(vs:ByteArray):bT (cF call L C) O0 N0 FinM.canon Tryz.f318 [D.str vs]=
 (bz (((ByteArray.size vs):Int)==0)
 (some (D.bool false))
 (bz (decide (((ByteArray.size vs):Int)>1))
 (bH (decide ((0:Int)≤0∧0<ByteArray.size vs))
 (bz (cA vs 0==48)
 (some (D.bool false))
 (bB (call 332 [D.str vs]) fun r=>ce r fun b=>some (D.bool b))))
 (bB (call 332 [D.str vs]) fun z=>ce z fun q=>some (D.bool q)))):=by kernel_rfl
theorem xU(call:CL)(L:Nat)(C:Nat→Nat)(vs:ByteArray):bT (cF call L C) O0 N0 FinM.canon Tryz.f285 [D.str vs]=
 (bz (decide (((ByteArray.size vs):Int)>9))
 (some (D.tup [D.int .i64 0,D.bool false]))
 (bB (call 318 [D.str vs]) fun r=>ce r fun b=>bz (!b)
 (some (D.tup [D.int .i64 0,D.bool false]))
 (bB (call 215 [D.str vs]) fun q=>bD .i64 q fun x=>some (D.tup [D.int .i64 x,D.bool true])))):=by kernel_rfl
def ES:bY:=fun p=>match p with
 |13=>nm [0,13] [] []
 |_=>none
noncomputable def oS(call:CL)(L:Nat)(C:Nat→Nat)(vs:ByteArray)(q:Bool):Option D:=
 eL (cF call L C) O0 ES FinM.canon Tryz.f233 [true,false,true] [] (C 13) (St.mk (D.str vs::jn 12 (D.bool q::jn 17 [])) (zn 31 []))
theorem nJ(call:CL)(L:Nat)(C:Nat→Nat)(vs:ByteArray)(z:Bool)(hC:∀t,C t=1):oS call L C vs z=
 (bz z
 (bH (decide ((0:Int)≤1∧1≤((ByteArray.size vs):Int)∧((ByteArray.size vs):Int)≤((ByteArray.size vs):Int)))
 (bB (call 285 [D.str (ByteArray.extract vs 1 (Int.toNat ((ByteArray.size vs):Int)))]) fun r=>cy r 2 fun c=>bu c 0 fun d=>bD .i64 d fun x=>bu c 1 fun K=>ce K fun b=>bz b
 (some (D.tup [D.int .i64 (IntKind.wrap .i64 (0-x)),D.bool (decide (x>0))]))
 (some (D.tup [D.int .i64 (IntKind.wrap .i64 (0-x)),D.bool false]))))
 (bB (call 285 [D.str vs]) fun S=>cy S 2 fun q=>bu q 0 fun M=>bD .i64 M fun U=>bu q 1 fun O=>ce O fun J=>some (D.tup [D.int .i64 U,D.bool J]))):=by
 unfold oS;rw[hC]
 kernel_rfl
theorem sd(call:CL)(L:Nat)(C:Nat→Nat)(vs:ByteArray):bT (cF call L C) O0 ES FinM.canon Tryz.f233 [D.str vs]=
 (bz (decide (((ByteArray.size vs):Int)>1))
 (bH (decide ((0:Int)≤0∧0<ByteArray.size vs))
 (oS call L C vs (cA vs 0==45)))
 (oS call L C vs false)):=by kernel_rfl
theorem KD(call:CL)(L:Nat)(C:Nat→Nat)(vx vy:ByteArray):bT (cF call L C) O0 N0 FinM.canon Tryz.f190 [D.str vx,D.str vy]=
 (bB (call 233 [D.str vx]) fun r=>cy r 2 fun c=>bu c 0 fun d=>bD .i64 d fun x=>bu c 1 fun K=>ce K fun b=>bB (call 233 [D.str vy]) fun S=>cy S 2 fun q=>bu q 0 fun M=>bD .i64 M fun z=>bu q 1 fun O=>ce O fun J=>bz b
 (some (D.tup [D.agg [D.int .i64 x,D.int .i64 z],D.bool J]))
 (some (D.tup [D.agg [D.int .i64 x,D.int .i64 z],D.bool false]))):=by kernel_rfl
def Ol:bY:=fun p=>match p with
 |26=>nm [0,3] [] []
 |_=>none
noncomputable def se(call:CL)(L:Nat)(C:Nat→Nat)(n:Nat)(K:Bool)(M:Nat)(z:List D)(q:Int):Option D:=
 cw (cF call L C) O0 Ol FinM.canon Tryz.f188 [true,false,true,false] [] n (St.mk (D.slc K M z::J::J::D.int .i64 q::jn 11 []) (zn 15 []))
theorem tR(call:CL)(L:Nat)(C:Nat→Nat)(n:Nat)(K:Bool)(z:Nat)(J:List D)(q:Int):se call L C (n+1) K z J q=
 (bz (decide (q<(z:Int)))
 (bH (decide (0≤q∧q<(z:Int)))
 (bu J (Int.toNat q*1) fun d=>bU d fun s=>bz (ByteArray.toList s==ByteArray.toList (ByteArray.mk #[]))
 (some (D.bool false))
 (se call L C n K z J (IntKind.wrap .i64 (q+1)))))
 (some (D.bool true))):=by kernel_rfl
theorem KE(call:CL)(L:Nat)(C:Nat→Nat)(z:Bool)(J:Nat)(q:List D):bT (cF call L C) O0 Ol FinM.canon Tryz.f188 [D.slc z J q]=
 (se call L C L z J q 0):=by kernel_rfl
def Om:bY:=fun p=>match p with
 |58=>nm [0,2,4,5] [7] [2,4,7,45]
 |_=>none
def On:fX:=fun id=>match id with
 |8=>some {l:=some [0,1,2,3,4,5,6,7,8,9,10,11,12],ks:=[7]}
 |_=>none
noncomputable def fg(call:CL)(L:Nat)(C:Nat→Nat)(n:Nat)(O:Bool)(S:Nat)(M:List D)(z:Int)(K:ByteArray)(q:Ow):Option D:=
 cw (cF call L C) On Om FinM.canon Tryz.f189 (bt 5 11) [] n (St.mk (D.slc O S M::J::D.loc 2 0 0::J::D.loc 4 0 0::D.int .i64 z::jn 42 []) (Z::Z::(1,some (Ob.box [D.str (ByteArray.mk #[]),D.nils] false))::Z::(1,some (Ob.box [D.str K,jv 45 q] false))::zn 40 [j5 23 2 q,Z,Z]))
theorem jD(call:CL)(L:Nat)(C:Nat→Nat)(n:Nat)(U:Bool)(z:Nat)(M:List D)(q:Int)(K:ByteArray):fg call L C (n+1) U z M q K (Ow.nil)=
 (bz (decide (q<(z:Int)))
 (bH (decide (0≤q∧q<(z:Int)))
 (bu M (Int.toNat q*1) fun V=>bU V fun a3=>bB (call 133 [D.str a3,D.int IntKind.u8 44]) fun r=>dr r fun _f J c=>bz ((J:Int) !=2)
 (some (D.tup [D.agg [D.str (ByteArray.mk #[]),D.slc true 0 []],D.bool false]))
 (bH (decide ((0:Int)≤0∧0<(J:Int)))
 (bu c 0 fun W=>bU W fun a4=>bH (decide ((0:Int)≤1∧1<(J:Int)))
 (bu c 1 fun X=>bU X fun a5=>bB (call 190 [D.str a4,D.str a5]) fun a2=>cy a2 2 fun O=>bu O 0 fun Y=>dq Y 2 fun S=>bu S 0 fun Z=>bD .i64 Z fun x=>bu S 1 fun a0=>bD .i64 a0 fun a6=>bu O 1 fun a1=>ce a1 fun b=>bz (!b)
 (some (D.tup [D.agg [D.str (ByteArray.mk #[]),D.slc true 0 []],D.bool false]))
 (fg call L C n U z M (IntKind.wrap .i64 (q+1)) K (Ow.own 1 [D.int .i64 x,D.int .i64 a6])))))))
 (some (D.tup [D.agg [D.str K,D.slc true 0 []],D.bool true]))):=by kernel_rfl
theorem jE(call:CL)(L:Nat)(C:Nat→Nat)(n:Nat)(X:Bool)(J:Nat)(S:List D)(q:Int)(M:ByteArray)(z:Nat)(O:List D):fg call L C (n+1) X J S q M (Ow.own z O)=
 (bz (decide (q<(J:Int)))
 (bH (decide (0≤q∧q<(J:Int)))
 (bu S (Int.toNat q*1) fun a4=>bU a4 fun a8=>bB (call 133 [D.str a8,D.int IntKind.u8 44]) fun a6=>dr a6 fun _f_1 K U=>bz ((K:Int) !=2)
 (some (D.tup [D.agg [D.str (ByteArray.mk #[]),D.slc true 0 []],D.bool false]))
 (bH (decide ((0:Int)≤0∧0<(K:Int)))
 (bu U 0 fun a5=>bU a5 fun a9=>bH (decide ((0:Int)≤1∧1<(K:Int)))
 (bu U 1 fun Z=>bU Z fun aa=>bB (call 190 [D.str a9,D.str aa]) fun a7=>cy a7 2 fun V=>bu V 0 fun a0=>dq a0 2 fun W=>bu W 0 fun a1=>bD .i64 a1 fun ab=>bu W 1 fun a2=>bD .i64 a2 fun ac=>bu V 1 fun a3=>ce a3 fun Y=>bz (!Y)
 (some (D.tup [D.agg [D.str (ByteArray.mk #[]),D.slc true 0 []],D.bool false]))
 (bH (decide ((z+1)*16≤limit∧z+1≤9223372036854775807))
 (fg call L C n X J S (IntKind.wrap .i64 (q+1)) M (Ow.own (z+1) (O++[D.int .i64 ab,D.int .i64 ac])))))))))
 (some (D.tup [D.agg [D.str M,D.slc false z O],D.bool true]))):=by kernel_rfl
theorem KF(call:CL)(L:Nat)(C:Nat→Nat)(J:Bool)(z:Nat)(q:List D):bT (cF call L C) On Om FinM.canon Tryz.f189 [D.slc J z q]=
 (bH (decide ((0:Int)≤1∧1<(z:Int)))
 (bu q 1 fun d=>bU d fun s=>fg call L C L J z q 2 s (Ow.nil))):=by kernel_rfl
def GU:bY:=fun p=>match p with
 |63=>nm [1,3,6,8] [9,11] [3,6,9,11,57,60,105,108]
 |125=>nm [1,3,6,8,48] [9,11] [3,6,9,11,57,60,105,108]
 |2047=>some {keep:=[3,6,8,12],kl:=[9,11],ren:=[(3,3),(6,6),(9,9),(11,11),(57,57),(60,60),(105,105),(108,108)],fz:=[3]}
 |_=>none
def GV:fX:=fun id=>match id with
 |11=>some {fs:=[(54,54),(57,57),(60,60)]}
 |15=>some {l:=some [0,1,2,3,4,5,6,7,8,9,10,11,12],ks:=[11]}
 |18=>some {fs:=[(6,6)]}
 |21=>some {fs:=[(6,6)]}
 |22=>some {fs:=[(102,102),(105,105),(108,108)]}
 |23=>some {fs:=[(6,6)]}
 |_=>none
noncomputable def ko(call:CL)(L:Nat)(C:Nat→Nat)(a2:Bool)(a3:Nat)(a1:List D)(z:ByteArray)(K M O S:Int)(X:Bool)(Y:Nat)(W:List D)(a0:Bool)(V:Nat)(U q:List D):Option D:=
 eL (cF call L C) GV GU FinM.canon Tryz.f134 (bt 10 1023) [] (C 2047) (St.mk (J::J::J::D.loc 3 0 0::J::J::D.loc 6 0 0::J::D.slc a2 a3 a1::J::J::J::D.bool a0::jn 111 []) (Z::Z::Z::(1,some (Ob.box [D.str z,D.int .i64 K,D.int .i64 M,D.int .i64 O,D.int .i64 S,D.slc false V U,D.slc X Y W] false))::Z::Z::(1,some (Ob.box [D.str (ByteArray.mk #[]),D.int .i64 0,D.int .i64 0,D.int .i64 0,D.int .i64 0,D.nils,D.nils] false))::zn 101 ((1,some (Ob.arr 23 2 q true))::zn 15 [])))
noncomputable def sf(call:CL)(L:Nat)(C:Nat→Nat)(vi:Int)(a2:Bool)(a3:Nat)(a1:List D)(q:ByteArray)(z K M O:Int)(U:Bool)(V:Nat)(S:List D)(X:Bool)(Y:Nat)(W:List D):Option D:=
 eL (cF call L C) GV GU FinM.canon Tryz.f134 (bt 5 31) [] (C 63) (St.mk (J::D.int .i64 vi::J::D.loc 3 0 0::J::J::D.loc 6 0 0::J::D.slc a2 a3 a1::jn 115 []) (Z::Z::Z::(1,some (Ob.box [D.str q,D.int .i64 z,D.int .i64 K,D.int .i64 M,D.int .i64 O,D.slc U V S,D.slc X Y W] false))::Z::Z::(1,some (Ob.box [D.str (ByteArray.mk #[]),D.int .i64 0,D.int .i64 0,D.int .i64 0,D.int .i64 0,D.nils,D.nils] false))::zn 117 []))
noncomputable def jh(call:CL)(L:Nat)(C:Nat→Nat)(vi:Int)(z:ByteArray)(K M O S:Int)(V:Bool)(W:Nat)(U:List D)(Y:Bool)(a0:Nat)(X:List D)(a3:Bool)(a4:Nat)(a2:List D)(q:Bool):Option D:=
 eL (cF call L C) GV GU FinM.canon Tryz.f134 (bt 6 47) [] (C 125) (St.mk (J::D.int .i64 vi::J::D.loc 3 0 0::J::J::D.loc 6 0 0::J::D.slc a3 a4 a2::jn 39 (D.bool q::jn 75 [])) (Z::Z::Z::(1,some (Ob.box [D.str z,D.int .i64 K,D.int .i64 M,D.int .i64 O,D.int .i64 S,D.slc V W U,D.slc Y a0 X] false))::Z::Z::(1,some (Ob.box [D.str (ByteArray.mk #[]),D.int .i64 0,D.int .i64 0,D.int .i64 0,D.int .i64 0,D.nils,D.nils] false))::zn 117 []))
theorem xV(call:CL)(L:Nat)(C:Nat→Nat)(a3:Bool)(Z:Nat)(Y:List D)(z:ByteArray)(J K M O:Int)(W:Bool)(q:Nat)(V:List D)(X:Bool)(U:Nat)(S a2:List D)(hC:∀t,C t=1):ko call L C a3 Z Y z J K M O W q V X U S a2=
 (bz X
 (bH (decide ((0:Int)≤0∧0<(Z:Int)))
 (bu Y 0 fun a0=>bU a0 fun a1=>bz (ByteArray.toList a1==ByteArray.toList (ByteArray.mk #[118,105,97]))
 (some (D.tup [D.agg [D.str z,D.int .i64 J,D.int .i64 K,D.int .i64 M,D.int .i64 O,D.slc false U S,D.slc W q V],D.bool ((q:Int)==0)]))
 (some (D.tup [D.agg [D.str z,D.int .i64 J,D.int .i64 K,D.int .i64 M,D.int .i64 O,D.slc false U S,D.slc W q V],D.bool false]))))
 (some (D.tup [D.agg [D.str z,D.int .i64 J,D.int .i64 K,D.int .i64 M,D.int .i64 O,D.slc false U S,D.slc W q V],D.bool false]))):=by
 unfold ko;rw[hC]
 kernel_rfl
theorem Ca(call:CL)(L:Nat)(C:Nat→Nat)(vi:Int)(a3:Bool)(S:Nat)(V:List D)(J:ByteArray)(W X Y Z:Int)(a0:Bool)(q:Nat)(z:List D)(M:Bool)(O:Nat)(K:List D)(hC:∀t,C t=1):sf call L C vi a3 S V J W X Y Z a0 q z M O K=
 (bz ((S:Int) !=3)
 (some (D.tup [D.agg [D.str J,D.int .i64 W,D.int .i64 X,D.int .i64 Y,D.int .i64 Z,D.slc a0 q z,D.slc M O K],D.bool false]))
 (bH (decide ((0:Int)≤1∧1<(S:Int)))
 (bu V 1 fun ab=>bU ab fun af=>bH (decide ((0:Int)≤2∧2<(S:Int)))
 (bu V 2 fun ac=>bU ac fun ag=>bB (call 190 [D.str af,D.str ag]) fun ae=>cy ae 2 fun a4=>bu a4 0 fun ad=>dq ad 2 fun a5=>bu a5 0 fun a6=>bD .i64 a6 fun x=>bu a5 1 fun a7=>bD .i64 a7 fun U=>bu a4 1 fun a8=>ce a8 fun a1=>bz (vi==1)
 (bz a1
 (bH (decide ((0:Int)≤0∧0<(S:Int)))
 (bu V 0 fun a9=>bU a9 fun ah=>some (D.tup [D.agg [D.str J,D.int .i64 x,D.int .i64 U,D.int .i64 Y,D.int .i64 Z,D.slc a0 q z,D.slc M O K],D.bool (ByteArray.toList ah==ByteArray.toList (ByteArray.mk #[116,101,101]))])))
 (some (D.tup [D.agg [D.str J,D.int .i64 x,D.int .i64 U,D.int .i64 Y,D.int .i64 Z,D.slc a0 q z,D.slc M O K],D.bool false])))
 (bz (vi==2)
 (bz a1
 (bH (decide ((0:Int)≤0∧0<(S:Int)))
 (bu V 0 fun aa=>bU aa fun ai=>some (D.tup [D.agg [D.str J,D.int .i64 W,D.int .i64 X,D.int .i64 x,D.int .i64 U,D.slc a0 q z,D.slc M O K],D.bool (ByteArray.toList ai==ByteArray.toList (ByteArray.mk #[99,117,112]))])))
 (some (D.tup [D.agg [D.str J,D.int .i64 W,D.int .i64 X,D.int .i64 x,D.int .i64 U,D.slc a0 q z,D.slc M O K],D.bool false])))
 (bH (decide (List.length z=q*2))
 (bH (List.all z D.one)
 (bz (decide (q=0))
 (ko call L C a3 S V J W X Y Z M O K a1 1 ([D.int .i64 x,D.int .i64 U]) ([D.int .i64 x,D.int .i64 U]))
 (bH (decide (0<q∧0=0∧(0+q)*16≤limit∧0+q≤4611686018427387903))
 (bH (decide ((0+q+1)*16≤limit∧0+q+1≤9223372036854775807))
 (ko call L C a3 S V J W X Y Z M O K a1 (0+q+1) (z++[D.int .i64 x,D.int .i64 U]) (z++[D.int .i64 x,D.int .i64 U])))))))))))):=by
 unfold sf;rw[hC]
 kernel_rfl
theorem qT(call:CL)(L:Nat)(C:Nat→Nat)(vi:Int)(J:ByteArray)(K M O S:Int)(V:Bool)(W:Nat)(U:List D)(a8:Bool)(q:Nat)(z:List D)(Y:Bool)(Z:Nat)(X:List D)(a7:Bool)(hC:∀t,C t=1):jh call L C vi J K M O S V W U a8 q z Y Z X a7=
 (bz a7
 (bB (call 189 [D.slc Y Z X]) fun ae=>cy ae 2 fun a1=>bu a1 0 fun aa=>dq aa 2 fun a2=>bu a2 0 fun ab=>bU ab fun a6=>bu a2 1 fun ac=>dr ac fun a4 a5 a3=>bu a1 1 fun ad=>ce ad fun a0=>bH (decide (List.length z=q*2))
 (bH (List.all z D.one)
 (bz (decide (q=0))
 (some (D.tup [D.agg [D.str J,D.int .i64 K,D.int .i64 M,D.int .i64 O,D.int .i64 S,D.slc V W U,D.slc false 1 [D.str a6,D.slc a4 a5 a3]],D.bool a0]))
 (bH (decide (0<q∧0=0∧(0+q)*40≤limit∧0+q≤4611686018427387903))
 (bH (decide ((0+q+1)*40≤limit∧0+q+1≤9223372036854775807))
 (some (D.tup [D.agg [D.str J,D.int .i64 K,D.int .i64 M,D.int .i64 O,D.int .i64 S,D.slc V W U,D.slc false (0+q+1) (z++[D.str a6,D.slc a4 a5 a3])],D.bool a0])))))))
 (sf call L C vi Y Z X J K M O S V W U a8 q z)):=by
 unfold jh;rw[hC]
 kernel_rfl
theorem KG(call:CL)(L:Nat)(C:Nat→Nat)(X:ByteArray)(q z J K:Int)(O:Bool)(S:Nat)(M:List D)(V:Bool)(W:Nat)(U:List D)(Y:Int)(Z:ByteArray):bT (cF call L C) GV GU FinM.canon Tryz.f134 [D.agg [D.str X,D.int .i64 q,D.int .i64 z,D.int .i64 J,D.int .i64 K,D.slc O S M,D.slc V W U],D.int .i64 Y,D.str Z]=
 (bB (call 133 [D.str Z,D.int IntKind.u8 32]) fun r=>dr r fun f n c=>bB (call 188 [D.slc f n c]) fun a2=>ce a2 fun b=>bz (!b)
 (some (D.tup [D.agg [D.str X,D.int .i64 q,D.int .i64 z,D.int .i64 J,D.int .i64 K,D.slc O S M,D.slc V W U],D.bool false]))
 (bz (Y==0)
 (bz ((n:Int) !=2)
 (some (D.tup [D.agg [D.str X,D.int .i64 q,D.int .i64 z,D.int .i64 J,D.int .i64 K,D.slc O S M,D.slc V W U],D.bool false]))
 (bH (decide ((0:Int)≤0∧0<(n:Int)))
 (bu c 0 fun d=>bU d fun s=>bz (!ByteArray.toList s==ByteArray.toList (ByteArray.mk #[104,111,108,101]))
 (some (D.tup [D.agg [D.str X,D.int .i64 q,D.int .i64 z,D.int .i64 J,D.int .i64 K,D.slc O S M,D.slc V W U],D.bool false]))
 (bH (decide ((0:Int)≤1∧1<(n:Int)))
 (bu c 1 fun a0=>bU a0 fun a3=>some (D.tup [D.agg [D.str a3,D.int .i64 q,D.int .i64 z,D.int .i64 J,D.int .i64 K,D.slc O S M,D.slc V W U],D.bool true]))))))
 (bz (decide (Y>2))
 (bH (decide ((0:Int)≤0∧0<(n:Int)))
 (bu c 0 fun a1=>bU a1 fun a4=>bz (ByteArray.toList a4==ByteArray.toList (ByteArray.mk #[97,114,101,97]))
 (jh call L C Y X q z J K O S M V W U f n c (decide ((n:Int)≥2)))
 (jh call L C Y X q z J K O S M V W U f n c false)))
 (jh call L C Y X q z J K O S M V W U f n c false)))):=by kernel_rfl
def TI:bY:=fun p=>match p with
 |15=>nm [0,2] [6] [2,6]
 |506=>nm [2,5,6,8] [] [2,6]
 |_=>none
noncomputable def lc(call:CL)(L:Nat)(C:Nat→Nat)(q:Nat)(Y:Bool)(a0:Nat)(X:List D)(W:Int)(z:ByteArray)(K M O S:Int)(U:Ow)(V:Ow):Option D:=
 cw (cF call L C) O0 TI FinM.canon Tryz.f73 (bt 8 95) [] q (St.mk (J::J::D.loc 2 0 0::J::J::D.slc Y a0 X::D.loc 6 0 0::J::D.int .i64 W::jn 58 []) (Z::Z::(1,some (Ob.box [D.str (ByteArray.mk #[]),D.int .i64 0,D.int .i64 0,D.int .i64 0,D.int .i64 0,D.nils,D.nils] false))::Z::Z::Z::(1,some (Ob.box [D.str z,D.int .i64 K,D.int .i64 M,D.int .i64 O,D.int .i64 S,jv 0 U,jv 0 V] false))::zn 60 []))
noncomputable def Cb(call:CL)(L:Nat)(C:Nat→Nat)(vs:ByteArray):Option D:=
 eL (cF call L C) O0 TI FinM.canon Tryz.f73 [true,true,true] [] (C 15) (St.mk (D.str vs::J::D.loc 2 0 0::jn 64 []) (Z::Z::(1,some (Ob.box [D.str (ByteArray.mk #[]),D.int .i64 0,D.int .i64 0,D.int .i64 0,D.int .i64 0,D.nils,D.nils] false))::zn 64 []))
theorem xW(call:CL)(L:Nat)(C:Nat→Nat)(X:Nat)(Y:Bool)(J:Nat)(V:List D)(q:Int)(K:ByteArray)(M O S U:Int):lc call L C (X+1) Y J V q K M O S U (Ow.nil) (Ow.nil)=
 (bz (decide (q<(J:Int)))
 (bH (decide (0≤q∧q<(J:Int)))
 (bu V (Int.toNat q*1) fun d=>bU d fun s=>bB (call 134 [D.agg [D.str K,D.int .i64 M,D.int .i64 O,D.int .i64 S,D.int .i64 U,D.nils,D.nils],D.int .i64 q,D.str s]) fun af=>cy af 2 fun W=>bu W 0 fun a2=>dq a2 7 fun z=>bu z 0 fun a3=>bU a3 fun ah=>bu z 1 fun a4=>bD .i64 a4 fun x=>bu z 2 fun a5=>bD .i64 a5 fun ai=>bu z 3 fun a6=>bD .i64 a6 fun aj=>bu z 4 fun a7=>bD .i64 a7 fun ak=>bu z 5 fun a8=>dr a8 fun ab ad a0=>bu z 6 fun a9=>dr a9 fun ac ae a1=>bu W 1 fun aa=>ce aa fun b=>bz (!b)
 (some (D.tup [D.agg [D.str (ByteArray.mk #[]),D.int .i64 0,D.int .i64 0,D.int .i64 0,D.int .i64 0,D.slc true 0 [],D.slc true 0 []],D.int .i64 (IntKind.wrap .i64 (q+1)),D.int .i64 25]))
 (lc call L C X Y J V (IntKind.wrap .i64 (q+1)) ah x ai aj ak (Ow.slc ab ad a0) (Ow.slc ac ae a1))))
 (bz (decide ((J:Int)<3))
 (some (D.tup [D.agg [D.str (ByteArray.mk #[]),D.int .i64 0,D.int .i64 0,D.int .i64 0,D.int .i64 0,D.slc true 0 [],D.slc true 0 []],D.int .i64 (IntKind.wrap .i64 ((J:Int)+1)),D.int .i64 25]))
 (bB (call 18 [D.agg [D.str K,D.int .i64 M,D.int .i64 O,D.int .i64 S,D.int .i64 U,D.nils,D.nils]]) fun ag=>bD .i64 ag fun Z=>bz (Z !=0)
 (some (D.tup [D.agg [D.str (ByteArray.mk #[]),D.int .i64 0,D.int .i64 0,D.int .i64 0,D.int .i64 0,D.slc true 0 [],D.slc true 0 []],D.int .i64 0,D.int .i64 Z]))
 (some (D.tup [D.agg [D.str K,D.int .i64 M,D.int .i64 O,D.int .i64 S,D.int .i64 U,D.slc true 0 [],D.slc true 0 []],D.int .i64 0,D.int .i64 0]))))):=by kernel_rfl
theorem oT(call:CL)(L:Nat)(C:Nat→Nat)(a3:Nat)(a4:Bool)(J:Nat)(a1:List D)(q:Int)(K:ByteArray)(M O S U:Int)(W:Bool)(X:Nat)(V:List D)(Z:Bool)(a0:Nat)(Y:List D):lc call L C (a3+1) a4 J a1 q K M O S U (Ow.slc W X V) (Ow.slc Z a0 Y)=
 (bz (decide (q<(J:Int)))
 (bH (decide (0≤q∧q<(J:Int)))
 (bu a1 (Int.toNat q*1) fun a9=>bU a9 fun ap=>bB (call 134 [D.agg [D.str K,D.int .i64 M,D.int .i64 O,D.int .i64 S,D.int .i64 U,D.slc W X V,D.slc Z a0 Y],D.int .i64 q,D.str ap]) fun an=>cy an 2 fun a2=>bu a2 0 fun aa=>dq aa 7 fun z=>bu z 0 fun ab=>bU ab fun aq=>bu z 1 fun ac=>bD .i64 ac fun ar=>bu z 2 fun ad=>bD .i64 ad fun au=>bu z 3 fun ae=>bD .i64 ae fun av=>bu z 4 fun af=>bD .i64 af fun aw=>bu z 5 fun ag=>dr ag fun aj am a7=>bu z 6 fun ah=>dr ah fun ak al a8=>bu a2 1 fun ai=>ce ai fun a6=>bz (!a6)
 (some (D.tup [D.agg [D.str (ByteArray.mk #[]),D.int .i64 0,D.int .i64 0,D.int .i64 0,D.int .i64 0,D.slc true 0 [],D.slc true 0 []],D.int .i64 (IntKind.wrap .i64 (q+1)),D.int .i64 25]))
 (lc call L C a3 a4 J a1 (IntKind.wrap .i64 (q+1)) aq ar au av aw (Ow.slc aj am a7) (Ow.slc ak al a8))))
 (bz (decide ((J:Int)<3))
 (some (D.tup [D.agg [D.str (ByteArray.mk #[]),D.int .i64 0,D.int .i64 0,D.int .i64 0,D.int .i64 0,D.slc true 0 [],D.slc true 0 []],D.int .i64 (IntKind.wrap .i64 ((J:Int)+1)),D.int .i64 25]))
 (bB (call 18 [D.agg [D.str K,D.int .i64 M,D.int .i64 O,D.int .i64 S,D.int .i64 U,D.slc W X V,D.slc Z a0 Y]]) fun ao=>bD .i64 ao fun a5=>bz (a5 !=0)
 (some (D.tup [D.agg [D.str (ByteArray.mk #[]),D.int .i64 0,D.int .i64 0,D.int .i64 0,D.int .i64 0,D.slc true 0 [],D.slc true 0 []],D.int .i64 0,D.int .i64 a5]))
 (some (D.tup [D.agg [D.str K,D.int .i64 M,D.int .i64 O,D.int .i64 S,D.int .i64 U,D.slc W X V,D.slc Z a0 Y],D.int .i64 0,D.int .i64 0]))))):=by kernel_rfl
theorem ET(call:CL)(L:Nat)(C:Nat→Nat)(vs:ByteArray)(hC:∀t,C t=1):Cb call L C vs=
 (bH (decide (0≤(0:Int)∧(0:Int)≤IntKind.wrap .i64 (((ByteArray.size vs):Int)-1)∧IntKind.wrap .i64 (((ByteArray.size vs):Int)-1)≤((ByteArray.size vs):Int)))
 (bB (call 133 [D.str (ByteArray.extract vs 0 (Int.toNat (IntKind.wrap .i64 (((ByteArray.size vs):Int)-1)))),D.int IntKind.u8 10]) fun r=>dr r fun f q c=>lc call L C L f q c 0 (ByteArray.mk #[]) 0 0 0 0 (Ow.nil) (Ow.nil))):=by
 unfold Cb;rw[hC]
 kernel_rfl
theorem Oo(call:CL)(L:Nat)(C:Nat→Nat)(vs:ByteArray):bT (cF call L C) O0 TI FinM.canon Tryz.f73 [D.str vs]=
 (bz (decide (((ByteArray.size vs):Int)>4096))
 (some (D.tup [D.agg [D.str (ByteArray.mk #[]),D.int .i64 0,D.int .i64 0,D.int .i64 0,D.int .i64 0,D.slc true 0 [],D.slc true 0 []],D.int .i64 0,D.int .i64 26]))
 (bz (ByteArray.toList vs==ByteArray.toList (ByteArray.mk #[]))
 (some (D.tup [D.agg [D.str (ByteArray.mk #[]),D.int .i64 0,D.int .i64 0,D.int .i64 0,D.int .i64 0,D.slc true 0 [],D.slc true 0 []],D.int .i64 0,D.int .i64 28]))
 (bH (decide (0≤IntKind.wrap .i64 (((ByteArray.size vs):Int)-1)∧Int.toNat (IntKind.wrap .i64 (((ByteArray.size vs):Int)-1))<ByteArray.size vs))
 (bz (cA vs (Int.toNat (IntKind.wrap .i64 (((ByteArray.size vs):Int)-1))) !=10)
 (some (D.tup [D.agg [D.str (ByteArray.mk #[]),D.int .i64 0,D.int .i64 0,D.int .i64 0,D.int .i64 0,D.slc true 0 [],D.slc true 0 []],D.int .i64 0,D.int .i64 28]))
 (Cb call L C vs))))):=by kernel_rfl
end Go.Pd
end
section
namespace Go.Pd
open Go Go.Proofs Go.RowKit Go.Shelf
set_option maxRecDepth 100000
def yQ(l:List UInt8):List D:=l.map fun x=>D.int .u8 (x.toNat:Int)
structure BufAt(e:TypeId)(w:World)(g cap n:Nat)(xs:List Value)(cur:Array Value):Prop where
 at_:w.heap[g]?=some (.cells cur e (0,0))
 le:n≤cap
 cm:cap≤maxLen
 sz:cur.size=cap
 tk:cur.toList.take n=xs
 ln:xs.length=n
theorem BufAt.own{e:TypeId}{w:World}{g cap n:Nat}{xs:List Value}{cur:Array Value}(h:BufAt e w g cap n xs cur):w.ownsRow 0 e 1 (.slice (some ⟨g,0,none⟩) n cap) n xs:=
 ⟨by rw[Nat.mul_one];exact h.ln,.inr ⟨g,cap,cur,rfl,Nat.zero_le _,h.at_,h.le,h.cm,by rw[Nat.mul_one];exact h.sz,by rw[Nat.mul_one];exact h.tk⟩⟩
theorem KH{P:Program}(w:World){t u e:TypeId}(ty:TypeId){i0:TypeInfo}(ht:P.underlying t=some (.slice e))(hu:P.underlying u=some .string)(hi:P.info? e=some i0)(hz0:i0.zero=some (.int .u8 0))(hz1:i0.size=1)(hz2:i0.bytes=1){v:Value}{n:Nat}{xs:List Value}(s:ByteArray)(hv:(v= .slice none 0 0∧n=0∧xs=[])∨∃g cap cur,v= .slice (some ⟨g,0,none⟩) n cap∧BufAt e w g cap n xs cur)(hb:n+s.size≤140737488355328)(h0:0<n+s.size):
  ∃g cap cur w',(Builtin.append_ #[t,u] ty #[v,.string s]).run P w= .ok (.slice (some ⟨g,0,none⟩) (n+s.size) cap) w'∧BufAt e w' g cap (n+s.size) (xs++Lib.strCells s) cur∧w.grownBy w' v.ownBlock∧(v.ownBlock=some g∨w.heap.size≤g):=by
 have h63:n+s.size≤maxLen:=by unfold maxLen;omega
 have form:∀(base:Nat) (v':Value) (w':World),w'.ownsRow base e 1 v' (n+s.size) (xs++Lib.strCells s)→∃g cap cur,v'= .slice (some ⟨g,0,none⟩) (n+s.size) cap∧BufAt e w' g cap (n+s.size) (xs++Lib.strCells s) cur∧base≤g:=fun base v' w' h=>by
  rcases h.2 with⟨_,hz⟩|⟨g,cap,cur,q1,q2,q3,q4,q5,q6,q7⟩
  ·omega
  ·exact⟨g,cap,cur,q1,⟨q3,q4,q5,by rw[Nat.mul_one] at q6;exact q6,by rw[Nat.mul_one] at q7;exact q7,by have:=h.1;rw[Nat.mul_one] at this;exact this⟩,q2⟩
 rcases hv with⟨rfl,rfl,rfl⟩|⟨g,cap,cur,rfl,hB⟩
 ·obtain⟨v',w',h1,h2,h3,_⟩:=Lib.run_append_own_string (P:=P) w w.heap.size t u ty e i0 ht hu hi hz0 hz1 hz2 _ 0 [] (World.ownsRow_nil _ _ _ _) s h63 hb (zb0 _);obtain⟨g,cap,cur,rfl,q1,q2⟩:=form _ _ _ h2;exact⟨g,cap,cur,w',h1,q1,h3,.inr q2⟩
 ·obtain⟨v',w',h1,h2,h3,_⟩:=Lib.run_append_own_string (P:=P) w 0 t u ty e i0 ht hu hi hz0 hz1 hz2 _ n xs hB.own s h63 hb (Nat.zero_le _);obtain⟨g',cap',cur',rfl,q1,q2⟩:=form _ _ _ h2;refine⟨g',cap',cur',w',h1,q1,h3,?_⟩;by_cases hr:n+s.size≤cap
  ·have:=Lib.run_append_room_string (P:=P) w t u ty e i0 ht hu hi hz1 g n cap cur hB.at_ s hr (by rw[hB.sz];exact hr);rw[this] at h1;simp only[Result.ok.injEq,Value.slice.injEq,za0,Addr.mk.injEq] at h1;left;show some g=some g';rw[h1.1.1.1]
  ·have:=Lib.run_append_grow_string (P:=P) w t u ty e i0 (.int .u8 0) ht hu hi hz0 ⟨g,0,none⟩ n cap xs (by rw[hz1,Nat.mul_one];exact hB.ln) (fun j u hu=>hB.own.cells (g:=g) rfl j u hu) s (by omega) (by omega) (by rw[hz2];exact growslice_fits (by have:=hB.le;omega) (by omega));rw[this] at h1;simp only[Result.ok.injEq,Value.slice.injEq,za0,Addr.mk.injEq] at h1;exact .inr (by rw[←h1.1.1.1];exact zb0 _)
structure Same2(v0:Value)(w0:World)(v:Value)(w:World):Prop where
 v:v=v0
 w:w=w0
theorem Cc{P:Program}{ops:Array Oper}{rest:List Oper}{o:Oper}{a:Act}{w:World}{Q:Exit→Act→World→Prop}(hgd:o.guard=none)(sl x:Operand)(t u:TypeId)
  (ho:o.op= .call {callee:= .builtin .append,args:= #[sl,x],argTypes:= #[t,u]}) {v:Value} {s:ByteArray} (hs:a.eval sl=v) (hx:a.eval x= .string s) {v':Value} {w':World}
  (hr:(Builtin.append_ #[t,u] o.type #[v,.string s]).run P w= .ok v' w') (h:∀v2 w2,Same2 v' w' v2 w2→wpList P ops Q rest (a.put o.dst v2) w2):wpList P ops Q (o::rest) a w:=by
 refine wpList_plain hgd fun K hK=> ?_;unfold Oper.wp execOp;simp only[ho,resolve,invoke,builtin,Sem.run_bind,Sem.run_pure,Result.andThen_ok,List.map_toArray,List.map_cons,List.map_nil,hs,hx,hr];exact hK _ _ (h _ _ ⟨rfl,rfl⟩)
theorem zM{w:World}{b j:Nat}{c:Array Value}{e:TypeId}(v:Value)(h:w.heap[b]?=some (.cells c e (0,0))):(w.setCell ⟨b,j,none⟩ v).heap[b]?=some (.cells (c.setIfInBounds j v) e (0,0)):=by
 simp[World.setCell,Array.getElem?_modify,h]
theorem mb{w:World}{b j z:Nat}(v:Value)(h:z≠b):(w.setCell ⟨b,j,none⟩ v).heap[z]?=w.heap[z]?:=Below.heap_setCell _ _ _ _ h
theorem Cd{P:Program}{ρ:Ren}(L:Lays.n240 P ρ)(X:Builder.X72 P ρ)(w:World)(b:Nat)(e:TypeId)(p0 v:Value)(hbk:w.heap[b]?=some (.cells #[p0,v] e (0,0)))(hp:p0= .pointer (some ⟨b,0,none⟩)∨(p0= .pointer none∧e=ρ.t 72)):
  Calls P (ρ.f 240) #[.pointer (some ⟨b,0,none⟩)] w fun en w1=>en= .returned (.tuple #[])∧w1.heap[b]?=some (.cells #[.pointer (some ⟨b,0,none⟩),v] e (0,0))∧(∀z,z≠b→w1.heap[z]?=w.heap[z]?)∧w1.heap.size=w.heap.size∧w1.os=w.os∧w1.tape=w.tape∧w1.output=w.output:=by
 rcases hp with rfl|⟨rfl,rfl⟩
 ·refine(Any.Builder_copyCheck_used L X b _ (by rw[Lib.cell_of_heap hbk];rfl)).mono ?_
  rintro en w' ⟨rfl,rfl⟩
  exact⟨rfl,hbk,fun _ _=>rfl,rfl,rfl,rfl,rfl⟩
 ·refine(Any.Builder_copyCheck_fresh L X b _ (by rw[Lib.cell_of_heap hbk];rfl) (by simp[World.shape?,hbk]) (Lib.frozen_of_heap hbk 0)).mono ?_
  rintro en w' ⟨rfl,rfl⟩
  exact⟨rfl,by rw[zM _ hbk];rfl,fun z hz=>mb _ hz,by simp[World.setCell],rfl,rfl,rfl⟩
set_option maxHeartbeats 2000000 in
theorem tS{P:Program}{ρ:Ren}(L:Lays.n166 P ρ)(X:Builder.Extra P ρ)(w:World)(b:Nat)(e:TypeId)(p0 v:Value)(n:Nat)(xs:List Value)(s:ByteArray)(hbk:w.heap[b]?=some (.cells #[p0,v] e (0,0)))(hp:p0= .pointer (some ⟨b,0,none⟩)∨(p0= .pointer none∧e=ρ.t 72))
  (hv:(v= .slice none 0 0∧n=0∧xs=[])∨∃g cap cur,v= .slice (some ⟨g,0,none⟩) n cap∧BufAt (ρ.t 5) w g cap n xs cur∧g≠b) (hlen:n+s.size≤140737488355328) (h0:0<n+s.size):
  Calls P (ρ.f 166) #[.pointer (some ⟨b,0,none⟩),.string s] w fun en w'=>en= .returned (.tuple #[.int .i64 s.size,.nilIface])∧∃g cap cur,w'.heap[b]?=some (.cells #[.pointer (some ⟨b,0,none⟩),.slice (some ⟨g,0,none⟩) (n+s.size) cap] e (0,0))∧BufAt (ρ.t 5) w' g cap (n+s.size) (xs++Lib.strCells s) cur∧g≠b∧(v.ownBlock=some g∨w.heap.size≤g)∧
   w.heap.size≤w'.heap.size∧(∀z,z<w.heap.size→z≠b→some z≠v.ownBlock→w'.heap[z]?=w.heap[z]?)∧w'.os=w.os∧w'.tape=w.tape∧w'.output=w.output:=by
 obtain⟨i0,hi,hz0,hz1,hz2⟩:=info_parts X.infoByte;have mixed:=L.mixed;have t72:=L.t72;have a72:=L.a72;have z72:=L.z72;have v72:=L.v72;have u72:=run_underlying L.t72;have t70:=L.t70;have a70:=L.a70;have z70:=L.z70;have v70:=L.v70;have u70:=run_underlying L.t70;have t37:=L.t37;have a37:=L.a37;have z37:=L.z37;have v37:=L.v37;have u37:=run_underlying L.t37;have t3:=L.t3;have a3:=L.a3;have z3:=L.z3;have v3:=L.v3;have u3:=run_underlying L.t3;have t9:=L.t9;have a9:=L.a9;have z9:=L.z9;have v9:=L.v9;have u9:=run_underlying L.t9;have t4:=L.t4;have a4:=L.a4;have z4:=L.z4;have v4:=L.v4;have u4:=run_underlying L.t4;have t164:=L.t164;have a164:=L.a164;have z164:=L.z164;have v164:=L.v164;have u164:=run_underlying L.t164;have e240:∀args w,(callFunc (ρ.f 240) args).run P w= .ok (.enter (ρ.f 240) args) w:=enters_of L.f240 (by kernel_rfl) rfl;have hbs:b<w.heap.size:=(zc0.1 hbk).1
 go_enter L.f166,Body.n166_ntmps ρ
 go_wp2_with (go_at_fn (ρ.f 240);refine(Cd {L with} X.toX72 w b e p0 v hbk hp).mono ?_)
 rintro en w1 ⟨rfl,hb1,ho1,hs1,k1,k2,k3⟩
 have c0:w1.cell? ⟨b,0,none⟩=some (.pointer (some ⟨b,0,none⟩)):=by rw[Lib.cell_of_heap hb1];rfl
 have c1:w1.cell? ⟨b,1,none⟩=some v:=by rw[Lib.cell_of_heap hb1];rfl
 have hv1:(v= .slice none 0 0∧n=0∧xs=[])∨∃g cap cur,v= .slice (some ⟨g,0,none⟩) n cap∧BufAt (ρ.t 5) w1 g cap n xs cur:=hv.imp id fun⟨g,cap,cur,q1,q2,q3⟩=>⟨g,cap,cur,q1,by rw[ho1 g q3];exact q2.at_,q2.le,q2.cm,q2.sz,q2.tk,q2.ln⟩;have hvb:v.ownBlock≠some b:=by
  rcases hv with⟨rfl,_⟩|⟨g,cap,cur,rfl,_,q3⟩
  ·intro h;cases h
  ·intro h;exact q3 (Option.some.inj h)
 obtain⟨g,cap,cur,w2,hrun,hB2,hgr,hwhere⟩:=KH w1 (ρ.t 37) L.t37 L.t9 hi hz0 hz1 hz2 s hv1 hlen h0
 go_wp2_with (at_builtin;refine Cc rfl _ _ (ρ.t 37) (ρ.t 9) rfl rfl rfl hrun ?_)
 rintro v2 w3 ⟨rfl,rfl⟩
 have hgb:g≠b:=by
  rcases hwhere with h|h
  ·intro e1;subst e1;exact hvb h
  ·omega
 have hb2:w3.heap[b]?=some (.cells #[.pointer (some ⟨b,0,none⟩),v] e (0,0)):=by rw[hgr.block b (by omega) (fun h=>hvb h.symm)];exact hb1
 have d0:w3.cell? ⟨b,0,none⟩=some (.pointer (some ⟨b,0,none⟩)):=by rw[Lib.cell_of_heap hb2];rfl
 have d1:w3.cell? ⟨b,1,none⟩=some v:=by rw[Lib.cell_of_heap hb2];rfl
 have f1:w3.frozen? ⟨b,1,none⟩=false:=Lib.frozen_of_heap hb2 1
 go_wp2
 go_ret2
 refine⟨rfl,g,cap,cur,by rw[zM _ hb2];rfl,⟨by rw[mb _ hgb];exact hB2.at_,hB2.le,hB2.cm,hB2.sz,hB2.tk,hB2.ln⟩,hgb,hwhere.imp id fun h=>by omega,by simp[World.setCell];have:=hgr.size;omega,fun z z1 z2 z3=> ?_,hgr.os.trans k1,hgr.tape.trans k2,hgr.output.trans k3⟩;rw[mb _ z2,hgr.block z (by omega) z3,ho1 z z2]
theorem EU(w:World)(g n:Nat){o z:Nat}(h:z≠g):(w.freeze ⟨g,o,none⟩ n).heap[z]?=w.heap[z]?:=by
 unfold World.freeze;split
 ·rfl
 ·simp[Array.getElem?_modify,Ne.symm h]
theorem qU(w:World)(g n:Nat){o:Nat}:(w.freeze ⟨g,o,none⟩ n).heap.size=w.heap.size∧(w.freeze ⟨g,o,none⟩ n).os=w.os∧(w.freeze ⟨g,o,none⟩ n).tape=w.tape∧(w.freeze ⟨g,o,none⟩ n).output=w.output:=by
 unfold World.freeze;split
 ·exact⟨rfl,rfl,rfl,rfl⟩
 ·exact⟨by simp,rfl,rfl,rfl⟩
set_option maxHeartbeats 1000000 in
theorem zN{P:Program}{ρ:Ren}(L:Lays.n169 P ρ)(X:Builder.Extra P ρ)(w:World)(b:Nat)(e:TypeId)(p0:Value)(l:List UInt8)(h0:l≠[])(g cap:Nat)(cur:Array Value)(hbk:w.heap[b]?=some (.cells #[p0,.slice (some ⟨g,0,none⟩) l.length cap] e (0,0)))(hB:BufAt (ρ.t 5) w g cap l.length (Lib.byteCells l) cur):
  Calls P (ρ.f 169) #[.pointer (some ⟨b,0,none⟩)] w fun en w'=>en= .returned (.string ⟨l.toArray⟩)∧(∀z,z≠g→w'.heap[z]?=w.heap[z]?)∧w'.heap.size=w.heap.size∧w'.os=w.os∧w'.tape=w.tape∧w'.output=w.output:=by
 have hl0:l.length≠0:=by simpa using h0
 have c1:w.drew.cell? ⟨b,1,none⟩=some (.slice (some ⟨g,0,none⟩) l.length cap):=by
  have:w.drew.heap[b]?=some (.cells #[p0,.slice (some ⟨g,0,none⟩) l.length cap] e (0,0)):=hbk;rw[Lib.cell_of_heap this];rfl
 have hle:=hB.le;have hcm:=hB.cm;have hsz:=hB.sz;have hSD:(Builtin.unsafeSliceData_ #[(ρ.t 37)] (ρ.t 127) #[.slice (some ⟨g,0,none⟩) l.length cap]).run P w.drew= .ok (.pointer (some ⟨g,0,none⟩)) w.drew:=
  Lib.run_unsafeSliceData_row _ _ _ _ _ _ (by omega)
 have hUS:(Builtin.unsafeString_ #[(ρ.t 127),(ρ.t 3)] (ρ.t 9) #[.pointer (some ⟨g,0,none⟩),.int .i64 l.length]).run P w.drew= .ok (.string ⟨l.toArray⟩) (w.drew.freeze ⟨g,0,none⟩ l.length):=by
  refine Lib.run_unsafeString_row w.drew (ρ.t 127) (ρ.t 3) (ρ.t 9) (ρ.t 5) L.t127 X.cellsByte g cur.size (by have hg':w.drew.heap[g]?=some (.cells cur (ρ.t 5) (0,0)):=hB.at_;simp[World.shape?,hg']) l h0 (by omega) (by unfold maxLen at hcm;omega) ?_;intro j x hx;exact hB.own.cells (g:=g) rfl j (.int .u8 x.toNat) (by simp[Lib.byteCells,hx])
 have mixed:=L.mixed;have t72:=L.t72;have a72:=L.a72;have z72:=L.z72;have v72:=L.v72;have u72:=run_underlying L.t72;have t70:=L.t70;have a70:=L.a70;have z70:=L.z70;have v70:=L.v70;have u70:=run_underlying L.t70;have t37:=L.t37;have a37:=L.a37;have z37:=L.z37;have v37:=L.v37;have u37:=run_underlying L.t37;have t127:=L.t127;have a127:=L.a127;have z127:=L.z127;have v127:=L.v127;have u127:=run_underlying L.t127;have t3:=L.t3;have a3:=L.a3;have z3:=L.z3;have v3:=L.v3;have u3:=run_underlying L.t3;have t9:=L.t9;have a9:=L.a9;have z9:=L.z9;have v9:=L.v9;have u9:=run_underlying L.t9;have t5:=X.t5;have a5:=X.a5;have z5:=X.z5;have v5:=X.v5;have u5:=run_underlying X.t5;have fr:=qU w.drew g l.length (o:=0)
 go_enter L.f169,Body.n169_ntmps ρ
 go_wp2
 go_region_o
 all_goals (go_wp2;go_ret;exact⟨rfl,fun z hz=>(EU w.drew g l.length hz),fr⟩)
theorem KI{cur:Array Value}{n:Nat}{l:List UInt8}{I:Nat→Prop}{w:World}(h:cur.toList.take n=l.map fun x=>Value.int .u8 x.toNat):∀(j:Nat) (d:D) (v:Value),(yQ l)[j]?=some d→cur[j]?=some v→RelC I w d v:=by
 intro j d v hd hv;unfold yQ at hd;rw[zc3] at hd;cases hx:l[j]? with
 |none=>rw[hx] at hd;cases hd
 |some x=>
  rw[hx] at hd;cases hd;have h1:(cur.toList.take n)[j]?=some (.int .u8 x.toNat):=by rw[h,zc3,hx];rfl
  rw[List.getElem?_take] at h1;split at h1
  ·rw[Array.getElem?_toList,hv] at h1;cases h1;exact .int _ _
  ·cases h1
theorem zO{n:Nat}{c:Array Value}{l:List UInt8}{I:Nat→Prop}{w:World}(hn:n=l.length)(hc:n≤c.size)(h:∀(j:Nat) (d:D) (v:Value),(yQ l)[j]?=some d→c[j]?=some v→RelC I w d v):c.toList.take n=l.map fun x=>Value.int .u8 x.toNat:=by
 subst hn;apply List.ext_getElem?;intro j;by_cases hj:j<l.length
 ·rw[List.getElem?_take_of_lt hj,zc3,zd5 hj];have hcj:j<c.size:=by omega
  have h1:=h j (.int .u8 l[j].toNat) c[j] (by unfold yQ;rw[zc3,zd5 hj];rfl) (by simp[hcj]);rw[Array.getElem?_toList,Array.getElem?_eq_getElem hcj];have:=h1.toV (u:= .int .u8 l[j].toNat) rfl;rw[this];rfl
 ·rw[zd6 (by simp;omega),zd6 (by simp;omega)]
theorem kq{c:Array Value}(h:2=c.size):∃p v,c= #[p,v]:=⟨c[0],c[1],by apply Array.ext;exact h.symm;intro i h1 h2;match i,h2 with|0,_=>rfl|1,_=>rfl⟩
theorem GW{ow:List (Option Gh)}(h:ow.length=2):∃a b,ow=[a,b]:=by
 match ow,h with
 |[a,b],_=>exact⟨a,b,rfl⟩
theorem zP{vs:Array Value}{p:Value}{s:ByteArray}{I:Nat→Prop}{w:World}{x:D}(hl:2=vs.size)(hv:vs[0]?=some p)(hr:∀(j:Nat) (d:D) (v:Value),j≠0→[x,D.str s][j]?=some d→vs[j]?=some v→RelC I w d v):vs= #[p,.string s]:=by
 obtain⟨a,b,rfl⟩:=kq hl;obtain rfl:a=p:=Option.some.inj hv;have:=(hr 1 (.str s) b (by decide) rfl rfl).toV (u:= .string s) rfl;rw[this]
theorem DM{I:Nat→Prop}{w w':World}{b e g cap n k:Nat}{p0 v:Value}{cur:Array Value}{ow:List (Option Gh)}{l:List UInt8}(hI:∀x,I x→x<w.heap.size)(_:¬I b)(hn:n=l.length)(hv:∀q,v.ownBlock=some q→∃y,some y∈ow∧y.b=q)(how:∀x,some x∈ow→¬I x.b)
  (h1:w'.heap[b]?=some (.cells #[.pointer (some ⟨b,0,none⟩),.slice (some ⟨g,0,none⟩) n cap] e (0,0))) (h2:BufAt 5 w' g cap n (l.map fun x=>Value.int .u8 x.toNat) cur) (h3:g≠b) (h4:v.ownBlock=some g∨w.heap.size≤g) (h5:w.heap.size≤w'.heap.size)
  (h6:∀z,z<w.heap.size→z≠b→some z≠v.ownBlock→w'.heap[z]?=w.heap[z]?) (h7:w'.os=w.os∧w'.tape=w.tape∧w'.output=w.output):
  PbxE I w b #[p0,v] ow lQ [.tup [],.slc false n (yQ l)] (.tup [.int .i64 (k:Int),.nilif]) w' (.tuple #[.int .i64 (k:Int),.nilIface]) #[.pointer (some ⟨b,0,none⟩),.slice (some ⟨g,0,none⟩) n cap] e I [none,some ⟨g,cap,n⟩] where
 grow:=fun _ h=>h
 lt:=fun x h=>zb2 (hI x h) h5
 new:=fun _ h=> .inl h
 res:=f9 rfl
 blk:=h1
 siz:=rfl
 len:=rfl
 owl:=rfl
 cell:=fun j κ o d u q1 q2 q3 q4=>by
  match j,q1,q2,q3,q4 with
  |0,q1,q2,q3,q4=>cases q1;cases q2;cases q3;cases q4;exact⟨rfl,.inr ⟨rfl,rfl⟩⟩
  |1,q1,q2,q3,q4=>
   cases q1;cases q2;cases q3;cases q4;exact⟨yQ l,cur,rfl,rfl,h2.at_,by rw[Nat.mul_one];exact h2.sz,h2.cm,h2.le,by rw[Nat.mul_one];simp[yQ,hn],KI h2.tk⟩
  |j+2,q1,_,_,_=>cases q1
 own:=fun x hx=>by
  have hx:x=⟨g,cap,n⟩:=by simpa using hx
  subst hx;refine⟨fun hi=> ?_,h3,h4.symm.imp id fun h=>hv g h⟩;rcases h4 with h|h
  ·obtain⟨y,hy,e1⟩:=hv g h;exact how y hy (e1▸hi)
  ·have:=hI g hi;exact absurd h (Nat.not_le.2 this)
 inj:=fun i j x y hx hy _=>by
  have key:∀(i:Nat) (x:Gh),[none,some (⟨g,cap,n⟩:Gh)][i]?=some (some x)→i=1:=fun i x hx=>by
   match i,hx with
   |0,hx=>cases hx
   |1,_=>rfl
   |i+2,hx=>cases hx
  rw[key i x hx,key j y hy]
 size:=h5
 rest:=fun z z1 z2 z3=>h6 z z1 z2 fun e1=>by
  obtain⟨y,hy,e2⟩:=hv z e1.symm;exact z3 y hy e2
 os:=h7.1
 tape:=h7.2.1
 output:=h7.2.2
theorem xX(s:ByteArray):Lib.strCells s=s.data.toList.map fun x=>Value.int .u8 x.toNat:=rfl
theorem LV(s:ByteArray):s.size=s.data.toList.length:=by rw[Array.length_toList];rfl
theorem Oq(x:D)(s:ByteArray)(l:List UInt8)(hlen:l.length+s.size≤140737488355328)(h0:0<l.length+s.size):uZ Tryz.prog ig 123 0 lQ lQ [x,.str s] [.tup [],.slc false l.length (yQ l)] [.tup [],.slc false (l.length+s.size) (yQ (l++s.data.toList))] (.tup [.int .i64 (s.size:Int),.nilif]):=by
 intro I w b c e vs ow hI hgl hbI hb hcl hkl hol hcell how hinj hp hdl hvp hrel;obtain⟨p0,v,rfl⟩:=kq hcl;obtain⟨o0,o1,rfl⟩:=GW hol;obtain rfl:=zP hdl hvp hrel;obtain⟨rfl,hc0⟩:=hcell 0 .slf o0 (.tup []) p0 rfl rfl rfl rfl;obtain rfl:p0= .pointer (some ⟨b,0,none⟩):=by
  rcases hc0 with⟨h,_⟩|⟨_,h⟩
  ·cases h
  ·exact h
 have hc1:=hcell 1 (.own 5 1) o1 _ v rfl rfl rfl rfl;cases o1 with
 |none=>cases hc1.1
 |some y=>
  obtain⟨cs,cc,q1,rfl,q2,q3,q4,q5,q6,q7⟩:=hc1;simp only[D.slc.injEq,true_and] at q1;obtain⟨q8,rfl⟩:=q1;have hyb:=how y (by simp);rw[Nat.mul_one] at q3;have htk:=zO q8.symm (by rw[q3];exact q5) q7;refine(tS (ρ:=Tryz.lays156_ren) {Tryz.lays156 with} Tryz.Builder_Extra_156 w b e _ (.slice (some ⟨y.b,0,none⟩) y.len y.cap) y.len (l.map fun x=>Value.int .u8 x.toNat) s hb (.inl rfl) (.inr ⟨y.b,y.cap,cc,rfl,⟨q2,q5,q4,q3,htk,by simp[q8]⟩,hyb.2.2⟩) (by omega) (by omega)).mono ?_
  rintro en w' ⟨rfl,g,cap,cur,k1,k2,k3,k4,k5,k6,k7⟩
  refine⟨_,_,e,I,_,rfl,DM (cur:=cur) (v:= .slice (some ⟨y.b,0,none⟩) y.len y.cap) hI hbI (by rw[za6,←LV]) (fun q hq=>⟨y,by simp,by simpa [Value.ownBlock] using hq⟩) (fun x hx=>(how x hx).2.1) (by rw[q8];exact k1) ?_ k3 k4 k5 k6 k7⟩;rw[q8,List.map_append,←xX];exact k2
theorem Or(x:D)(s:ByteArray)(hlen:s.size≤140737488355328)(h0:0<s.size):IH Tryz.prog ig 123 0 194 lQ [x,.str s] [.tup [],.slc false s.size (yQ s.data.toList)] (.tup [.int .i64 (s.size:Int),.nilif]):=by
 intro I w b vs hI hgl hbI hb hp hdl hvp hrel;obtain rfl:=zP hdl hvp hrel;refine(tS (ρ:=Tryz.lays156_ren) {Tryz.lays156 with} Tryz.Builder_Extra_156 w b 194 _ (.slice none 0 0) 0 [] s hb (.inr ⟨rfl,rfl⟩) (.inl ⟨rfl,rfl,rfl⟩) (by omega) (by omega)).mono ?_
 rintro en w' ⟨rfl,g,cap,cur,k1,k2,k3,k4,k5,k6,k7⟩
 rw[Nat.zero_add] at k1 k2;exact⟨_,_,194,I,_,rfl,DM (v:= .slice none 0 0) hI hbI (LV s) (fun q hq=>by cases hq) (fun x hx=>by cases hx) k1 k2 k3 k4 k5 k6 k7⟩
theorem Ot(x:D)(l:List UInt8)(h0:l≠[]):uZ Tryz.prog ig 127 0 lQ TG [x] [.tup [],.slc false l.length (yQ l)] [.tup [],.junk] (.str ⟨l.toArray⟩):=by
 intro I w b c e vs ow hI hgl hbI hb hcl hkl hol hcell how hinj hp hdl hvp hrel;obtain⟨p0,v,rfl⟩:=kq hcl;obtain⟨o0,o1,rfl⟩:=GW hol;obtain rfl:vs= #[.pointer (some ⟨b,0,none⟩)]:=by
  have h1:vs.size=1:=hdl.symm;apply Array.ext
  ·rw[h1];rfl
  ·intro i q1 q2;have:i=0:=by simp at q2;omega
   subst this;rw[Array.getElem?_eq_getElem q1] at hvp;exact Option.some.inj hvp
 obtain⟨rfl,hc0⟩:=hcell 0 .slf o0 (.tup []) p0 rfl rfl rfl rfl;obtain rfl:p0= .pointer (some ⟨b,0,none⟩):=by
  rcases hc0 with⟨h,_⟩|⟨_,h⟩
  ·cases h
  ·exact h
 have hc1:=hcell 1 (.own 5 1) o1 _ v rfl rfl rfl rfl;cases o1 with
 |none=>cases hc1.1
 |some y=>
  obtain⟨cs,cc,q1,rfl,q2,q3,q4,q5,q6,q7⟩:=hc1;simp only[D.slc.injEq,true_and] at q1;obtain⟨q8,rfl⟩:=q1;have hyb:=how y (by simp);rw[Nat.mul_one] at q3;have htk:=zO rfl (by rw[q3,q8];exact q5) q7;refine(zN (ρ:=Tryz.lays156_ren) {Tryz.lays156 with} Tryz.Builder_Extra_156 w b e _ l h0 y.b y.cap cc (by rw[q8];exact hb) ⟨q2,by rw[q8];exact q5,q4,q3,htk,by simp[Lib.byteCells]⟩).mono ?_
  rintro en w' ⟨rfl,k1,k2,k3,k4,k5⟩
  refine⟨_,_,e,I,[none,none],rfl,{grow:=fun _ h=>h,lt:=fun x h=>by rw[k2];exact hI x h,new:=fun _ h=> .inl h,res:= .str _,blk:=by rw[k1 b (Ne.symm hyb.2.2)];exact hb,siz:=rfl,len:=rfl,owl:=rfl,cell:=fun j κ o d u z1 z2 z3 z4=> ?_,own:=fun x hx=>(by simp at hx),inj:=fun i j x y hx=> ?_,size:=by rw[k2];exact zb0 _,rest:=fun z z1 z2 z3=>k1 z (Ne.symm (z3 y (by simp))),os:=k3,tape:=k4,output:=k5}⟩
  ·match j,z1,z2,z3,z4 with
   |0,z1,z2,z3,z4=>cases z1;cases z2;cases z3;cases z4;exact⟨rfl,.inr ⟨rfl,rfl⟩⟩
   |1,z1,z2,z3,z4=>cases z1;cases z2;cases z3;cases z4;exact⟨rfl,.junk _⟩
   |j+2,z1,_,_,_=>cases z1
  ·match i,hx with
   |0,hx=>cases hx
   |1,hx=>cases hx
   |i+2,hx=>cases hx
abbrev SB(l:List UInt8):D:= .str (bs l)
theorem dY(l:List UInt8):(bs l).data.toList=l:=by simp[bs]
theorem DN(s:ByteArray):bs s.data.toList=s:=by apply ByteArray.ext;simp[bs]
theorem zQ{vs:Array Value}{a b:List UInt8}{I:Nat→Prop}{w:World}(hl:2=vs.size)(hr:∀(j:Nat) (d:D) (v:Value),[SB a,SB b][j]?=some d→vs[j]?=some v→RelC I w d v):vs= #[.string (bs a),.string (bs b)]:=by
 obtain⟨x,y,rfl⟩:=kq hl;have h1:=(hr 0 (SB a) x rfl rfl).toV (u:= .string (bs a)) rfl;have h2:=(hr 1 (SB b) y rfl rfl).toV (u:= .string (bs b)) rfl;rw[h1,h2]
theorem EV(l:List UInt8)(c:UInt8)(h:l≠[]):((l.take l.length).drop (l.length-1)==[c])=(l.getLast?==some c):=by
 rw[List.take_length];obtain⟨i,x,rfl⟩:∃i x,l=i++[x]:=⟨_,_,(List.dropLast_concat_getLast h).symm⟩;simp
theorem LW(l:List UInt8)(c:UInt8)(hl:l.length≤1000000):OK2 182 [SB l,SB [c]] (.bool (l.getLast?==some c)):=by
 refine dT cK Tryz.func182 (ord:=O0) (N:=N0) (by kernel_rfl) ((Kj _ _ _ _ _).trans ?_);rw[bL,bL];cases l with
 |nil=>rfl
 |cons x r=>
  have hn:(x::r).length=r.length+1:=rfl;rw[za1 (by rw[hn];show((r.length+1:Nat):Int)≥((1:Nat):Int);omega),bx,bS (show -9223372036854775808≤(((x::r).length:Nat):Int)-(([c]:List UInt8).length:Int)∧(((x::r).length:Nat):Int)-(([c]:List UInt8).length:Int)≤9223372036854775807 by
   rw[hn] at hl ⊢;simp only[za7,zb5];omega)]
  refine bK (za1 ⟨by simp only[za7,zb5];omega,by simp only[za7,zb5];omega,Int.le_refl _⟩) ?_;have e1:Int.toNat ((((x::r).length:Nat):Int)-(([c]:List UInt8).length:Int))=(x::r).length-1:=by simp
  rw[e1,za3,kY,gk,gk,EV _ _ (by simp)]
theorem Sk(l:List UInt8)(c:UInt8)(hl:l.length≤1000000):OK2 129 [SB l,SB [c]] (.bool (l.getLast?==some c)):=by
 obtain⟨B,hB,e1,_⟩:=fP [one 182 [SB l,SB [c]] (.bool (l.getLast?==some c))] ⟨bM (LW l c hl) rfl,trivial⟩ rfl;exact dT hB Tryz.func129 (ord:=O0) (N:=N0) (by kernel_rfl) ((Ki _ _ _ _ _).trans (bI (e1 ()) rfl))
def fZ(l:List UInt8)(c:UInt8):List UInt8:=if l.getLast?==some c then l.dropLast else l
theorem Sl(l:List UInt8)(c:UInt8)(hl:l.length≤1000000):OK2 132 [SB l,SB [c]] (SB (fZ l c)):=by
 have h187:OK2 187 [SB l,SB [c]] (SB (fZ l c)):=by
  obtain⟨B,hB,e1,_⟩:=fP [one 182 [SB l,SB [c]] (.bool (l.getLast?==some c))] ⟨bM (LW l c hl) rfl,trivial⟩ rfl;refine dT hB Tryz.func187 (ord:=O0) (N:=N0) (by kernel_rfl) ((Kl _ _ _ _ _).trans (bI (show bw B 182 [SB l,SB [c]]=some (.bool (l.getLast?==some c)) from e1 ()) ?_));rw[cj,bL,bL];unfold fZ;cases hb:l.getLast?==some c with
  |false=>rw[bv];rfl
  |true=>
   have hne:l≠[]:=by intro e;subst e;cases hb
   have hpos:0<l.length:=List.length_pos_iff.2 hne;rw[bx,bS (show -9223372036854775808≤((l.length:Nat):Int)-(([c]:List UInt8).length:Int)∧((l.length:Nat):Int)-(([c]:List UInt8).length:Int)≤9223372036854775807 by simp only[za7,zb5];omega)];refine bK (za1 ⟨Int.le_refl _,by simp only[za7,zb5];omega,by simp only[za7,zb5];omega⟩) ?_;have e2:Int.toNat (((l.length:Nat):Int)-(([c]:List UInt8).length:Int))=l.length-1:=by simp only[za7,zb5];omega
   rw[e2,kY,List.drop_zero,←List.dropLast_eq_take];rfl
 obtain⟨B,hB,e1,_⟩:=fP [one 187 [SB l,SB [c]] (SB (fZ l c))] ⟨bM h187 rfl,trivial⟩ rfl;exact dT hB Tryz.func132 (ord:=O0) (N:=N0) (by kernel_rfl) ((Kk _ _ _ _ _).trans (bI (e1 ()) rfl))
def cq(l:List UInt8)(c:UInt8):List UInt8:=if l.head?==some c then l.tail else l
theorem LX(l:List UInt8)(c:UInt8)(hl:l.length≤1000000):OK2 278 [SB l,SB [c]] (SB (cq l c)):=by
 have h297:OK2 297 [SB l,SB [c]] (.bool (l.head?==some c)):=by
  refine dT cK Tryz.func297 (ord:=O0) (N:=N0) (by kernel_rfl) ((Ko _ _ _ _ _).trans ?_);rw[bL,bL];cases l with
  |nil=>rfl
  |cons x r=>
   rw[za1 (by show((r.length+1:Nat):Int)≥((1:Nat):Int);omega),bx];refine bK (za1 ⟨Int.le_refl _,by simp,by simp only[za7,zb5];omega⟩) ?_;rw[kY,gk,gk];show some (D.bool ([x]==[c]))=some (D.bool (some x==some c));simp
 have h303:OK2 303 [SB l,SB [c]] (SB (cq l c)):=by
  obtain⟨B,hB,e1,_⟩:=fP [one 297 [SB l,SB [c]] (.bool (l.head?==some c))] ⟨bM h297 rfl,trivial⟩ rfl;refine dT hB Tryz.func303 (ord:=O0) (N:=N0) (by kernel_rfl) ((Kn _ _ _ _ _).trans (bI (show bw B 297 [SB l,SB [c]]=some (.bool (l.head?==some c)) from e1 ()) ?_));rw[cj,bL,bL];unfold cq;cases hb:l.head?==some c with
  |false=>rw[bv];rfl
  |true=>
   cases l with
   |nil=>cases hb
   |cons x r=>
    rw[bx];refine bK (za1 ⟨by simp,by simp only[za7,zb5];omega,Int.le_refl _⟩) ?_;rw[za3,za3,kY,List.take_length];rfl
 obtain⟨B,hB,e1,_⟩:=fP [one 303 [SB l,SB [c]] (SB (cq l c))] ⟨bM h303 rfl,trivial⟩ rfl;exact dT hB Tryz.func278 (ord:=O0) (N:=N0) (by kernel_rfl) ((Km _ _ _ _ _).trans (bI (e1 ()) rfl))
theorem Sn(l:List UInt8)(c:UInt8):OK2 284 [SB l,SB [c]] (.int .i64 (Lib.indexByte l c)):=by
 refine⟨enters_of Tryz.func284 (by kernel_rfl) rfl,fun I w vs hI hgl hl hr=> ?_⟩;obtain rfl:=zQ hl hr;refine(Any.stringslite_Index_one (ρ:=Tryz.lays221_ren) {Tryz.lays221 with} (bs l) c w).mono ?_
 rintro e w' ⟨rfl,rfl⟩
 exact⟨_,rfl,by rw[dY];exact .int _ _,.refl _ _⟩
def dO(c:UInt8):List UInt8→List UInt8×List UInt8×Bool
 |[]=>([],[],false)
 |x::r=>if x==c then([],r,true) else(x::(dO c r).1,(dO c r).2.1,(dO c r).2.2)
theorem mP(c:UInt8):∀l:List UInt8,Lib.indexByte l c= -1→dO c l=(l,[],false)
 |[],_=>rfl
 |x::r,h=>by
  unfold Lib.indexByte at h;unfold dO;split at h
  ·cases h
  ·rename_i hx;rw[if_neg hx];split at h
   ·rename_i hr;rw[mP c r (by simpa using hr)]
   ·have:=Lib.indexByte_ge r c;omega
theorem oU(c:UInt8):∀(l:List UInt8) (i:Nat),Lib.indexByte l c=(i:Int)→i<l.length∧dO c l=(l.take i,l.drop (i+1),true)
 |[],i,h=>by unfold Lib.indexByte at h;omega
 |x::r,i,h=>by
  unfold Lib.indexByte at h;unfold dO;split at h
  ·rename_i hx;obtain rfl:i=0:=by omega
   rw[if_pos hx];exact⟨by simp,rfl⟩
  ·rename_i hx;rw[if_neg hx];split at h
   ·omega
   ·obtain⟨k,rfl⟩:∃k,i=k+1:=⟨i-1,by have:=Lib.indexByte_ge r c;rename_i h9;simp at h9;omega⟩;obtain⟨h1,h2⟩:=oU c r k (by omega);rw[h2];exact⟨by simpa using h1,rfl⟩
theorem So(l:List UInt8)(c:UInt8)(hl:l.length≤1000000):OK2 228 [SB l,SB [c]] (.tup [SB (dO c l).1,SB (dO c l).2.1,.bool (dO c l).2.2]):=by
 have h277:OK2 277 [SB l,SB [c]] (.tup [SB (dO c l).1,SB (dO c l).2.1,.bool (dO c l).2.2]):=by
  obtain⟨B,hB,e1,_⟩:=fP [one 284 [SB l,SB [c]] (.int .i64 (Lib.indexByte l c))] ⟨bM (Sn l c) rfl,trivial⟩ rfl;refine dT hB Tryz.func277 (ord:=O0) (N:=N0) (by kernel_rfl) ((Ks _ _ _ _ _).trans (bI (show bw B 284 [SB l,SB [c]]=some (.int .i64 (Lib.indexByte l c)) from e1 ()) ?_));rw[bF,bL,bL];by_cases h:Lib.indexByte l c= -1
  ·rw[h,za2 (by decide),bv,mP c l h];rfl
  ·obtain⟨i,hi⟩:∃i:Nat,Lib.indexByte l c=(i:Int):=⟨(Lib.indexByte l c).toNat,by have:=Lib.indexByte_ge l c;omega⟩;obtain⟨h1,h2⟩:=oU c l i hi;rw[hi,h2,za1 (by omega),bx];refine bK (za1 ⟨Int.le_refl _,by omega,by omega⟩) ?_;rw[bS (by simp only[za7,zb5];omega)];refine bK (za1 ⟨by omega,by simp only[za7,zb5];omega,Int.le_refl _⟩) ?_;have e2:Int.toNat ((i:Int)+(([c]:List UInt8).length:Int))=i+1:=by simp only[za7,zb5];omega
   rw[e2,kY,kY,za3,za3,List.take_length,List.drop_zero]
 obtain⟨B,hB,e1,_⟩:=fP [one 277 [SB l,SB [c]] (.tup [SB (dO c l).1,SB (dO c l).2.1,.bool (dO c l).2.2])] ⟨bM h277 rfl,trivial⟩ rfl;exact dT hB Tryz.func228 (ord:=O0) (N:=N0) (by kernel_rfl) ((Kq _ _ _ _ _).trans (bI (e1 ()) rfl))
def spl(c:UInt8):List UInt8→List (List UInt8)
 |[]=>[[]]
 |x::r=>if x==c then[]::spl c r else((x::(spl c r).headD [])::(spl c r).tail)
theorem mc(c:UInt8):∀l,spl c l≠[]
 |[]=>by simp[spl]
 |x::r=>by unfold spl;split<;>simp
theorem ku(c:UInt8):∀l:List UInt8,Lib.indexByte l c= -1→spl c l=[l]
 |[],_=>rfl
 |x::r,h=>by
  unfold Lib.indexByte at h;unfold spl;split at h
  ·cases h
  ·rename_i hx;rw[if_neg hx];split at h
   ·rename_i hr;rw[ku c r (by simpa using hr)];rfl
   ·have:=Lib.indexByte_ge r c;omega
theorem oV(c:UInt8):∀(l:List UInt8) (i:Nat),Lib.indexByte l c=(i:Int)→spl c l=l.take i::spl c (l.drop (i+1))
 |[],i,h=>by unfold Lib.indexByte at h;omega
 |x::r,i,h=>by
  unfold Lib.indexByte at h;rw[spl];split at h
  ·rename_i hx;obtain rfl:i=0:=by omega
   rw[if_pos hx];rfl
  ·rename_i hx;rw[if_neg hx];split at h
   ·omega
   ·obtain⟨k,rfl⟩:∃k,i=k+1:=⟨i-1,by have:=Lib.indexByte_ge r c;rename_i h9;simp at h9;omega⟩;rw[oV c r k (by omega)];rfl
theorem qh(c:UInt8):∀(l:List UInt8) (i:Nat),Lib.indexByte l c=(i:Int)→l.count c=(l.drop (i+1)).count c+1
 |[],i,h=>by unfold Lib.indexByte at h;omega
 |x::r,i,h=>by
  unfold Lib.indexByte at h;rw[List.count_cons];split at h
  ·rename_i hx;obtain rfl:i=0:=by omega
   rw[if_pos hx];rfl
  ·rename_i hx;rw[if_neg hx];split at h
   ·omega
   ·obtain⟨k,rfl⟩:∃k,i=k+1:=⟨i-1,by have:=Lib.indexByte_ge r c;rename_i h9;simp at h9;omega⟩;rw[qh c r k (by omega)];rfl
theorem tT(c:UInt8):∀(k:Nat) (l:List UInt8),l.count c≤k→Lib.splitK [c] 0 k l=spl c l
 |0,l,h=>by
  rw[ku c l ?_]
  ·rfl
  ·by_cases h1:Lib.indexByte l c= -1
   ·exact h1
   ·have:=qh c l (Lib.indexByte l c).toNat (by have:=Lib.indexByte_ge l c;omega);omega
 |k+1,l,h=>by
  unfold Lib.splitK;rw[Lib.index_one];by_cases h1:Lib.indexByte l c= -1
  ·rw[h1,if_pos (by decide),ku c l h1]
  ·have hi:Lib.indexByte l c=((Lib.indexByte l c).toNat:Int):=by have:=Lib.indexByte_ge l c;omega
   rw[if_neg (by simpa using h1),oV c l _ hi,tT c k]
   ·rfl
   ·have:=qh c l _ hi;simp only[za7,zb5,Nat.zero_add];omega
def zR(l:List (List UInt8)):D:= .slc true l.length (l.map SB)
theorem wg(c:UInt8)(l:List UInt8):(Lib.splitB (bs [c]) 0 (Lib.countB (bs l) (bs [c])) (bs l))=(spl c l).map bs:=by
 have hc:Lib.countB (bs l) (bs [c])=l.count c:=by
  show Lib.count (bs l).data.toList (bs [c]).data.toList=_;rw[dY,dY,Lib.count_one]
 have h1:=Lib.splitB_data (bs [c]) 0 (Lib.countB (bs l) (bs [c])) (bs l);rw[dY,dY,tT c _ l (by rw[hc];exact zb0 _)] at h1;rw[←h1,List.map_map];apply List.ext_getElem?;intro j;rw[zc3];cases (Lib.splitB (bs [c]) 0 (Lib.countB (bs l) (bs [c])) (bs l))[j]? with
 |none=>rfl
 |some x=>simp[DN]
theorem Sp(l:List UInt8)(c:UInt8)(hl:l.length≤1000000):OK2 186 [SB l,SB [c],.int .i64 0,.int .i64 (-1)] (zR (spl c l)):=by
 refine⟨enters_of Tryz.func186 (by kernel_rfl) rfl,fun I w vs hI hgl hvl hr=> ?_⟩;have hvs:vs= #[.string (bs l),.string (bs [c]),.int .i64 0,.int .i64 (-1)]:=by
  have hsz:vs.size=4:=hvl.symm;have e0:=(hr 0 (SB l) vs[0] rfl (by simp)).toV (u:= .string (bs l)) rfl;have e1:=(hr 1 (SB [c]) vs[1] rfl (by simp)).toV (u:= .string (bs [c])) rfl;have e2:=(hr 2 (.int .i64 0) vs[2] rfl (by simp)).toV (u:= .int .i64 0) rfl;have e3:=(hr 3 (.int .i64 (-1)) vs[3] rfl (by simp)).toV (u:= .int .i64 (-1)) rfl;apply Array.ext
  ·rw[hsz];rfl
  ·intro i q1 q2
   match i,q2 with
   |0,_=>exact e0
   |1,_=>exact e1
   |2,_=>exact e2
   |3,_=>exact e3
 subst hvs;have L:=Tryz.lays221;have hone:(bs [c])=⟨#[c]⟩:=rfl;have hle:=Lib.countB_le (bs [c]) (zb0 1) (bs l).size (bs l) (zb0 _);have hlen:=Lib.splitB_all (bs [c]) (zb0 1) 0 _ (bs l) rfl;have hsz:=bL l;have hcalls:=Any.strings_genSplit_core L (by kernel_rfl) (bs l) (bs [c]) 0 (-1) (Lib.countB (bs l) (bs [c])+1) w (by omega) (zb0 1) (Nat.zero_le _)
  (fun x cc hx=>(Any.strings_Index_one {L with} x c _).mono fun e w' ⟨he,hw⟩=>⟨by rw[he];show Ending.returned (Value.int .i64 (Lib.indexByte x.data.toList c))= .returned (.int .i64 (Lib.index x.data.toList (bs [c]).data.toList));rw[dY,Lib.index_one],hw⟩)
  ((Any.strings_Count_one {L with} (bs l) c w).mono fun e w' ⟨he,hw⟩=>⟨by rw[he];show Ending.returned (Value.int .i64 ((Lib.countByte (bs l).data.toList c:Nat):Int))= .returned (.int .i64 ((Lib.count (bs l).data.toList (bs [c]).data.toList:Nat):Int));rw[dY,dY,Lib.count_one];rfl,hw⟩)
  (by decide) (by decide) (by rw[if_pos (by decide)];omega)
 rw[ze6] at hcalls;have hcl:Lib.cellsOf (Lib.splitB (bs [c]) 0 (Lib.countB (bs l) (bs [c])) (bs l)) (Lib.countB (bs l) (bs [c])+1)=((Lib.splitB (bs [c]) 0 (Lib.countB (bs l) (bs [c])) (bs l)).map Value.string).toArray:=by
  rw[←hlen];exact Lib.cellsOf_full _
 rw[hcl,hlen,wg] at hcalls;have hsl:(spl c l).length=Lib.countB (bs l) (bs [c])+1:=by rw[←hlen,wg];simp
 refine hcalls.mono ?_
 rintro e w' ⟨rfl,rfl⟩
 have hnew:(w.alloc (.cells (((spl c l).map bs).map Value.string).toArray (Tryz.lays221_ren.t 9))).heap[w.heap.size]?=some (.cells (((spl c l).map bs).map Value.string).toArray (Tryz.lays221_ren.t 9) (0,0)):=dM w _;refine⟨_,rfl,?_,Blw.of_below ((Below.refl _ _).alloc (zb0 _) _)⟩;rw[←hsl];refine .slc true (spl c l).length _ ⟨w.heap.size,0,none⟩ _ (fun j=> .string (bs ((spl c l).getD j []))) (fun _=> .inr ⟨zb0 _,by simp⟩) (fun _=>rfl) (zb0 _) (fun j d hj=> ?_) (fun j d hj=> ?_)
 ·have hj':j<(spl c l).length:=by have:=(zc1.1 hj).1;simpa using this
  rw[Addr.add_lit,Nat.zero_add,Lib.cell_of_heap hnew];simp[hj',List.getD]
 ·have hj':j<(spl c l).length:=by have:=(zc1.1 hj).1;simpa using this
  rw[zc3,zd5 hj'] at hj;cases hj;rw[show(spl c l).getD j []=(spl c l)[j] by simp[List.getD,hj']];exact .str _
theorem LY(l:List UInt8)(c:UInt8)(hl:l.length≤1000000):OK2 131 [SB l,SB [c]] (zR (spl c l)):=by
 obtain⟨B,hB,e1,_⟩:=fP [one 186 [SB l,SB [c],.int .i64 0,.int .i64 (-1)] (zR (spl c l))] ⟨bM (Sp l c hl) rfl,trivial⟩ rfl;exact dT hB Tryz.func131 (ord:=O0) (N:=N0) (by kernel_rfl) ((Kp _ _ _ _ _).trans (bI (e1 ()) rfl))
theorem Ou(w:World)(e:TypeId)(s:ByteArray):Blw (·<w.heap.size) w (Lib.bytesWorld w e s):=by
 have h:=qU (w.drew.alloc (.cells (Lib.bytesCells w e s) e)) w.heap.size 1 (o:=(Lib.bytesCells w e s).size);refine⟨h.2.1,h.2.2.1,h.2.2.2,?_,fun k hk=>Lib.bytesWorld_at_old w e s k hk⟩;rw[Lib.bytesWorld_size];exact Nat.le_succ _
theorem Sq(l:List UInt8)(n:Int)(hl:l.length≤18)(h:Lib.atoi l=some n):OK2 280 [SB l] (.tup [.int .i64 n,.nilif]):=by
 refine⟨enters_of Tryz.func280 (by kernel_rfl) rfl,fun I w vs hI hgl hvl hr=> ?_⟩;obtain⟨v,rfl⟩:=rR hvl;have hv:=(hr 0 (SB l) v rfl rfl).toV (u:= .string (bs l)) rfl;subst hv;refine(Any.strconv_Atoi Tryz.lays172 (bs l) n (by rw[bL];exact hl) (by rw[dY];exact h) w).mono ?_
 rintro e w' ⟨rfl,t,rfl⟩
 exact⟨_,rfl,f9 rfl,Ou w _ t⟩
def dgsB:List UInt8:=[48,49,50,51,52,53,54,55,56,57]
theorem LZ(l:List UInt8)(hl:l.length≤1000000):OK2 279 [SB l,SB dgsB] (SB (Lib.trimS l dgsB)):=by
 refine⟨enters_of Tryz.func279 (by kernel_rfl) rfl,fun I w vs hI hgl hvl hr=> ?_⟩;obtain rfl:=zQ hvl hr;have hsz:=bL l;refine(Any.strings_Trim_laid Tryz.lays160 (by kernel_rfl) (bs l) (bs dgsB) w (by omega) (by decide) (by rw[dY];exact ascii_of_all (by decide))).mono ?_
 rintro e w' ⟨rfl,hb⟩
 exact⟨_,rfl,by rw[dY,dY];exact .str _,Blw.of_below hb⟩
theorem Ce{p:UInt8→Bool}:∀{l:List UInt8},l.dropWhile p=[]→l.all p=true
 |[],_=>rfl
 |x::r,h=>by
  rw[List.dropWhile_cons] at h;split at h
  ·rename_i hx;rw[List.all_cons,hx,Ce h];rfl
  ·cases h
theorem GX{p:UInt8→Bool}:∀{l:List UInt8},l.all p=true→l.dropWhile p=[]
 |[],_=>rfl
 |x::r,h=>by
  rw[List.all_cons,zc4] at h;rw[List.dropWhile_cons,if_pos h.1,GX h.2]
theorem DO{p:UInt8→Bool}:∀{l:List UInt8},l.dropWhile p≠[]→∃x r,l.dropWhile p=x::r∧p x=false
 |[],h=>absurd rfl h
 |x::r,h=>by
  rw[List.dropWhile_cons] at h ⊢;split at h
  ·rename_i hx;rw[if_pos hx];exact DO h
  ·rename_i hx;rw[if_neg hx];exact⟨x,r,rfl,by simpa using hx⟩
theorem wh(l cs:List UInt8):(Lib.trimS l cs==[])=l.all (cs.contains ·):=by
 unfold Lib.trimS Lib.trimLeftS Lib.trimRightS;rw[Bool.eq_iff_iff,ze8];constructor
 ·intro h;have h1:=Ce h;by_cases h2:l.reverse.dropWhile (cs.contains ·)=[]
  ·have:=Ce h2
   rwa [List.all_reverse] at this
  ·obtain⟨x,r,e,hx⟩:=DO h2;rw[e] at h1;simp only[List.reverse_cons,List.all_append,List.all_cons,List.all_nil,Bool.and_true,zc4] at h1;rw[hx] at h1;exact absurd h1.2 (by decide)
 ·intro h;rw[GX (l:=l.reverse) (by rw[List.all_reverse];exact h)];rfl
def eW(c:UInt8):Bool:=decide (48≤c.toNat∧c.toNat≤57)
theorem nd(c:UInt8):dgsB.contains c=eW c:=by
 have h:∀n:Fin 256,dgsB.contains (UInt8.ofNat n.1)=eW (UInt8.ofNat n.1):=by decide+kernel
 have:=h ⟨c.toNat,c.toNat_lt⟩;simpa using this
def md(l:List UInt8):Bool:= !(cq l 45==[])&&(decide ((cq l 45).length≤9)&&((cq l 45).all eW&&(!((cq l 45).head?==some 48)||l==[48])))
def cR(l:List UInt8):Int×Bool:=if md l then(if l.head?==some 45 then -((vN 0 (cq l 45):Nat):Int) else((vN 0 l:Nat):Int),true) else(0,false)
theorem Cf:∀(l:List UInt8) (a:Nat),l.all eW=true→Lib.decFrom a l=some (vN a l)
 |[],_,_=>rfl
 |c::r,a,h=>by
  rw[List.all_cons,zc4] at h;have hc:48≤c.toNat∧c.toNat≤57:=by simpa [eW] using h.1
  unfold Lib.decFrom Lib.digitVal vN;rw[if_pos hc];dsimp only;rw[show a*10+(c.toNat-48)=10*a+(c.toNat-48) by omega];exact Cf r _ h.2
theorem GY(l:List UInt8)(h:md l=true):Lib.atoi l=some (cR l).1:=by
 unfold cR;rw[if_pos h];unfold md at h;simp only[zc4,Bool.not_eq_true',beq_eq_false_iff_ne,ne_eq,zc7] at h;obtain⟨h1,h2,h3,h4⟩:=h;cases l with
 |nil=>exact absurd rfl h1
 |cons x r=>
  unfold cq at*;by_cases hx:x=45
  ·subst hx;simp only[List.head?_cons,ze7,if_true,List.tail_cons] at h1 h2 h3 h4 ⊢;unfold Lib.atoi;dsimp only;rw[if_pos (by decide)];unfold Lib.decNat;rw[if_neg (by cases r with|nil=>exact absurd rfl h1|cons=>simp),Cf r 0 h3];rfl
  ·have hb:(some x==some (45:UInt8))=false:=by simpa using hx
   simp only[List.head?_cons,hb] at h1 h2 h3 h4 ⊢;have hd:48≤x.toNat∧x.toNat≤57:=by
    have:=zd9.1 h3 x (by simp);simpa [eW] using this
   have hx3:¬(x==43)=true:=fun e=>by
    have e:x=43:=by simpa using e
    subst e;exact absurd hd.1 (by decide)
   unfold Lib.atoi;dsimp only;rw[if_neg (by simpa using hx),if_neg hx3];unfold Lib.decNat;rw[if_neg (by simp)];have:=Cf (x::r) 0 (by simpa using h3);rw[this];rfl
theorem KJ(l:List UInt8)(c:UInt8):(cq l c).length≤l.length∧l.length≤(cq l c).length+1:=by
 unfold cq;split
 ·rw[List.length_tail];omega
 ·omega
abbrev iH(l:List UInt8):D:= .tup [.int .i64 (cR l).1,.bool (cR l).2]
theorem qi(l:List UInt8):(ByteArray.toList (bs l)==ByteArray.toList (ByteArray.mk #[]))=(l==[]):=by
 rw[show ByteArray.mk #[]=bs [] from rfl,gk,gk]
theorem fe(l m:List UInt8):(ByteArray.toList (bs l)==ByteArray.toList (bs m))=(l==m):=by rw[gk,gk]
theorem L0(l:List UInt8)(hl:l.length≤1000000):OK2 229 [SB l] (iH l):=by
 have hcl:=KJ l 45;by_cases hd:md l=true
 ·obtain⟨B,hB,e1,e2,e3,_⟩:=fP [one 278 [SB l,SB [45]] (SB (cq l 45)),one 279 [SB (cq l 45),SB dgsB] (SB (Lib.trimS (cq l 45) dgsB)),one 280 [SB l] (.tup [.int .i64 (cR l).1,.nilif])]
   ⟨bM (LX l 45 hl) rfl,bM (LZ _ (by omega)) rfl,bM (Sq l _ (by
    unfold md at hd;simp only[zc4,zc7] at hd;omega) (GY l hd)) rfl,trivial⟩ rfl
  have hv:(cR l).2=true:=by unfold cR;rw[if_pos hd]
  refine dT hB Tryz.func229 (ord:=O0) (N:=Kt) (by kernel_rfl) ((DL _ _ _ _).trans (bI (show bw B 278 [SB l,SB [45]]=some (SB (cq l 45)) from e1 ()) ?_));have hfin:oQ (bw B) LL C1 (bs l)=some (iH l):=by
   rw[B5 _ _ _ _ c1,show bw B 280 [D.str (bs l)]=some (.tup [.int .i64 (cR l).1,.nilif]) from e3 (),bA];show some (D.tup [D.int IntKind.i64 (cR l).1,D.bool true])=some (iH l);unfold iH;rw[hv]
  unfold md at hd;simp only[zc4,Bool.not_eq_true',zc7] at hd;obtain⟨h1,h2,h3,h4⟩:=hd;rw[bP,qi,h1,bv,bL,za2 (by omega),bv];refine bI (show bw B 279 [SB (cq l 45),SB dgsB]=some (SB (Lib.trimS (cq l 45) dgsB)) from e2 ()) ?_;have hall:(cq l 45).all (dgsB.contains ·)=true:=by
   rw[←h3];congr 1;funext c;exact nd c
  rw[bP,qi,wh,hall];rw[show(!true)=false from rfl,bv];cases hc:cq l 45 with
  |nil=>rw[hc] at h1;cases h1
  |cons x r=>
   refine bK (za1 ⟨Int.le_refl _,by simp⟩) ?_;rw[nc (i:=0) (b:=x) rfl,show(48:Int)=((48:UInt8).toNat:Int) from rfl,wb];rw[hc] at h4;by_cases hx:x=48
   ·subst hx;rw[za1 rfl,bx,show ByteArray.mk #[48]=bs [48] from rfl,fe];have h5:(l==[48])=true:=by simpa using h4
    rw[h5,show(!true)=false from rfl,bv];exact hfin
   ·rw[za2 hx,bv];exact hfin
 ·have hd:md l=false:=by simpa using hd
  have hv:iH l= .tup [.int .i64 0,.bool false]:=by unfold iH cR;rw[hd];rfl
  obtain⟨B,hB,e1,e2,_⟩:=fP [one 278 [SB l,SB [45]] (SB (cq l 45)),one 279 [SB (cq l 45),SB dgsB] (SB (Lib.trimS (cq l 45) dgsB))]
   ⟨bM (LX l 45 hl) rfl,bM (LZ _ (by omega)) rfl,trivial⟩ rfl
  rw[hv];refine dT hB Tryz.func229 (ord:=O0) (N:=Kt) (by kernel_rfl) ((DL _ _ _ _).trans (bI (show bw B 278 [SB l,SB [45]]=some (SB (cq l 45)) from e1 ()) ?_));unfold md at hd;rw[bP,qi];cases h1:(cq l 45==[]) with
  |true=>rw[bx]
  |false=>
   rw[h1] at hd;rw[bv,bL];by_cases h2:(cq l 45).length≤9
   ·rw[za2 (by omega),bv];refine bI (show bw B 279 [SB (cq l 45),SB dgsB]=some (SB (Lib.trimS (cq l 45) dgsB)) from e2 ()) ?_;rw[za1 h2] at hd;rw[bP,qi,wh,show(cq l 45).all (dgsB.contains ·)=(cq l 45).all eW by congr 1;funext c;exact nd c];cases h3:(cq l 45).all eW with
    |false=>rw[show(!false)=true from rfl,bx]
    |true=>
     rw[h3] at hd;rw[show(!true)=false from rfl,bv];cases hc:cq l 45 with
     |nil=>rw[hc] at h1;cases h1
     |cons x r=>
      rw[hc] at hd;refine bK (za1 ⟨Int.le_refl _,by simp⟩) ?_;rw[nc (i:=0) (b:=x) rfl,show(48:Int)=((48:UInt8).toNat:Int) from rfl,wb];have hd:(!(some x==some (48:UInt8))||l==[48])=false:=by simpa using hd
      rw[zd2] at hd;have hx:x=48:=by simpa using hd.1
      rw[za1 hx,bx,show ByteArray.mk #[48]=bs [48] from rfl,fe,hd.2,show(!false)=true from rfl,bx]
   ·rw[za1 (by omega),bx]
abbrev gz(a b:List UInt8):D:= .tup [.agg [.int .i64 (cR a).1,.int .i64 (cR b).1],.bool ((cR a).2&&(cR b).2)]
theorem L1(a b:List UInt8)(ha:a.length≤1000000)(hb:b.length≤1000000):OK2 185 [SB a,SB b] (gz a b):=by
 obtain⟨B,hB,e1,_⟩:=fP [⟨229,Bool,fun q=>match q with|true=>[SB a]|false=>[SB b],fun q=>match q with|true=>iH a|false=>iH b⟩] ⟨⟨fun q=>match q with|true=>L0 a ha|false=>L0 b hb,fun x y e=>by
  cases x<;>cases y
  ·rfl
  ·have e:[SB b]=[SB a]:=e;simp only[zc5,D.str.injEq,and_true] at e;show iH b=iH a;rw[eE e]
  ·have e:[SB a]=[SB b]:=e;simp only[zc5,D.str.injEq,and_true] at e;show iH a=iH b;rw[eE e]
  ·rfl,fun q=>by cases q<;>rfl⟩,trivial⟩ rfl
 refine dT hB Tryz.func185 (ord:=O0) (N:=N0) (by kernel_rfl) ((Ku _ _ _ _ _).trans (bI (show bw B 229 [SB a]=some (iH a) from e1 true) (bI (show bw B 229 [SB b]=some (iH b) from e1 false) ?_)));show bz (cR a).2 _ _=some (gz a b);unfold gz;cases (cR a).2<;>rfl
theorem oW(c:UInt8):eW c=true↔oN c:=by unfold eW oN;simp
theorem Sr{call:CL}:∀(r pre:List UInt8) (fuel:Nat),(pre++r).length≤1000000→r.length<fuel→sc call LL C1 fuel (bs (pre++r)) (pre.length:Int)=some (.bool (r.all eW)):=by
 intro r
 induction r with
 |nil=>
  intro pre fuel hl hf;obtain⟨fuel,rfl⟩:∃n,fuel=n+1:=⟨fuel-1,by omega⟩;rw[tQ,bL,zb6,za2 (by omega),bv];rfl
 |cons c r ih=>
  intro pre fuel hl hf;obtain⟨fuel,rfl⟩:∃n,fuel=n+1:=⟨fuel-1,by omega⟩;have hlen:pre.length<(pre++c::r).length:=by simp
  have ih:=ih (pre++[c]) fuel (by simp at hl ⊢;omega) (by simp at hf;omega);rw[za8,List.singleton_append] at ih;have hat:cA (bs (pre++c::r)) (Int.toNat (pre.length:Int))=(c.toNat:Int):=by rw[za3];exact nc (by simp)
  rw[tQ,bL,za1 (show(pre.length:Int)<((pre++c::r).length:Int) by omega),bx,hat];refine bK (za1 ⟨by omega,by rw[za3];exact hlen⟩) ?_;by_cases h1:48≤c.toNat
  ·rw[za2 (by omega),bv];refine bK (za1 ⟨by omega,by rw[za3];exact hlen⟩) ?_;by_cases h2:c.toNat≤57
   ·rw[za2 (by omega),bv,bS (by simp at hl;omega),show((pre.length:Int)+1)=((pre++[c]).length:Int) by simp,ih,List.all_cons,show eW c=true by unfold eW;exact za1 ⟨h1,h2⟩,Bool.true_and]
   ·rw[za1 (by omega),bx,List.all_cons,show eW c=false by unfold eW;exact za2 (fun h=>h2 h.2),Bool.false_and]
  ·rw[za1 (by omega),bx,List.all_cons,show eW c=false by unfold eW;exact za2 (fun h=>h1 h.1),Bool.false_and]
theorem Ss(l:List UInt8)(hl:l.length≤1000000):OK2 332 [SB l] (.bool (l.all eW)):=
 dT cK Tryz.func332 (ord:=O0) (N:=Oj) (by kernel_rfl) ((KB _ _ _ _).trans (Sr l [] LL (by simpa using hl) (by unfold LL;omega)))
def tU(l:List UInt8):Bool:= !(l==[])&&(l.all eW&&(!(l.head?==some 48)||decide (l.length≤1)))
theorem L2(l:List UInt8)(hl:l.length≤1000000):OK2 318 [SB l] (.bool (tU l)):=by
 obtain⟨B,hB,e1,_⟩:=fP [one 332 [SB l] (.bool (l.all eW))] ⟨bM (Ss l hl) rfl,trivial⟩ rfl;have g1:bw B 332 [SB l]=some (.bool (l.all eW)):=e1 ();refine dT hB Tryz.func318 (ord:=O0) (N:=N0) (by kernel_rfl) ((KC _ _ _ _).trans ?_);unfold tU;cases l with
 |nil=>rfl
 |cons x r=>
  rw[bL,show(((x::r).length:Nat):Int)=((r.length+1:Nat):Int) from rfl,show((((r.length+1:Nat):Int))==0)=false by simp;omega,bv];cases r with
  |nil=>
   rw[za2 (by simp),bv,g1,bA,cj];simp
  |cons y r=>
   rw[za1 (by simp;omega),bx];refine bK (za1 ⟨Int.le_refl _,by simp⟩) ?_;rw[nc (i:=0) (b:=x) rfl,show(48:Int)=((48:UInt8).toNat:Int) from rfl,wb];by_cases hx:x=48
   ·rw[za1 hx,bx];subst hx;simp
   ·rw[za2 hx,bv,g1,bA,cj];have:(some x==some (48:UInt8))=false:=by simpa using hx
    simp[this]
theorem L3:∀(l:List UInt8) (a:Nat),a≤vN a l
 |[],_=>zb0 _
 |c::r,a=>zb1 (by omega) (L3 r _)
def me(l:List UInt8):Int×Bool:=if tU l&&decide (l.length≤9) then(((vN 0 l:Nat):Int),true) else(0,false)
theorem DP(l:List UInt8)(hl:l.length≤1000000):OK2 285 [SB l] (.tup [.int .i64 (me l).1,.bool (me l).2]):=by
 by_cases h9:l.length≤9
 ·by_cases hd:tU l=true
  ·have hdg:∀c∈l,oN c:=fun c hc=>by
    unfold tU at hd;simp only[zc4] at hd;exact(oW c).1 (zd9.1 hd.2.1 c hc)
   obtain⟨B,hB,e1,e2,_⟩:=fP [one 318 [SB l] (.bool (tU l)),one 215 [SB l] (.int .i64 ((vN 0 l:Nat):Int))] ⟨bM (L2 l hl) rfl,bM (R5 l hdg (by omega)) rfl,trivial⟩ rfl;have g1:bw B 318 [SB l]=some (.bool (tU l)):=e1 ();have g2:bw B 215 [SB l]=some (.int .i64 ((vN 0 l:Nat):Int)):=e2 ();refine dT hB Tryz.func285 (ord:=O0) (N:=N0) (by kernel_rfl) ((xU _ _ _ _).trans ?_);unfold me;rw[za1 h9,bL,za2 (show¬((l.length:Int)>9) by omega),bv,g1,bA,cj,hd,show(!true)=false from rfl,bv,g2];rfl
  ·have hd:tU l=false:=by simpa using hd
   obtain⟨B,hB,e1,_⟩:=fP [one 318 [SB l] (.bool (tU l))] ⟨bM (L2 l hl) rfl,trivial⟩ rfl;have g1:bw B 318 [SB l]=some (.bool (tU l)):=e1 ();refine dT hB Tryz.func285 (ord:=O0) (N:=N0) (by kernel_rfl) ((xU _ _ _ _).trans ?_);unfold me;rw[bL,za2 (show¬((l.length:Int)>9) by omega),bv,g1,bA,cj,hd];rfl
 ·refine dT cK Tryz.func285 (ord:=O0) (N:=N0) (by kernel_rfl) ((xU _ _ _ _).trans ?_);unfold me;rw[bL,za1 (show((l.length:Int)>9) by omega),za2 h9,bx,Bool.and_false];rfl
theorem GZ{l:List UInt8}(h:(tU l&&decide (l.length≤9))=true):me l=(((vN 0 l:Nat):Int),true):=by unfold me;rw[if_pos h]
theorem L4{l:List UInt8}(h:(tU l&&decide (l.length≤9))=false):me l=(0,false):=by unfold me;rw[h];rfl
theorem nK(r:List UInt8):md (45::r)=(tU r&&decide (r.length≤9)&& !(r.head?==some 48)):=by
 have hc:cq (45::r) 45=r:=by unfold cq;rw[if_pos (by simp)];rfl
 have hne:((45::r:List UInt8)==[48])=false:=by simp
 unfold md tU;rw[hc,hne];generalize (r==[])=Z;generalize r.all eW=A;generalize (r.head?==some 48)=H;generalize decide (r.length≤9)=N;generalize decide (r.length≤1)=M;cases A<;>cases H<;>cases N<;>cases M<;>cases Z<;>rfl
theorem tV{x:UInt8}{r:List UInt8}(hx:x≠45):md (x::r)=(tU (x::r)&&decide ((x::r).length≤9)):=by
 have hc:cq (x::r) 45=x::r:=by unfold cq;rw[show((x::r).head?==some (45:UInt8))=false by simpa using hx];rfl
 have hE:((x::r:List UInt8)==[48])=(((x::r).head?==some (48:UInt8))&&decide ((x::r).length≤1)):=by
  cases r with
  |nil=>simp
  |cons y r=>simp
 unfold md tU;rw[hc,hE];generalize ((x::r:List UInt8)==[])=Z;generalize (x::r).all eW=A;generalize ((x::r).head?==some (48:UInt8))=H;generalize decide ((x::r).length≤9)=N;generalize decide ((x::r).length≤1)=M;cases A<;>cases H<;>cases N<;>cases M<;>cases Z<;>rfl
theorem G0{l:List UInt8}(h:md l=true):cR l=(if l.head?==some 45 then -((vN 0 (cq l 45):Nat):Int) else((vN 0 l:Nat):Int),true):=by unfold cR;rw[if_pos h]
theorem tW{l:List UInt8}(h:md l=false):cR l=(0,false):=by unfold cR;rw[h];rfl
theorem zS(l:List UInt8):cR l=(if l.head?==some 45&&decide (1<l.length) then(0-(me l.tail).1,(me l.tail).2&&decide (0<(me l.tail).1)) else me l):=by
 cases l with
 |nil=>rfl
 |cons x r=>
  by_cases hx:x=45
  ·subst hx;have hc:cq (45::r) 45=r:=by unfold cq;rw[if_pos (by simp)];rfl
   rw[show((45::r).head?==some (45:UInt8))=true by simp,Bool.true_and,List.tail_cons];cases r with
   |nil=>rfl
   |cons y r=>
    rw[za1 (show 1<(45::y::r).length by simp),if_pos rfl];cases hb:(tU (y::r)&&decide ((y::r).length≤9)) with
    |false=>rw[L4 hb,tW (by rw[nK,hb];rfl)];rfl
    |true=>
     rw[GZ hb];have hdf:tU (y::r)=true:=by
      rw[zc4] at hb;exact hb.1
     unfold tU at hdf;simp only[zc4] at hdf;obtain⟨_,hall,hlz⟩:=hdf;by_cases hy:y=48
     ·subst hy;rw[tW (by rw[nK,hb];simp)];cases r with
      |nil=>rfl
      |cons z r=>simp at hlz
     ·have hdy:oN y:=(oW y).1 (zd9.1 hall y (by simp));have hpos:0<vN 0 (y::r):=by
       have h1:48<y.toNat:=by
        have:=hdy.1;rcases Nat.lt_or_ge 48 y.toNat with h|h
        ·exact h
        ·exact absurd (UInt8.toNat_inj.1 (show y.toNat=(48:UInt8).toNat from(by omega:y.toNat=48))) hy
       exact zb2 (show 0<10*0+(y.toNat-48) by omega) (L3 r _)
      have hdg:md (45::y::r)=true:=by
       rw[nK,hb];simpa using hy
      rw[G0 hdg,hc,if_pos (by simp),za1 (by show(0:Int)<((vN 0 (y::r):Nat):Int);omega)];simp
  ·have hh:((x::r).head?==some (45:UInt8))=false:=by simpa using hx
   rw[hh,Bool.false_and,if_neg (by decide)];cases hb:(tU (x::r)&&decide ((x::r).length≤9)) with
   |false=>rw[L4 hb,tW (by rw[tV hx,hb])]
   |true=>rw[GZ hb,G0 (by rw[tV hx,hb]),hh];rfl
theorem L5(l:List UInt8)(hl:l.length≤1000000):OK2 233 [SB l] (iH l):=by
 have hit:∀m:List UInt8,0≤(me m).1∧(me m).1≤1000000000:=fun m=>by
  unfold me;split
  ·rename_i h;simp only[zc4,zc7] at h;have hdg:∀c∈m,oN c:=fun c hc=>by
    have h1:=h.1;unfold tU at h1;simp only[zc4] at h1;exact(oW c).1 (zd9.1 h1.2.1 c hc)
   have h1:=LU m 0 0 hdg (by decide);have h2:10^(0+m.length)≤10^9:=Nat.pow_le_pow_right (by decide) (by omega);refine⟨zc9 _,?_⟩;show((vN 0 m:Nat):Int)≤1000000000;have:vN 0 m<10^9:=zb2 h1 h2;omega
  ·exact⟨Int.le_refl _,by decide⟩
 unfold iH;rw[zS];cases l with
 |nil=>
  obtain⟨B,hB,e1,_⟩:=fP [one 285 [SB []] (.tup [.int .i64 (me []).1,.bool (me []).2])] ⟨bM (DP [] (by decide)) rfl,trivial⟩ rfl;refine dT hB Tryz.func233 (ord:=O0) (N:=ES) (by kernel_rfl) ((sd _ _ _ _).trans ?_);rw[bL,za2 (by decide),bv,nJ _ _ _ _ _ c1,bv,show bw B 285 [D.str (bs [])]=some (.tup [.int .i64 (me []).1,.bool (me []).2]) from e1 ()];rfl
 |cons x r=>
  have hdone:∀B,dA B→bw B 285 [SB (x::r)]=some (.tup [.int .i64 (me (x::r)).1,.bool (me (x::r)).2])→oS (bw B) LL C1 (bs (x::r)) false=some (.tup [.int .i64 (me (x::r)).1,.bool (me (x::r)).2]):=fun B hB g=>by
   rw[nJ _ _ _ _ _ c1,bv,g];rfl
  by_cases h1:1<(x::r).length
  ·by_cases hx:x=45
   ·subst hx;obtain⟨B,hB,e1,_⟩:=fP [one 285 [SB r] (.tup [.int .i64 (me r).1,.bool (me r).2])] ⟨bM (DP r (by simp at hl;omega)) rfl,trivial⟩ rfl;have g1:bw B 285 [SB r]=some (.tup [.int .i64 (me r).1,.bool (me r).2]):=e1 ();have hb:=hit r;refine dT hB Tryz.func233 (ord:=O0) (N:=ES) (by kernel_rfl) ((sd _ _ _ _).trans ?_);rw[bL,za1 (show(((45::r:List UInt8).length:Nat):Int)>1 by omega),bx];refine bK (za1 ⟨Int.le_refl _,by simp⟩) ?_;rw[nc (i:=0) (b:=45) rfl,show((((45:UInt8).toNat:Nat):Int)==45)=true from rfl,nJ _ _ _ _ _ c1,bx];refine bK (za1 ⟨by decide,by rw[bL];simp;omega,Int.le_refl _⟩) ?_;rw[bL,za3,kY,List.take_length,show(45::r).drop 1=r from rfl,g1,bA];rw[show((45::r).head?==some (45:UInt8))=true by simp,za1 h1,Bool.and_self,if_pos rfl,List.tail_cons];show bz (me r).2 _ _=_;rw[bS (by omega)];cases (me r).2<;>rfl
   ·have hh:((x::r).head?==some (45:UInt8))=false:=by simpa using hx
    obtain⟨B,hB,e1,_⟩:=fP [one 285 [SB (x::r)] (.tup [.int .i64 (me (x::r)).1,.bool (me (x::r)).2])] ⟨bM (DP _ hl) rfl,trivial⟩ rfl;refine dT hB Tryz.func233 (ord:=O0) (N:=ES) (by kernel_rfl) ((sd _ _ _ _).trans ?_);rw[bL,za1 (show(((x::r).length:Nat):Int)>1 by omega),bx];refine bK (za1 ⟨Int.le_refl _,by simp⟩) ?_;rw[nc (i:=0) (b:=x) rfl,show(45:Int)=((45:UInt8).toNat:Int) from rfl,wb,za2 hx,hh,Bool.false_and,if_neg (by decide)];exact hdone B hB (e1 ())
  ·obtain⟨B,hB,e1,_⟩:=fP [one 285 [SB (x::r)] (.tup [.int .i64 (me (x::r)).1,.bool (me (x::r)).2])] ⟨bM (DP _ hl) rfl,trivial⟩ rfl;refine dT hB Tryz.func233 (ord:=O0) (N:=ES) (by kernel_rfl) ((sd _ _ _ _).trans ?_);rw[bL,za2 (show¬(((x::r).length:Nat):Int)>1 by omega),bv,za2 h1,Bool.and_false,if_neg (by decide)];exact hdone B hB (e1 ())
theorem Su(a b:List UInt8)(ha:a.length≤1000000)(hb:b.length≤1000000):OK2 190 [SB a,SB b] (gz a b):=by
 obtain⟨B,hB,e1,_⟩:=fP [⟨233,Bool,fun q=>match q with|true=>[SB a]|false=>[SB b],fun q=>match q with|true=>iH a|false=>iH b⟩] ⟨⟨fun q=>match q with|true=>L5 a ha|false=>L5 b hb,fun x y e=>by
  cases x<;>cases y
  ·rfl
  ·have e:[SB b]=[SB a]:=e;simp only[zc5,D.str.injEq,and_true] at e;show iH b=iH a;rw[eE e]
  ·have e:[SB a]=[SB b]:=e;simp only[zc5,D.str.injEq,and_true] at e;show iH a=iH b;rw[eE e]
  ·rfl,fun q=>by cases q<;>rfl⟩,trivial⟩ rfl
 refine dT hB Tryz.func190 (ord:=O0) (N:=N0) (by kernel_rfl) ((KD _ _ _ _ _).trans (bI (show bw B 233 [SB a]=some (iH a) from e1 true) (bI (show bw B 233 [SB b]=some (iH b) from e1 false) ?_)));show bz (cR a).2 _ _=some (gz a b);unfold gz;cases (cR a).2<;>rfl
end Go.Pd
end
