import Derived.Test.YtmhbhlbnlmbhlaaGreatDoorCtA
import Derived.KernelRfl
section
namespace Go.Pd
open Go Go.Proofs
set_option maxRecDepth 100000
abbrev NW:=Option (Nat×List D)
def wO:NW→Ow
 |none=> .nil
 |some p=> .own p.1 p.2
def m6:NW→D
 |none=> .nils
 |some p=> .slc false p.1 p.2
def Oe{γ:Type}(k:Nat)(o:NW)(ds:List D)(f:NW→Option γ):Option γ:=match o with
 |none=>f (some (1,ds))
 |some p=>bH (decide ((p.1+1)*k≤limit∧p.1+1≤9223372036854775807)) (f (some (p.1+1,p.2++ds)))
abbrev wd(s0:ByteArray)(x1 x2 x3 x4:Int)(o1 o2:NW)(s7:ByteArray):D:= .agg [.str s0,.int .i64 x1,.int .i64 x2,.int .i64 x3,.int .i64 x4,m6 o1,m6 o2,.str s7]
def Kv(r:D)(k:ByteArray→Int→Int→Int→Int→NW→NW→ByteArray→Bool→Option D):Option D:=
 cy r 2 fun c1=>bu c1 0 fun d=>dq d 8 fun c2=>bu c1 1 fun d=>ce d fun b=>bu c2 0 fun d=>bU d fun s=>bu c2 1 fun d=>bD .i64 d fun x1=>bu c2 2 fun d=>bD .i64 d fun x2=>bu c2 3 fun d=>bD .i64 d fun x3=>bu c2 4 fun d=>bD .i64 d fun x4=>
  bu c2 5 fun d=>jY d (bu c2 6 fun d=>jY d (bu c2 7 fun d=>bU d fun t=>k s x1 x2 x3 x4 .none .none t b) fun f n c=>bH (!f) (bu c2 7 fun d=>bU d fun t=>k s x1 x2 x3 x4 .none (some (n,c)) t b))
   fun f n c=>bH (!f) (bu c2 6 fun d=>jY d (bu c2 7 fun d=>bU d fun t=>k s x1 x2 x3 x4 (some (n,c)) .none t b) fun f2 n2 c3=>bH (!f2) (bu c2 7 fun d=>bU d fun t=>k s x1 x2 x3 x4 (some (n,c)) (some (n2,c3)) t b))
theorem Kw(call:CL)(mu:FuncId→List D→Option D)(L:Nat)(C:Nat→Nat)(J:ByteArray)(K M O S:Int)(q U:ByteArray)(w1 z:NW):mE (rX call mu L C) O0 N0 0 nI nI [2,3] Tryz.f183 [D.str J,.int .i64 K,.int .i64 M,.int .i64 O,.int .i64 S,m6 w1,m6 z,.str q] [D.nils,D.str U]=
 (bB (call 142 [D.slc true 6 [D.str (ByteArray.mk #[]),D.str (ByteArray.mk #[104,111,108,101]),D.str (ByteArray.mk #[116,101,101]),D.str (ByteArray.mk #[99,117,112]),D.str (ByteArray.mk #[118,105,97]),D.str (ByteArray.mk #[97,114,101,97])],D.str U]) fun r=>bD .i64 r fun x=>bB (call 142 [D.slc true 6 [D.str (ByteArray.mk #[]),D.str (ByteArray.mk #[104,111,108,101]),D.str (ByteArray.mk #[116,101,101]),D.str (ByteArray.mk #[99,117,112]),D.str (ByteArray.mk #[118,105,97]),D.str (ByteArray.mk #[97,114,101,97])],D.str q]) fun r=>bD .i64 r fun y=>
 bz (decide (x<4)) (some (.tup [wd J K M O S w1 z q,.bool (x==IntKind.wrap .i64 (y+1))])) (bz (decide (y≥3)) (some (.tup [wd J K M O S w1 z q,.bool (decide (x≥y))])) (some (.tup [wd J K M O S w1 z q,.bool false])))):=by
 cases w1<;>cases z<;>kernel_rfl
def Of:bY:=fun p=>match p with
 |58=>nm [0,7,17,18,19] [13,52] [7,13,41,52]
 |_=>none
noncomputable def rZ(call:CL)(mu:FuncId→List D→Option D)(L:Nat)(C:Nat→Nat)(n:Nat)(V:Bool)(W:Nat)(U:List D)(J:ByteArray)(X Y x3 x4:Int)(w1 z:NW)(K S:ByteArray)(M O:Int)(q:NW):Option D:=
 cw (rX call mu L C) O0 Of (FinM.pbx 0 nI) Tryz.f184 (bt 5 11) [] n (St.mk (D.loc 0 0 0::jn 6 (D.loc 7 0 0::jn 9 (D.slc V W U::D.int .i64 M::D.int .i64 O::jn 36 []))) ((1,some (Ob.box [D.str J,D.int .i64 X,D.int .i64 Y,D.int .i64 x3,D.int .i64 x4,jv 3 (wO w1),jv 4 (wO z),D.str K] false))::Z::Z::j5 23 2 (wO w1)::j5 84 2 (wO z)::Z::Z::(1,some (Ob.box [D.str S,jv 41 (wO q)] false))::zn 33 (j5 23 2 (wO q)::zn 14 [])))
abbrev GT(call:CL)(wc:List D)(n:Nat)(t:Int)(fail:Option D)(k:Int→Int→Option D):Option D:=
 bH (decide (0≤t∧t<(n:Int))) (bu wc (Int.toNat t*1) fun d=>bU d fun s=>bB (call 228 [.str s,.str (ByteArray.mk #[44])]) fun r=>cy r 3 fun c=>bu c 0 fun d=>bU d fun s1=>bu c 1 fun d=>bU d fun s2=>bu c 2 fun d=>ce d fun _b=>
  bB (call 185 [.str s1,.str s2]) fun r=>cy r 2 fun c=>bu c 0 fun d=>dq d 2 fun c2=>bu c2 0 fun d=>bD .i64 d fun x=>bu c2 1 fun d=>bD .i64 d fun y=>bu c 1 fun d=>ce d fun b=>bz (!b) fail (k x y))
theorem B6(call:CL)(mu:FuncId→List D→Option D)(L:Nat)(C:Nat→Nat)(n:Nat)(f:Bool)(m:Nat)(c:List D)(z:ByteArray)(O S U V:Int)(J k:ByteArray)(W K:Int)(M:NW)(w1 q:NW):rZ call mu L C (n+1) f m c z O S U V w1 q J k W K M=
 bz (decide (K<W)) (GT call c m K (some (.tup [wd z O S U V w1 q J,.bool false])) fun x y=>Oe 16 M [.int .i64 x,.int .i64 y] fun o=>rZ call mu L C n f m c z O S U V w1 q J k W (IntKind.wrap .i64 (K+1)) o)
 (Oe 40 q [.str k,m6 M] fun o=>some (.tup [wd z O S U V w1 o J,.bool true])):=by
 cases M<;>cases w1<;>cases q<;>kernel_rfl
theorem Kx(call:CL)(mu:FuncId→List D→Option D)(L:Nat)(C:Nat→Nat)(z:ByteArray)(K M O S:Int)(J k:ByteArray)(f:Bool)(m:Nat)(c:List D)(w1 q:NW):mE (rX call mu L C) O0 Of 0 nI nI [3,4] Tryz.f184 [D.str z,.int .i64 K,.int .i64 M,.int .i64 O,.int .i64 S,m6 w1,m6 q,.str J] [D.nils,.str k,D.slc f m c]=
 rZ call mu L C L f m c z K M O S w1 q J k (m:Int) 0 none:=by
 cases w1<;>cases q<;>kernel_rfl
def ER:bY:=fun p=>match p with
 |15=>nm [0,5] [6] [2,3,6,97]
 |63=>nm [0,5] [6] [2,3,6,97]
 |249=>nm [0,5,26] [6] [2,3,6,97]
 |999=>nm [0,5,43] [6] [2,3,6,97]
 |_=>none
def B7:fX:=fun id=>match id with
 |9=>some {bar:=true}
 |12=>some {l:=some [0,1,2,3,4,5,6,7,8,9,10,11,12],ks:=[6]}
 |_=>none
noncomputable def r9(call:CL)(mu:FuncId→List D→Option D)(L:Nat)(C:Nat→Nat)(f:Bool)(m:Nat)(c:List D)(z:ByteArray)(M O S U:Int)(K:ByteArray)(w1 q:NW):Option D:=
 eL (rX call mu L C) B7 ER (FinM.pbx 0 nI) Tryz.f130 (bt 5 31) [] (C 63) (St.mk (D.loc 0 0 0::J::J::J::J::D.slc f m c::jn 110 []) ((1,some (Ob.box [D.str z,D.int .i64 M,D.int .i64 O,D.int .i64 S,D.int .i64 U,jv 2 (wO w1),jv 3 (wO q),D.str K] false))::Z::j5 23 2 (wO w1)::j5 84 2 (wO q)::zn 112 []))
noncomputable def km(call:CL)(mu:FuncId→List D→Option D)(L:Nat)(C:Nat→Nat)(f:Bool)(m:Nat)(c:List D)(z:ByteArray)(M O S U:Int)(K:ByteArray)(t:Bool)(w1 q:NW):Option D:=
 eL (rX call mu L C) B7 ER (FinM.pbx 0 nI) Tryz.f130 (bt 9 463) [] (C 999) (St.mk (D.loc 0 0 0::J::J::J::J::D.slc f m c::jn 37 (D.bool t::jn 72 [])) ((1,some (Ob.box [D.str z,D.int .i64 M,D.int .i64 O,D.int .i64 S,D.int .i64 U,jv 2 (wO w1),jv 3 (wO q),D.str K] false))::Z::j5 23 2 (wO w1)::j5 84 2 (wO q)::zn 112 []))
noncomputable def kn(call:CL)(mu:FuncId→List D→Option D)(L:Nat)(C:Nat→Nat)(f:Bool)(m:Nat)(c:List D)(z:ByteArray)(M O S U:Int)(t:Bool)(w1 q:NW)(K:ByteArray):Option D:=
 eL (rX call mu L C) B7 ER (FinM.pbx 0 nI) Tryz.f130 (bt 7 79) [] (C 249) (St.mk (D.loc 0 0 0::J::J::J::J::D.slc f m c::jn 20 (D.bool t::jn 89 [])) ((1,some (Ob.box [D.str z,D.int .i64 M,D.int .i64 O,D.int .i64 S,D.int .i64 U,jv 2 (wO w1),jv 3 (wO q),D.str K] false))::Z::j5 23 2 (wO w1)::j5 84 2 (wO q)::zn 112 []))
noncomputable def sa(call:CL)(mu:FuncId→List D→Option D)(L:Nat)(C:Nat→Nat)(f:Bool)(m:Nat)(c:List D)(z:ByteArray)(M O S U:Int)(w1 q:NW)(K:ByteArray):Option D:=
 eL (rX call mu L C) B7 ER (FinM.pbx 0 nI) Tryz.f130 [true,true,true] [] (C 15) (St.mk (D.loc 0 0 0::J::J::J::J::D.slc f m c::jn 110 []) ((1,some (Ob.box [D.str z,D.int .i64 M,D.int .i64 O,D.int .i64 S,D.int .i64 U,jv 2 (wO w1),jv 3 (wO q),D.str K] false))::Z::j5 23 2 (wO w1)::j5 84 2 (wO q)::zn 112 []))
theorem B8(call:CL)(mu:FuncId→List D→Option D)(L:Nat)(C:Nat→Nat)(f:Bool)(m:Nat)(c:List D)(z:ByteArray)(K M O S:Int)(J:ByteArray)(w1 q:NW)(hC:∀t,C t=1):r9 call mu L C f m c z K M O S J w1 q=
 bH (decide ((0:Int)≤1∧1<(m:Int))) (bu c 1 fun d=>bU d fun s=>bH (decide ((0:Int)≤2∧2<(m:Int))) (bu c 2 fun d=>bU d fun W=>bB (call 185 [.str s,.str W]) fun r=>cy r 2 fun U=>bu U 0 fun d=>dq d 2 fun V=>bu V 0 fun d=>bD .i64 d fun x=>bu V 1 fun d=>bD .i64 d fun y=>bu U 1 fun d=>ce d fun b=>
 bH (decide ((0:Int)≤0∧0<(m:Int))) (bu c 0 fun d=>bU d fun s=>bz (ByteArray.toList s==ByteArray.toList (ByteArray.mk #[116,101,101])) (some (.tup [wd z x y O S w1 q J,.bool b]))
 (bz (ByteArray.toList s==ByteArray.toList (ByteArray.mk #[99,117,112])) (some (.tup [wd z K M x y w1 q J,.bool b])) (Oe 16 w1 [.int .i64 x,.int .i64 y] fun o=>some (.tup [wd z K M O S o q J,.bool b])))))):=by
 unfold r9;rw[hC];cases w1<;>cases q<;>kernel_rfl
theorem qS(call:CL)(mu:FuncId→List D→Option D)(L:Nat)(C:Nat→Nat)(f:Bool)(m:Nat)(c:List D)(O:ByteArray)(q z J K:Int)(S:ByteArray)(t:Bool)(w1 M:NW)(hC:∀t,C t=1):km call mu L C f m c O q z J K S t w1 M=
 bz t (bH (decide ((0:Int)≤1∧1<(m:Int))) (bu c 1 fun d=>bU d fun s=>bH (decide ((0:Int)≤2∧2≤(m:Int)∧(m:Int)≤(m:Int)))
 (bB (mu 184 [wd O q z J K w1 M S,.str s,D.slc (f&&decide ((m:Int)=(m:Int))) (Int.toNat ((m:Int)-2)) (List.take (Int.toNat ((m:Int)-2)*1) (List.drop 2 c))]) fun r=>Kv r fun s q z J K U V t b=>some (.tup [wd s q z J K U V t,.bool b]))))
 (bH (decide ((0:Int)≤0∧0<(m:Int))) (bu c 0 fun d=>bU d fun s=>bz (ByteArray.toList s==ByteArray.toList (ByteArray.mk #[104,111,108,101])) (some (.tup [wd O q z J K w1 M S,.bool false]))
 (bH (decide ((0:Int)≤0∧0<(m:Int))) (bu c 0 fun d=>bU d fun s=>bz (ByteArray.toList s==ByteArray.toList (ByteArray.mk #[97,114,101,97])) (some (.tup [wd O q z J K w1 M S,.bool false]))
 (bz ((m:Int) !=3) (some (.tup [wd O q z J K w1 M S,.bool false])) (r9 call mu L C f m c O q z J K S w1 M)))))):=by
 unfold km;rw[hC];cases w1<;>cases M<;>kernel_rfl
theorem zK(call:CL)(mu:FuncId→List D→Option D)(L:Nat)(C:Nat→Nat)(f:Bool)(m:Nat)(c:List D)(S:ByteArray)(J K M O:Int)(t:Bool)(z:ByteArray)(w1 q:NW)(hC:∀t,C t=1):kn call mu L C f m c S J K M O t w1 q z=
 bz t (bH (decide ((0:Int)≤1∧1<(m:Int))) (bu c 1 fun d=>bU d fun s=>some (.tup [wd s J K M O w1 q z,.bool true])))
 (bH (decide ((0:Int)≤0∧0<(m:Int))) (bu c 0 fun d=>bU d fun s=>bz (ByteArray.toList s==ByteArray.toList (ByteArray.mk #[97,114,101,97])) (km call mu L C f m c S J K M O z (decide ((m:Int)≥2)) w1 q) (km call mu L C f m c S J K M O z false w1 q))):=by
 unfold kn;rw[hC];cases w1<;>cases q<;>kernel_rfl
theorem B9(call:CL)(mu:FuncId→List D→Option D)(L:Nat)(C:Nat→Nat)(f:Bool)(m:Nat)(c:List D)(z:ByteArray)(J K M O:Int)(U:ByteArray)(w1 q:NW)(hC:∀t,C t=1):sa call mu L C f m c z J K M O w1 q U=
 bH (decide ((0:Int)≤0∧0<(m:Int))) (bu c 0 fun d=>bU d fun s=>bH (decide ((0:Int)≤0∧0<(m:Int))) (bu c 0 fun d=>bU d fun S=>bz (ByteArray.toList S==ByteArray.toList (ByteArray.mk #[104,111,108,101])) (kn call mu L C f m c z J K M O ((m:Int)==2) w1 q s) (kn call mu L C f m c z J K M O false w1 q s))):=by
 unfold sa;rw[hC];cases w1<;>cases q<;>kernel_rfl
theorem Ky(call:CL)(mu:FuncId→List D→Option D)(L:Nat)(C:Nat→Nat)(O:ByteArray)(q z J K:Int)(S W:ByteArray)(w1 M:NW):mE (rX call mu L C) B7 ER 0 nI nI [2,3] Tryz.f130 [D.str O,.int .i64 q,.int .i64 z,.int .i64 J,.int .i64 K,m6 w1,m6 M,.str S] [D.nils,D.str W]=
 (bB (call 131 [D.str W,D.str (ByteArray.mk #[32])]) fun r=>dr r fun f n c=>bB (call 86 [D.slc f n c,D.str (ByteArray.mk #[])]) fun r=>ce r fun b=>bz b (some (.tup [wd O q z J K w1 M S,.bool false]))
 (bH (decide ((0:Int)≤0∧0<(n:Int))) (bu c 0 fun d=>bU d fun s=>bB (mu 183 [wd O q z J K w1 M S,.str s]) fun r=>Kv r fun s q z J K U V t b=>bz (!b) (some (.tup [wd s q z J K U V t,.bool false])) (sa call mu L C f n c s q z J K U V t)))):=by
 cases w1<;>cases M<;>kernel_rfl
def VE:bY:=fun p=>match p with
 |506=>nm [2,6,7,8,33,34,35] [] [0,1,2,27]
 |_=>none
noncomputable def sb(call:CL)(mu:FuncId→List D→Option D)(L:Nat)(C:Nat→Nat)(K:Nat)(a3:Bool)(a4:Nat)(a2:List D)(Y:Bool)(Z:Nat)(X:List D)(a0 a1:Int)(M:ByteArray)(O S U V:Int)(q z:NW)(W:ByteArray):Option D:=
 cw (rX call mu L C) O0 VE FinM.canon Tryz.f72 (bt 8 95) [] K (St.mk (J::J::D.loc 2 0 0::J::J::J::D.loc 27 0 0::D.fn (Fn.func 130) [D.loc 27 0 0] []::D.slc a3 a4 a2::jn 24 (D.slc Y Z X::D.int .i64 a0::D.int .i64 a1::jn 41 [])) (j5 23 2 (wO q)::j5 84 2 (wO z)::(1,some (Ob.box [D.str (ByteArray.mk #[]),D.int .i64 0,D.int .i64 0,D.int .i64 0,D.int .i64 0,D.nils,D.nils] false))::zn 24 ((1,some (Ob.box [D.str M,D.int .i64 O,D.int .i64 S,D.int .i64 U,D.int .i64 V,jv 0 (wO q),jv 1 (wO z),D.str W] false))::zn 49 [])))
theorem tO(call:CL)(mu:FuncId→List D→Option D)(L:Nat)(C:Nat→Nat)(n:Nat)(f:Bool)(m:Nat)(c:List D)(g:Bool)(W:Nat)(V:List D)(X q:Int)(S:ByteArray)(z J K M:Int)(U:ByteArray)(w1 O:NW):sb call mu L C (n+1) f m c g W V X q S z J K M w1 O U=
 bz (decide (q<X)) (bH (decide (0≤q∧q<(W:Int))) (bu V (Int.toNat q*1) fun d=>bU d fun s=>bB (mu 130 [wd S z J K M w1 O U,.str s]) fun r=>Kv r fun s z J K M Y Z t b=>
 bz (!b) (some (.tup [(D.agg [D.str (ByteArray.mk #[]),.int .i64 0,.int .i64 0,.int .i64 0,.int .i64 0,.slc true 0 [],.slc true 0 []]),.int .i64 (IntKind.wrap .i64 (q+1)),.int .i64 25])) (sb call mu L C n f m c g W V X (IntKind.wrap .i64 (q+1)) s z J K M Y Z t)))
 (bz (ByteArray.toList U==ByteArray.toList (ByteArray.mk #[104,111,108,101])) (some (.tup [(D.agg [D.str (ByteArray.mk #[]),.int .i64 0,.int .i64 0,.int .i64 0,.int .i64 0,.slc true 0 [],.slc true 0 []]),.int .i64 (IntKind.wrap .i64 ((m:Int)+1)),.int .i64 25]))
 (bz (ByteArray.toList U==ByteArray.toList (ByteArray.mk #[116,101,101])) (some (.tup [(D.agg [D.str (ByteArray.mk #[]),.int .i64 0,.int .i64 0,.int .i64 0,.int .i64 0,.slc true 0 [],.slc true 0 []]),.int .i64 (IntKind.wrap .i64 ((m:Int)+1)),.int .i64 25]))
 (bB (call 21 [D.agg [.str S,.int .i64 z,.int .i64 J,.int .i64 K,.int .i64 M,m6 w1,m6 O]]) fun r=>bD .i64 r fun x=>bz (x !=0) (some (.tup [(D.agg [D.str (ByteArray.mk #[]),.int .i64 0,.int .i64 0,.int .i64 0,.int .i64 0,.slc true 0 [],.slc true 0 []]),.int .i64 0,.int .i64 x]))
 (some (.tup [.agg [.str S,.int .i64 z,.int .i64 J,.int .i64 K,.int .i64 M,canon0 (m6 w1),canon0 (m6 O)],.int .i64 0,.int .i64 0]))))):=by
 cases w1<;>cases O<;>kernel_rfl
theorem Og(call:CL)(mu:FuncId→List D→Option D)(L:Nat)(C:Nat→Nat)(vs:ByteArray):bT (rX call mu L C) O0 VE FinM.canon Tryz.f72 [D.str vs]=
 (bB (call 84 [D.bool (decide (((ByteArray.size vs):Int)>4096)),D.int .i64 26]) fun r=>bD .i64 r fun x=>bB (call 129 [D.str vs,D.str (ByteArray.mk #[10])]) fun z=>ce z fun b=>bB (call 84 [D.bool !b,D.int .i64 28]) fun J=>bD .i64 J fun S=>bB (call 76 [D.slc true 2 [D.int .i64 x,D.int .i64 S]]) fun K=>bD .i64 K fun q=>bz (q !=0)
 (some (D.tup [D.agg [D.str (ByteArray.mk #[]),D.int .i64 0,D.int .i64 0,D.int .i64 0,D.int .i64 0,D.slc true 0 [],D.slc true 0 []],D.int .i64 0,D.int .i64 q]))
 (bB (call 132 [D.str vs,D.str (ByteArray.mk #[10])]) fun M=>bU M fun s=>bB (call 131 [D.str s,D.str (ByteArray.mk #[10])]) fun O=>dr O fun f n c=>sb call mu L C L f n c f n c ((n:Int)) 0 (ByteArray.mk #[]) 0 0 0 0 none none (ByteArray.mk #[]))):=by kernel_rfl
end Go.Pd
end
