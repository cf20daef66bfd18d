import Derived.Test.YtmhbhlbnlmbhlaaGreatDoorCrA
import Derived.KernelRfl
import Derived.Test.YtmhbhlbnlmbhlaaGreatDoorCrN
section
namespace Go.Pd
open Go Go.Proofs
set_option maxRecDepth 100000
def NV:bY:=fun p=>match p with
 |12=>nm [0] [] []
 |_=>none
noncomputable def rU(call:CL)(L:Nat)(C:Nat→Nat)(n:Nat)(z:Bool)(J:Nat)(q:List D):Option D:=
 cw (cF call L C) O0 NV FinM.canon Tryz.f269 [true,false,false] [] n (St.mk (D.slc z J q::jn 20 []) (zn 21 []))
theorem tH(call:CL)(L:Nat)(C:Nat→Nat)(n:Nat)(J:Bool)(q:Nat)(z:List D):rU call L C (n+1) J q z=
 (bz (decide ((q:Int)>0))
 (bH (decide (0≤IntKind.wrap .i64 ((q:Int)-1)∧IntKind.wrap .i64 ((q:Int)-1)<(q:Int)))
 (bu z (Int.toNat (IntKind.wrap .i64 ((q:Int)-1))*1) fun d=>bD .i64 d fun x=>bz (x==0)
 (bH (decide (0≤(0:Int)∧(0:Int)≤IntKind.wrap .i64 ((q:Int)-1)∧IntKind.wrap .i64 ((q:Int)-1)≤(q:Int)))
 (rU call L C n (J&&decide (IntKind.wrap .i64 ((q:Int)-1)=(q:Int))) (Int.toNat (IntKind.wrap .i64 ((q:Int)-1)-(0:Int))) (List.take (Int.toNat (IntKind.wrap .i64 ((q:Int)-1)-(0:Int))*1) z)))
 (some (D.slc J q z))))
 (some (D.slc J q z))):=by kernel_rfl
theorem J3(call:CL)(L:Nat)(C:Nat→Nat)(z:Bool)(J:Nat)(q:List D):bT (cF call L C) O0 NV FinM.canon Tryz.f269 [D.slc z J q]=
 (rU call L C L z J q):=by kernel_rfl
theorem J4(call:CL)(L:Nat)(C:Nat→Nat)(q J:Bool)(K:Nat)(z:List D):bT (cF call L C) O0 N0 FinM.canon Tryz.f220 [D.bool q,D.slc J K z]=
 (bB (call 269 [D.slc J K z]) fun r=>dr r fun f n c=>bz q
 (some (D.agg [D.bool (decide ((n:Int)>0)),D.slc f n c]))
 (some (D.agg [D.bool false,D.slc f n c]))):=by kernel_rfl
def J5:bY:=fun p=>match p with
 |60=>nm [0,2,3,4] [] [2,19]
 |_=>none
noncomputable def fJ(call:CL)(L:Nat)(C:Nat→Nat)(n:Nat)(z:Int)(q:Ow)(K:Bool):Option D:=
 cw (cF call L C) O0 J5 FinM.canon Tryz.f208 (bt 5 7) [] n (St.mk (D.int .i64 z::J::D.loc 2 0 0::jv 19 q::D.bool K::jn 20 []) (Z::Z::(1,some (Ob.box [D.bool false,D.nils] false))::zn 16 (j5 3 1 q::zn 5 [])))
theorem qO(call:CL)(L:Nat)(C:Nat→Nat)(n:Nat)(q:Int)(z:Bool):fJ call L C (n+1) q (Ow.nil) z=
 (bz (q !=0)
 (bz (decide (Int.tmod q 1000000000<0))
 (fJ call L C n (IntKind.wrap .i64 (Int.tdiv q 1000000000)) (Ow.own 1 [D.int .i64 (IntKind.wrap .i64 (0-Int.tmod q 1000000000))]) z)
 (fJ call L C n (IntKind.wrap .i64 (Int.tdiv q 1000000000)) (Ow.own 1 [D.int .i64 (Int.tmod q 1000000000)]) z))
 (bB (call 220 [D.bool z,D.nils]) fun r=>dq r 2 fun c=>bu c 0 fun d=>ce d fun b=>bu c 1 fun K=>dr K fun f M J=>some (D.agg [D.bool b,D.slc f M J]))):=by kernel_rfl
theorem qP(call:CL)(L:Nat)(C:Nat→Nat)(n:Nat)(z:Int)(q:Nat)(K:List D)(J:Bool):fJ call L C (n+1) z (Ow.own q K) J=
 (bz (z !=0)
 (bz (decide (Int.tmod z 1000000000<0))
 (bH (decide ((q+1)*8≤limit∧q+1≤9223372036854775807))
 (fJ call L C n (IntKind.wrap .i64 (Int.tdiv z 1000000000)) (Ow.own (q+1) (K++[D.int .i64 (IntKind.wrap .i64 (0-Int.tmod z 1000000000))])) J))
 (bH (decide ((q+1)*8≤limit∧q+1≤9223372036854775807))
 (fJ call L C n (IntKind.wrap .i64 (Int.tdiv z 1000000000)) (Ow.own (q+1) (K++[D.int .i64 (Int.tmod z 1000000000)])) J)))
 (bB (call 220 [D.bool J,D.slc false q K]) fun Y=>dq Y 2 fun M=>bu M 0 fun U=>ce U fun O=>bu M 1 fun V=>dr V fun W X S=>some (D.agg [D.bool O,D.slc W X S]))):=by kernel_rfl
theorem DG(call:CL)(L:Nat)(C:Nat→Nat)(q:Int):bT (cF call L C) O0 J5 FinM.canon Tryz.f208 [D.int .i64 q]=
 (fJ call L C L q (Ow.nil) (decide (q<0))):=by kernel_rfl
def NX:bY:=fun p=>match p with
 |122=>nm [1,3,4] [] [1]
 |_=>none
noncomputable def oL(call:CL)(L:Nat)(C:Nat→Nat)(n:Nat)(q K:Bool)(M:Nat)(z:List D)(vs:ByteArray)(O:Int):Option D:=
 cw (cF call L C) O0 NX FinM.canon Tryz.f213 (bt 6 23) [] n (St.mk (J::D.loc 1 0 0::J::D.str vs::D.int .i64 O::jn 34 []) (Z::(1,some (Ob.box [D.bool q,D.slc K M z] false))::zn 37 []))
theorem qQ(call:CL)(L:Nat)(C:Nat→Nat)(n:Nat)(z O:Bool)(K:Nat)(J:List D)(vs:ByteArray)(q:Int):oL call L C (n+1) z O K J vs q=
 (bz (decide (q≥0))
 (bH (decide (0≤q∧q<(K:Int)))
 (bu J (Int.toNat q*1) fun S=>bD .i64 S fun V=>bB (call 210 [D.int .i64 V,D.int .i64 9]) fun U=>bU U fun M=>bH (!decide (((ByteArray.size vs+ByteArray.size M):Int)>9223372036854775807))
 (oL call L C n z O K J (vs++M) (IntKind.wrap .i64 (q-1)))))
 (bz z
 (bH (!decide (((1+ByteArray.size vs):Int)>9223372036854775807))
 (some (D.str (ByteArray.mk #[45]++vs))))
 (some (D.str vs)))):=by kernel_rfl
theorem J6(call:CL)(L:Nat)(C:Nat→Nat)(J K:Bool)(q:Nat)(z:List D):bT (cF call L C) O0 NX FinM.canon Tryz.f213 [D.agg [D.bool J,D.slc K q z]]=
 (bz ((q:Int)==0)
 (some (D.str (ByteArray.mk #[48])))
 (bH (decide (0≤IntKind.wrap .i64 ((q:Int)-1)∧IntKind.wrap .i64 ((q:Int)-1)<(q:Int)))
 (bu z (Int.toNat (IntKind.wrap .i64 ((q:Int)-1))*1) fun d=>bD .i64 d fun x=>bB (call 210 [D.int .i64 x,D.int .i64 1]) fun r=>bU r fun s=>oL call L C L J K q z s (IntKind.wrap .i64 ((q:Int)-2))))):=by kernel_rfl
end Go.Pd
end
section
namespace Go.Pd
open Go Go.Proofs Go.RowKit
set_option maxRecDepth 100000
def qR:List Int→List Int
 |[]=>[]
 |x::r=>if x=0 then qR r else x::r
def TF(f:Bool):List Int→Bool
 |[]=>f
 |x::_=>if x=0 then false else f
theorem EK(r:List Int)(x:Int){γ:Type}(k:D→Option γ):bu (dE (x::r).reverse) (Int.toNat ((((x::r).length:Nat):Int)-1)*1) k=k (.int .i64 x):=by
 refine cT ?_ k;rw[show Int.toNat ((((x::r).length:Nat):Int)-1)*1=r.length by simp];unfold dE;rw[zc3,List.reverse_cons,zb8 (by simp)];simp
theorem EL(r:List Int)(x:Int):List.take (Int.toNat ((((x::r).length:Nat):Int)-1-(0:Int))*1) (dE (x::r).reverse)=dE r.reverse:=by
 rw[show Int.toNat ((((x::r).length:Nat):Int)-1-(0:Int))*1=r.reverse.length by simp];unfold dE;rw[←List.map_take,List.reverse_cons,List.take_left]
theorem wa:∀r:List Int,TF false r=false
 |[]=>rfl
 |x::r=>by
  show(if x=0 then false else false)=false;split<;>rfl
theorem R2{call:CL}:∀(r:List Int) (fuel:Nat) (f:Bool),r.length≤1000000→r.length<fuel→rU call LL C1 fuel f r.length (dE r.reverse)=some (.slc (TF f r) (qR r).length (dE (qR r).reverse)):=by
 intro r
 induction r with
 |nil=>
  intro fuel f hl hf;obtain⟨fuel,rfl⟩:∃n,fuel=n+1:=⟨fuel-1,by omega⟩;rw[tH,za2 (show¬((([]:List Int).length:Int)>0) by simp),bv];rfl
 |cons x r ih=>
  intro fuel f hl hf;obtain⟨fuel,rfl⟩:∃n,fuel=n+1:=⟨fuel-1,by omega⟩;have hlen:(x::r).length=r.length+1:=rfl;rw[tH,za1 (show(((x::r).length:Nat):Int)>0 by omega),bx,bS (by omega)];refine bK (za1 ⟨by omega,by omega⟩) ?_;rw[EK,bF];rw[show qR (x::r)=if x=0 then qR r else x::r from rfl,show TF f (x::r)=if x=0 then false else f from rfl];by_cases h:x=0
  ·rw[if_pos h,if_pos h,show(x==0)=true by simpa using h,bx];refine bK (za1 ⟨by omega,by omega,by omega⟩) ?_;rw[EL,za2 (show¬((((x::r).length:Nat):Int)-1=(((x::r).length:Nat):Int)) by omega),Bool.and_false,show Int.toNat ((((x::r).length:Nat):Int)-1-(0:Int))=r.length by omega,ih fuel false (by omega) (by omega),wa]
  ·rw[if_neg h,if_neg h,show(x==0)=false by simpa using h,bv]
def gw(l:List Int):List Int:=(qR l.reverse).reverse
def DH(f:Bool)(l:List Int):Bool:=TF f l.reverse
theorem R3{f:Bool}(l:List Int)(hl:l.length≤1000000):OK2 269 [.slc f l.length (dE l)] (.slc (DH f l) (gw l).length (dE (gw l))):=by
 refine dT cK Tryz.func269 (ord:=O0) (N:=NV) (by kernel_rfl) ((J3 _ _ _ _ _ _).trans ?_);have:=R2 (call:=bw fun _ _=>none) l.reverse LL f (by simpa using hl) (by unfold LL;simp;omega);rw[List.reverse_reverse,List.length_reverse] at this;unfold gw DH;rw[List.length_reverse];exact this
def rv(neg:Bool)(f:Bool)(l:List Int):D:= .agg [.bool (neg&&decide (0<l.length)),.slc f l.length (dE l)]
theorem LT{f:Bool}(neg:Bool)(l:List Int)(hl:l.length≤1000000):OK2 220 [.bool neg,.slc f l.length (dE l)] (rv neg (DH f l) (gw l)):=by
 obtain⟨B,hB,e9,_⟩:=fP [one 269 [.slc f l.length (dE l)] (.slc (DH f l) (gw l).length (dE (gw l)))] ⟨bM (R3 l hl) rfl,trivial⟩ rfl;refine dT hB Tryz.func220 (ord:=O0) (N:=N0) (by kernel_rfl) ((J4 _ _ _ _ _ _ _).trans ?_);refine bI (x:=D.slc (DH f l) (gw l).length (dE (gw l))) (e9 ()) (Gw ?_);unfold rv;cases neg
 ·rfl
 ·rw[bx,Bool.true_and,show decide ((((gw l).length:Nat):Int)>0)=decide (0<(gw l).length) from decide_eq_decide.2 (by omega)]
def gf(n:Nat):List Int:=if n=0 then[] else((n%1000000000:Nat):Int)::gf (n/1000000000)
termination_by n
decreasing_by omega
theorem kf:gf 0=[]:=by rw[gf];rfl
theorem oM{n:Nat}(h:n≠0):gf n=((n%1000000000:Nat):Int)::gf (n/1000000000):=by rw[gf,if_neg h]
structure At(l:List Int)(i A:Nat):Prop where
 d:l.drop i=gf A
theorem At.step{l:List Int}{i A:Nat}(h:At l i A):At l (i+1) (A/1000000000):=by
 refine⟨?_⟩;rw[show i+1=i+1 from rfl,←List.drop_drop,h.d];by_cases h0:A=0
 ·subst h0;rw[show 0/1000000000=0 from rfl,kf];rfl
 ·rw[oM h0];rfl
theorem At.get{l:List Int}{i A:Nat}(h:At l i A):l.getD i 0=((A%1000000000:Nat):Int):=by
 rw[List.getD_eq_getElem?_getD,←List.head?_drop,h.d];by_cases h0:A=0
 ·subst h0;rw[kf];rfl
 ·rw[oM h0];rfl
theorem At.lt{l:List Int}{i A:Nat}(h:At l i A):decide ((i:Int)<(l.length:Int))=decide (A≠0):=by
 have hl:(l.drop i).length=l.length-i:=List.length_drop;rw[h.d] at hl;refine decide_eq_decide.2 ⟨fun hi h0=> ?_,fun h0=> ?_⟩
 ·rw[h0,kf] at hl;simp at hl;omega
 ·rw[oM h0] at hl;simp at hl;omega
def GH(l:List Int):Ow:=match l with
 |[]=> .nil
 |_=> .own l.length (dE l)
theorem GI(l:List Int)(x:Int):GH (l++[x])= .own (l.length+1) (dE l++[.int .i64 x]):=by
 rw[EJ];cases l with
 |nil=>rfl
 |cons y r=>show Ow.own (y::r++[x]).length _=_;rw[za6];rfl
section
variable {call:CL}{la lb:List Int}{fa fb:Bool}
end
def jV(a i:Nat):Nat:=a/1000000000^i
theorem kg(a:Nat):jV a 0=a:=by unfold jV;rw[Nat.pow_zero,Nat.div_one]
theorem ki(a i:Nat):jV a (i+1)=jV a i/1000000000:=by unfold jV;rw[Nat.pow_succ,Nat.div_div_eq_div_mul]
theorem xL(a:Nat):∀i,At (gf a) i (jV a i)
 |0=>⟨by rw[kg];rfl⟩
 |i+1=>by
  rw[ki];exact(xL a i).step
theorem zA{a i:Nat}(h:i<(gf a).length)(k:D→Option D):bu (dE (gf a)) (Int.toNat (i:Int)*1) k=k (.int .i64 ((jV a i%1000000000:Nat):Int)):=by
 refine JG ?_ k;have:=(xL a i).get;rw[List.getD_eq_getElem?_getD,zd5 h] at this;rw[zd5 h];exact congrArg some this
def yP(q k:Nat):Int:=((jV q k%1000000000:Nat):Int)
theorem qg(n:Nat)(f:Nat→Int):l8 (n+1) f=l8 n f++[f n]:=by
 unfold l8;rw[List.range_succ,List.map_append];rfl
theorem len_lt{q n:Nat}:n<(gf q).length↔jV q n≠0:=by
 have:=(xL q n).lt;rw[decide_eq_decide] at this;exact⟨fun h=>this.1 (by omega),fun h=>by have:=this.2 h;omega⟩
theorem J7{q n:Nat}(h:(gf q).length=n):l8 n (yP q)=gf q:=by
 apply List.ext_getElem?;intro k;by_cases hk:k<n
 ·rw[Gv _ hk];have:=(xL q k).get;rw[List.getD_eq_getElem?_getD,zd5 (by omega)] at this;rw[zd5 (by omega)];exact congrArg some this.symm
 ·rw[zd6 (by rw[oJ];omega),zd6 (by omega)]
theorem zB(q:Nat):∀n,jV q n=0→gw (l8 n (yP q))=gf q
 |0,h=>by
  rw[kg] at h;rw[h,kf];rfl
 |n+1,h=>by
  unfold gw;rw[qg,List.reverse_append,List.reverse_singleton,List.singleton_append,show qR (yP q n::(l8 n (yP q)).reverse)=if yP q n=0 then qR (l8 n (yP q)).reverse else yP q n::(l8 n (yP q)).reverse from rfl];have hs:=ki q n;by_cases h0:jV q n=0
  ·have:yP q n=0:=by unfold yP;rw[h0];rfl
   rw[if_pos this];exact zB q n h0
  ·have:yP q n≠0:=by unfold yP;omega
   rw[if_neg this,List.reverse_cons,List.reverse_reverse,←qg];refine J7 ?_;have h1:=len_lt.2 h0;have h2:¬n+1<(gf q).length:=fun hh=>len_lt.1 hh h;omega
section
variable {B:FuncId→List D→Option D}{a d:Nat}{f:Bool}
end
def vr(f:Nat→Nat)(v x k:Nat):Nat:=if k=v then x else f k
structure Row(n z:Nat)(f:Nat→Nat):Prop where
 d:∀k,k<n→f k<1000000000
 z:∀k,z≤k→k<n→f k=0
section
variable {B:FuncId→List D→Option D}{a b:Nat}{fa fb:Bool}
end
end Go.Pd
end
