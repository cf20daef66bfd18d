import Derived.Test.YtjhoaknnmfifgaaGreatDoorUnA
import Derived.KernelRfl
section
namespace Go.Pd
open Go Go.Proofs Go.RowKit Go.Shelf
theorem c1:∀t,C1 t=1:=fun _=>rfl
theorem cN:fc (fun _ _=>none):=fun _ _ _ h=>by cases h
theorem MG{base:FuncId→List D→Option D}(hb:fc base){L:Nat}:EnvOK (cD base L C1).E:=⟨AL hb,(fun _ _ h=>nomatch h),(fun _ _ _ h=>nomatch h),(fun _ _ hi=>nomatch hi)⟩
theorem eM{base:FuncId→List D→Option D}(hb:fc base){f:FuncId}{fn:Func}(hf:Tryz.prog.funcs[f]?=some fn){ord:iB}{N:bN}(hok:j3 Tryz.prog ord fn=true){ds:List D}{r:D}
  (he:bX (cD base LL C1) ord N .canon fn ds=some r):co f ds r:=
 qd (Te:=cD base LL C1) lQ (MG hb) (fun _ _ _ h=>by cases h) rfl (fun _ _ _ h=>by cases h) hf (by simp) hok he
theorem cW{x:Int}(h: -9223372036854775808≤x∧x≤9223372036854775807):IntKind.wrap .i64 x=x:=IntWalk.i64_in x h
structure Fam where
 f:FuncId
 ι:Type
 a:ι→List D
 r:ι→D
def Fam.Good(F:Fam):Prop:=(∀i,co F.f (F.a i) (F.r i))∧∀i j,F.a i=F.a j→F.r i=F.r j
def pn:List Fam→Prop
 |[]=>True
 |F::l=>F.Good∧pn l
def He(B:FuncId→List D→Option D):List Fam→Prop
 |[]=>True
 |F::l=>(∀i,B F.f (F.a i)=some (F.r i))∧He B l
theorem km:∀{l:List Fam},pn l→∀F∈l,F.Good
 |[],_,F,hF=>by cases hF
 |F0::l,h,F,hF=>by
  rcases List.mem_cons.1 hF with rfl|hF
  ·exact h.1
  ·exact km h.2 F hF
theorem yZ{B:FuncId→List D→Option D}:∀{l:List Fam},(∀F∈l,∀i,B F.f (F.a i)=some (F.r i))→He B l
 |[],_=>trivial
 |F::_,h=>⟨h F (za3 ..),yZ fun e he=>h e (za4 _ he)⟩
open Classical in
noncomputable def Eb(l:List Fam):FuncId→List D→Option D:=fun k ds=>
 if h:∃r,∃F∈l,∃i:F.ι,F.f=k∧F.a i=ds∧F.r i=r then some h.choose else none
theorem Ec{l:List Fam}(h:pn l):fc (Eb l):=by
 intro k ds r hr;unfold Eb at hr;split at hr
 ·rename_i hx;cases hr;obtain⟨F,hF,i,rfl,rfl,h3⟩:=hx.choose_spec;rw[←h3];exact(km h F hF).1 i
 ·cases hr
def Ed:List FuncId→Bool
 |[]=>true
 |x::l=>l.all (fun y=>x !=y)&&Ed l
theorem y3:∀{l:List Fam},Ed (l.map Fam.f)=true→∀F∈l,∀F'∈l,F.f=F'.f→F=F'
 |[],_,F,hF,_,_,_=>by cases hF
 |F0::l,h,F,hF,F',hF',he=>by
  simp only[List.map_cons,Ed,zc0,zd1,zd6,ne_eq] at h;have key:∀G∈l,F0.f≠G.f:=fun G hG=>h.1 G.f (List.mem_map.2 ⟨G,hG,rfl⟩);rcases List.mem_cons.1 hF with h1|h1
  ·rcases List.mem_cons.1 hF' with h2|h2
   ·rw[h1,h2]
   ·exact absurd (h1▸he) (key F' h2)
  ·rcases List.mem_cons.1 hF' with h2|h2
   ·exact absurd (h2▸he).symm (key F h1)
   ·exact y3 h.2 F h1 F' h2 he
theorem jK(l:List Fam)(h:pn l)(hn:Ed (l.map Fam.f)=true):∃B,fc B∧He B l:=by
 refine⟨Eb l,Ec h,yZ fun F hF i=> ?_⟩;obtain⟨_,h2⟩:=km h F hF;have hx:∃r,∃F'∈l,∃j:F'.ι,F'.f=F.f∧F'.a j=F.a i∧F'.r j=r:=⟨F.r i,F,hF,i,rfl,rfl,rfl⟩;unfold Eb;rw[dif_pos hx];obtain⟨F',hF',j,h4,h5,h6⟩:=hx.choose_spec;obtain rfl:=y3 hn F' hF' F hF h4;rw[←h6,h2 j i h5]
def one(f:FuncId)(ds:List D)(r:D):Fam:=⟨f,Unit,fun _=>ds,fun _=>r⟩
theorem bO{f:FuncId}{ds:List D}{r:D}(h:co f ds r):(one f ds r).Good:=⟨fun _=>h,fun _ _ _=>rfl⟩
end Go.Pd
end
section
namespace Go.Pd
open Go Go.Proofs
set_option maxRecDepth 100000
theorem Hf(call:CL)(L:Nat)(C:Nat→Nat)(h q i:Int):bX (cD call L C) O0 N0 FinM.canon Tryz.f75 [D.int .i64 h,D.int .i64 q,D.int .i64 i]=
 (bx (decide (h≤q))
 (some (D.bool true))
 (bx (decide (h>i))
 (some (D.bool (decide (h≤IntKind.wrap .i64 (i+3)))))
 (some (D.bool false)))):=by kernel_rfl
def LT:bN:=fun p=>match p with
 |7=>nm [1] [] [1]
 |58=>nm [1,3] [] [1]
 |_=>none
noncomputable def ua(call:CL)(L:Nat)(C:Nat→Nat)(h:Nat)(q:ByteArray)(z:Bool)(K:Nat)(r:List D)(O:Bool)(U:Nat)(M:List D)(i:Int):Option D:=
 cp (cD call L C) O0 LT FinM.canon Tryz.f76 (bt 5 11) [] h (St.mk (J::D.loc 1 0 0::J::D.int .i64 i::jn 32 []) (Z::(1,some (Ob.box [D.str q,D.slc z K r,D.slc O U M] false))::zn 34 []))
noncomputable def Cj(call:CL)(L:Nat)(C:Nat→Nat)(h:ByteArray)(q:Bool)(r:Nat)(i:List D)(K:Bool)(M:Nat)(z:List D):Option D:=
 eO (cD call L C) O0 LT FinM.canon Tryz.f76 [true,true] [] (C 7) (St.mk (J::D.loc 1 0 0::jn 34 []) (Z::(1,some (Ob.box [D.str h,D.slc q r i,D.slc K M z] false))::zn 34 []))
theorem sP(call:CL)(L:Nat)(C:Nat→Nat)(r:Nat)(z:ByteArray)(K:Bool)(M:Nat)(J:List D)(O:Bool)(q:Nat)(i:List D)(h:Int):ua call L C (r+1) z K M J O q i h=
 (bx (decide (h<(q:Int)))
 (bW (decide (0≤h∧h<(q:Int)))
 (bn i (Int.toNat h*2+0) fun d=>bP d fun s=>bn i (Int.toNat h*2+1) fun V=>c9 V fun f W c=>bC (call 150 [D.agg [D.str s,D.slc f W c,D.int .i64 0]]) fun Y=>bU Y fun U=>bx (!U)
 (some (D.bool false))
 (ua call L C r z K M J O q i (IntKind.wrap .i64 (h+1)))))
 (some (D.bool true))):=by kernel_rfl
theorem Ck(call:CL)(L:Nat)(C:Nat→Nat)(h:ByteArray)(q:Bool)(r:Nat)(i:List D)(J:Bool)(K:Nat)(z:List D)(hC:∀t,C t=1):Cj call L C h q r i J K z=
 (ua call L C L h q r i J K z 0):=by
 unfold Cj;rw[hC]
 kernel_rfl
theorem Hg(call:CL)(L:Nat)(C:Nat→Nat)(h:ByteArray)(J:Bool)(i:Nat)(z:List D)(M:Bool)(q:Nat)(K:List D):bX (cD call L C) O0 LT FinM.canon Tryz.f76 [D.agg [D.str h,D.slc J i z,D.slc M q K]]=
 (bx (decide (((ByteArray.size h):Int)>60))
 (some (D.bool false))
 (bx (decide ((i:Int)>39))
 (some (D.bool false))
 (bC (call 75 [D.int .i64 (q:Int),D.int .i64 5,D.int .i64 200]) fun r=>bU r fun b=>bx (!b)
 (some (D.bool false))
 (Cj call L C h J i z M q K)))):=by kernel_rfl
def Iz:bN:=fun p=>match p with
 |7=>nm [0] [] []
 |58=>nm [0,3] [] []
 |467=>nm [0,3] [] []
 |3731=>nm [0,3,4,5] [] []
 |_=>none
noncomputable def js(call:CL)(L:Nat)(C:Nat→Nat)(h:Nat)(vs:ByteArray)(i:Int):Option D:=
 eO (cD call L C) O0 Iz FinM.canon Tryz.f80 (bt 8 203) [h] (C 467) (St.mk (D.str vs::J::J::D.int .i64 i::jn 52 []) (zn 56 []))
noncomputable def gj(call:CL)(L:Nat)(C:Nat→Nat)(h:Nat)(vs:ByteArray)(i vc:Int)(q:Bool):Option D:=
 eO (cD call L C) O0 Iz FinM.canon Tryz.f80 (bt 11 1611) [h] (C 3731) (St.mk (D.str vs::J::J::D.int .i64 i::D.int IntKind.u8 vc::D.bool q::jn 50 []) (zn 56 []))
noncomputable def ub(call:CL)(L:Nat)(C:Nat→Nat)(h:Nat)(vs:ByteArray)(i:Int):Option D:=
 cp (cD call L C) O0 Iz FinM.canon Tryz.f80 (bt 5 11) [] h (St.mk (D.str vs::J::J::D.int .i64 i::jn 52 []) (zn 56 []))
noncomputable def Cl(call:CL)(L:Nat)(C:Nat→Nat)(vs:ByteArray):Option D:=
 eO (cD call L C) O0 Iz FinM.canon Tryz.f80 [true,true] [] (C 7) (St.mk (D.str vs::jn 55 []) (zn 56 []))
theorem xW(call:CL)(L:Nat)(C:Nat→Nat)(h:Nat)(vs:ByteArray)(i:Int)(hC:∀t,C t=1):js call L C h vs i=
 (ub call L C h vs (IntKind.wrap .i64 (i+1))):=by
 unfold js;rw[hC]
 kernel_rfl
theorem wh(call:CL)(L:Nat)(C:Nat→Nat)(i:Nat)(vs:ByteArray)(h vc:Int)(q:Bool)(hC:∀t,C t=1):gj call L C i vs h vc q=
 (bx (!q)
 (bx (h==0)
 (some (D.bool false))
 (bx (decide (vc≥48))
 (bx (decide (vc≤57))
 (js call L C i vs h)
 (bx (!vc==95)
 (some (D.bool false))
 (js call L C i vs h)))
 (bx (!vc==95)
 (some (D.bool false))
 (js call L C i vs h))))
 (js call L C i vs h)):=by
 unfold gj;rw[hC]
 kernel_rfl
theorem sQ(call:CL)(L:Nat)(C:Nat→Nat)(i:Nat)(vs:ByteArray)(h:Int):ub call L C (i+1) vs h=
 (bx (decide (h<((ByteArray.size vs):Int)))
 (bW (decide (0≤h∧Int.toNat h<ByteArray.size vs))
 (bx (decide (cV vs (Int.toNat h)≥97))
 (bx (decide (cV vs (Int.toNat h)≤122))
 (gj call L C i vs h (cV vs (Int.toNat h)) true)
 (bx (decide (cV vs (Int.toNat h)≥65))
 (gj call L C i vs h (cV vs (Int.toNat h)) (decide (cV vs (Int.toNat h)≤90)))
 (gj call L C i vs h (cV vs (Int.toNat h)) false)))
 (bx (decide (cV vs (Int.toNat h)≥65))
 (gj call L C i vs h (cV vs (Int.toNat h)) (decide (cV vs (Int.toNat h)≤90)))
 (gj call L C i vs h (cV vs (Int.toNat h)) false))))
 (some (D.bool true))):=by kernel_rfl
theorem Cm(call:CL)(L:Nat)(C:Nat→Nat)(vs:ByteArray)(hC:∀t,C t=1):Cl call L C vs=
 (ub call L C L vs 0):=by
 unfold Cl;rw[hC]
 kernel_rfl
theorem Hh(call:CL)(L:Nat)(C:Nat→Nat)(vs:ByteArray):bX (cD call L C) O0 Iz FinM.canon Tryz.f80 [D.str vs]=
 (bx (decide (((ByteArray.size vs):Int)<1))
 (some (D.bool false))
 (bx (decide (((ByteArray.size vs):Int)>24))
 (some (D.bool false))
 (Cl call L C vs))):=by kernel_rfl
def MH:bN:=fun p=>match p with
 |26=>nm [0,1,5] [] []
 |_=>none
noncomputable def uc(call:CL)(L:Nat)(C:Nat→Nat)(n:Nat)(q:Bool)(r:Nat)(i:List D)(vs:ByteArray)(h:Int):Option D:=
 cp (cD call L C) O0 MH FinM.canon Tryz.f81 [true,false,true,false] [] n (St.mk (D.slc q r i::D.str vs::J::J::J::D.int .i64 h::jn 12 []) (zn 18 []))
theorem sR(call:CL)(L:Nat)(C:Nat→Nat)(n:Nat)(r:Bool)(i:Nat)(q:List D)(vs:ByteArray)(h:Int):uc call L C (n+1) r i q vs h=
 (bx (decide (h<(i:Int)))
 (bW (decide (0≤h∧h<(i:Int)))
 (bn q (Int.toNat h*1) fun d=>bP d fun s=>bx (ByteArray.toList s==ByteArray.toList vs)
 (some (D.bool true))
 (uc call L C n r i q vs (IntKind.wrap .i64 (h+1)))))
 (some (D.bool false))):=by kernel_rfl
theorem Hk(call:CL)(L:Nat)(C:Nat→Nat)(i:Bool)(q:Nat)(h:List D)(vs:ByteArray):bX (cD call L C) O0 MH FinM.canon Tryz.f81 [D.slc i q h,D.str vs]=
 (uc call L C L i q h vs 0):=by kernel_rfl
def MI:bN:=fun p=>match p with
 |26=>nm [1,2,5] [] [2]
 |_=>none
noncomputable def ud(call:CL)(L:Nat)(C:Nat→Nat)(n:Nat)(i:ByteArray)(r:Bool)(z:Nat)(q:List D)(M:Bool)(O:Nat)(K:List D)(V:Bool)(W:Nat)(U:List D)(a0:Bool)(a1:Nat)(Y:List D)(a3:Bool)(a4:Nat)(a2:List D)(a6:Bool)(a7:Nat)(a5:List D)(h:Int):Option D:=
 cp (cD call L C) O0 MI FinM.canon Tryz.f23 [true,false,true,false] [] n (St.mk (J::D.str i::D.loc 2 0 0::J::J::D.int .i64 h::jn 16 []) (Z::Z::(1,some (Ob.box [D.slc r z q,D.slc M O K,D.slc V W U,D.slc a0 a1 Y,D.slc a3 a4 a2,D.slc a6 a7 a5] false))::zn 19 []))
theorem sS(call:CL)(L:Nat)(C:Nat→Nat)(n:Nat)(q:ByteArray)(J:Bool)(K:Nat)(z:List D)(M:Bool)(i:Nat)(r:List D)(U:Bool)(V:Nat)(O:List D)(Y:Bool)(Z:Nat)(W:List D)(a1:Bool)(a2:Nat)(a0:List D)(a4:Bool)(a5:Nat)(a3:List D)(h:Int):ud call L C (n+1) q J K z M i r U V O Y Z W a1 a2 a0 a4 a5 a3 h=
 (bx (decide (h<(i:Int)))
 (bW (decide (0≤h∧h<(i:Int)))
 (bn r (Int.toNat h*3+0) fun d=>bP d fun s=>bx (ByteArray.toList s==ByteArray.toList q)
 (some (D.int .i64 h))
 (ud call L C n q J K z M i r U V O Y Z W a1 a2 a0 a4 a5 a3 (IntKind.wrap .i64 (h+1)))))
 (some (D.int .i64 (-1)))):=by kernel_rfl
theorem Hl(call:CL)(L:Nat)(C:Nat→Nat)(q:Bool)(r:Nat)(i:List D)(J:Bool)(K:Nat)(z:List D)(O:Bool)(U:Nat)(M:List D)(W:Bool)(Y:Nat)(V:List D)(a0:Bool)(a1:Nat)(Z:List D)(a3:Bool)(a4:Nat)(a2:List D)(h:ByteArray):bX (cD call L C) O0 MI FinM.canon Tryz.f23 [D.agg [D.slc q r i,D.slc J K z,D.slc O U M,D.slc W Y V,D.slc a0 a1 Z,D.slc a3 a4 a2],D.str h]=
 (ud call L C L h q r i J K z O U M W Y V a0 a1 Z a3 a4 a2 0):=by kernel_rfl
def MJ:bN:=fun p=>match p with
 |26=>nm [5,6,7] [] []
 |_=>none
noncomputable def ue(call:CL)(L:Nat)(C:Nat→Nat)(n:Nat)(r:Bool)(z:Nat)(q:List D)(h i:Int):Option D:=
 cp (cD call L C) O0 MJ FinM.canon Tryz.f87 [true,false,true,false] [] n (St.mk (jn 5 (D.slc r z q::D.int .i64 h::D.int .i64 i::jn 7 [])) (zn 15 []))
theorem sT(call:CL)(L:Nat)(C:Nat→Nat)(n:Nat)(z:Bool)(r:Nat)(q:List D)(i h:Int):ue call L C (n+1) z r q i h=
 (bx (decide (h<i))
 (bW (decide (0≤h∧h<(r:Int)))
 (bn q (Int.toNat h*1) fun d=>bD .i64 d fun x=>bx (x !=0)
 (some (D.int .i64 x))
 (ue call L C n z r q i (IntKind.wrap .i64 (h+1)))))
 (some (D.int .i64 0))):=by kernel_rfl
theorem Hm(call:CL)(L:Nat)(C:Nat→Nat)(q:Bool)(h:Nat)(i:List D):bX (cD call L C) O0 MJ FinM.canon Tryz.f87 [D.slc q h i]=
 (ue call L C L q h i ((h:Int)) 0):=by kernel_rfl
def Ee:bN:=fun p=>match p with
 |26=>nm [5,6,7] [] []
 |_=>none
noncomputable def uf(call:CL)(L:Nat)(C:Nat→Nat)(n:Nat)(r:Bool)(z:Nat)(q:List D)(h i:Int):Option D:=
 cp (cD call L C) O0 Ee FinM.canon Tryz.f108 [true,false,true,false] [] n (St.mk (jn 5 (D.slc r z q::D.int .i64 h::D.int .i64 i::jn 7 [])) (zn 15 []))
theorem eF(call:CL)(L:Nat)(C:Nat→Nat)(n:Nat)(z:Bool)(r:Nat)(q:List D)(i h:Int):uf call L C (n+1) z r q i h=
 (bx (decide (h<i))
 (bW (decide (0≤h∧h<(r:Int)))
 (bn q (Int.toNat h*1) fun d=>bD .i64 d fun x=>bx (x !=0)
 (some (D.int .i64 x))
 (uf call L C n z r q i (IntKind.wrap .i64 (h+1)))))
 (some (D.int .i64 0))):=by kernel_rfl
theorem y4(call:CL)(L:Nat)(C:Nat→Nat)(q:Bool)(h:Nat)(i:List D):bX (cD call L C) O0 Ee FinM.canon Tryz.f108 [D.slc q h i]=
 (uf call L C L q h i ((h:Int)) 0):=by kernel_rfl
theorem Ef(call:CL)(L:Nat)(C:Nat→Nat)(i:Bool)(h:Int):bX (cD call L C) O0 N0 FinM.canon Tryz.f110 [D.bool i,D.int .i64 h]=
 (bx i
 (some (D.int .i64 h))
 (some (D.int .i64 0))):=by kernel_rfl
def Hn:bN:=fun p=>match p with
 |26=>nm [0,6] [] [6]
 |_=>none
noncomputable def kB(call:CL)(L:Nat)(C:Nat→Nat)(n:Nat)(vs:ByteArray)(h:Nat):Option D:=
 cp (cD call L C) O0 Hn FinM.canon Tryz.f111 [true,false,true,false] [] n (St.mk (D.str vs::jn 5 (D.loc 6 0 0::jn 30 [])) (zn 6 ((1,some (Ob.sit vs h))::zn 30 [])))
theorem qy(call:CL)(L:Nat)(C:Nat→Nat)(n:Nat)(vs:ByteArray)(h:Nat):kB call L C (n+1) vs h=
 (bx (decide (h<ByteArray.size vs))
 (bC (call 167 [D.int IntKind.i32 (((Prod.fst (Utf8.decode vs h)):Nat):Int)]) fun r=>bU r fun b=>bx (!b)
 (bx ((h:Int)==0)
 (some (D.bool false))
 (bx ((((Prod.fst (Utf8.decode vs h)):Nat):Int) !=95)
 (bx (decide ((((Prod.fst (Utf8.decode vs h)):Nat):Int)<48))
 (some (D.bool false))
 (bx (decide ((((Prod.fst (Utf8.decode vs h)):Nat):Int)>57))
 (some (D.bool false))
 (kB call L C n vs (h+Prod.snd (Utf8.decode vs h)))))
 (kB call L C n vs (h+Prod.snd (Utf8.decode vs h)))))
 (kB call L C n vs (h+Prod.snd (Utf8.decode vs h))))
 (bx (!ByteArray.toList vs==ByteArray.toList (ByteArray.mk #[]))
 (some (D.bool (decide (((ByteArray.size vs):Int)≤24))))
 (some (D.bool false)))):=by kernel_rfl
theorem Eg(call:CL)(L:Nat)(C:Nat→Nat)(vs:ByteArray):bX (cD call L C) O0 Hn FinM.canon Tryz.f111 [D.str vs]=
 (kB call L C L vs 0):=by kernel_rfl
theorem Eh(call:CL)(L:Nat)(C:Nat→Nat)(h i q:Int):bX (cD call L C) O0 N0 FinM.canon Tryz.f118 [D.int .i64 h,D.int .i64 i,D.int .i64 q]=
 (bx (decide (h<i))
 (some (D.bool true))
 (some (D.bool (decide (h>q))))):=by kernel_rfl
theorem Ei(call:CL)(L:Nat)(C:Nat→Nat)(i:Bool)(h:Int):bX (cD call L C) O0 N0 FinM.canon Tryz.f119 [D.bool i,D.int .i64 h]=
 (bx i
 (some (D.int .i64 h))
 (some (D.int .i64 0))):=by kernel_rfl
theorem Ej(call:CL)(L:Nat)(C:Nat→Nat)(h:Int)(i:ByteArray):bX (cD call L C) O0 N0 FinM.canon Tryz.f145 [D.agg [D.int .i64 h,D.str i]]=
 (bx (ByteArray.toList i==ByteArray.toList (ByteArray.mk #[]))
 (bx (decide (h<1))
 (some (D.int .i64 3))
 (bx (decide (h>99))
 (some (D.int .i64 3))
 (some (D.int .i64 0))))
 (bx (ByteArray.toList i==ByteArray.toList (ByteArray.mk #[99]))
 (bx (decide (h<1))
 (some (D.int .i64 3))
 (bx (decide (h>99))
 (some (D.int .i64 3))
 (some (D.int .i64 0))))
 (bx (ByteArray.toList i==ByteArray.toList (ByteArray.mk #[120]))
 (bx (h !=0)
 (some (D.int .i64 3))
 (some (D.int .i64 0)))
 (bx (ByteArray.toList i==ByteArray.toList (ByteArray.mk #[45]))
 (bx (h !=0)
 (some (D.int .i64 3))
 (some (D.int .i64 0)))
 (some (D.int .i64 13)))))):=by kernel_rfl
theorem Ek(call:CL)(L:Nat)(C:Nat→Nat)(h:Int)(i:ByteArray):bX (cD call L C) O0 N0 FinM.canon Tryz.f147 [D.agg [D.int .i64 h,D.str i]]=
 (bC (call 218 [D.agg [D.int .i64 h,D.str i]]) fun r=>bU r fun b=>bx b
 (bC (call 118 [D.int .i64 h,D.int .i64 1,D.int .i64 99]) fun z=>bU z fun q=>bC (call 119 [D.bool q,D.int .i64 3]) fun J=>bD .i64 J fun x=>some (D.int .i64 x))
 (bx (ByteArray.toList i==ByteArray.toList (ByteArray.mk #[120]))
 (bC (call 119 [D.bool (h !=0),D.int .i64 3]) fun K=>bD .i64 K fun O=>some (D.int .i64 O))
 (bx (ByteArray.toList i==ByteArray.toList (ByteArray.mk #[45]))
 (bC (call 119 [D.bool (h !=0),D.int .i64 3]) fun M=>bD .i64 M fun U=>some (D.int .i64 U))
 (some (D.int .i64 13))))):=by kernel_rfl
theorem El(call:CL)(L:Nat)(C:Nat→Nat)(h i:ByteArray)(q r:Int)(z:ByteArray):bX (cD call L C) O0 N0 FinM.canon Tryz.f153 [D.agg [D.str h,D.str i,D.int .i64 q,D.int .i64 r,D.str z]]=
 (some (D.bool (ByteArray.toList i==ByteArray.toList h))):=by kernel_rfl
theorem Em(call:CL)(L:Nat)(C:Nat→Nat)(K:Bool)(M:Nat)(J:List D)(q:Bool)(z:Nat)(i:List D)(U:Bool)(V:Nat)(O:List D)(Y:Bool)(Z:Nat)(W:List D)(a1:Bool)(a2:Nat)(a0:List D)(a4:Bool)(a5:Nat)(a3:List D)(h:ByteArray):bX (cD call L C) O0 N0 FinM.canon Tryz.f154 [D.agg [D.slc K M J,D.slc q z i,D.slc U V O,D.slc Y Z W,D.slc a1 a2 a0,D.slc a4 a5 a3],D.str h]=
 (bC (call 221 [D.slc q z i,D.fn (Fn.func 222) [] [D.snap [D.str h] 0]]) fun r=>bD .i64 r fun x=>some (D.int .i64 x)):=by kernel_rfl
theorem En(call:CL)(L:Nat)(C:Nat→Nat)(i:Bool)(q:Nat)(h:List D)(z:ByteArray):bX (cD call L C) O0 N0 FinM.canon Tryz.f155 [D.slc i q h,D.str z]=
 (bC (call 223 [D.slc i q h,D.str z]) fun r=>bD .i64 r fun x=>some (D.bool (decide (x≥0)))):=by kernel_rfl
theorem Eo(call:CL)(L:Nat)(C:Nat→Nat)(vc:Int):bX (cD call L C) O0 N0 FinM.canon Tryz.f167 [D.int IntKind.i32 vc]=
 (bx (decide (vc≥97))
 (bx (decide (vc≤122))
 (some (D.bool true))
 (bx (decide (vc≥65))
 (some (D.bool (decide (vc≤90))))
 (some (D.bool false))))
 (bx (decide (vc≥65))
 (some (D.bool (decide (vc≤90))))
 (some (D.bool false)))):=by kernel_rfl
def KD:iB:=fun id=>match id with
 |1=>some {l:=some [0,1,2,3,4,5,6,7,8,9],ks:=[3]}
 |_=>none
theorem Ep(call:CL)(L:Nat)(C:Nat→Nat)(h:Int)(i:ByteArray):bX (Mp call L C) KD N0 FinM.canon Tryz.f168 [D.agg [D.int .i64 h,D.str i]]=
 (bx (ByteArray.toList i==ByteArray.toList (ByteArray.mk #[]))
 (bC (call 284 [D.int .i64 h]) fun r=>bU r fun b=>bC (call 110 [D.bool !b,D.int .i64 3]) fun K=>bD .i64 K fun x=>some (D.int .i64 x))
 (bx (ByteArray.toList i==ByteArray.toList (ByteArray.mk #[99]))
 (bC (call 284 [D.int .i64 h]) fun M=>bU M fun q=>bC (call 110 [D.bool !q,D.int .i64 3]) fun O=>bD .i64 O fun Z=>some (D.int .i64 Z))
 (bx (ByteArray.toList i==ByteArray.toList (ByteArray.mk #[120]))
 (bC (call 285 [D.int .i64 h]) fun U=>bU U fun z=>bC (call 110 [D.bool !z,D.int .i64 3]) fun V=>bD .i64 V fun a0=>some (D.int .i64 a0))
 (bx (ByteArray.toList i==ByteArray.toList (ByteArray.mk #[45]))
 (bC (call 285 [D.int .i64 h]) fun W=>bU W fun J=>bC (call 110 [D.bool !J,D.int .i64 3]) fun Y=>bD .i64 Y fun a1=>some (D.int .i64 a1))
 (some (D.int .i64 13)))))):=by kernel_rfl
theorem Er(call:CL)(L:Nat)(C:Nat→Nat)(i:Int)(h:ByteArray):bX (cD call L C) O0 N0 FinM.canon Tryz.f218 [D.agg [D.int .i64 i,D.str h]]=
 (bx (ByteArray.toList h==ByteArray.toList (ByteArray.mk #[]))
 (some (D.bool true))
 (some (D.bool (ByteArray.toList h==ByteArray.toList (ByteArray.mk #[99]))))):=by kernel_rfl
def Ho:bN:=fun p=>match p with
 |26=>nm [0,3] [] []
 |_=>none
noncomputable def pp(call:CL)(L:Nat)(C:Nat→Nat)(n:Nat)(q:Bool)(r:Nat)(i:List D)(h:Int):Option D:=
 cp (cD call L C) O0 Ho FinM.canon Tryz.f220 [true,false,true,false] [] n (St.mk (D.slc q r i::J::J::D.int .i64 h::jn 15 []) (zn 19 []))
theorem qz(call:CL)(L:Nat)(C:Nat→Nat)(n:Nat)(z:Bool)(q:Nat)(i:List D)(h:Int):pp call L C (n+1) z q i h=
 (bx (decide (h<(q:Int)))
 (bW (decide (0≤h∧h<(q:Int)))
 (bn i (Int.toNat h*2+0) fun d=>bD .i64 d fun x=>bn i (Int.toNat h*2+1) fun K=>bP K fun s=>bC (call 145 [D.agg [D.int .i64 x,D.str s]]) fun r=>bD .i64 r fun J=>bx (J !=0)
 (some (D.int .i64 J))
 (pp call L C n z q i (IntKind.wrap .i64 (h+1)))))
 (some (D.int .i64 0))):=by kernel_rfl
theorem Es(call:CL)(L:Nat)(C:Nat→Nat)(i:Bool)(q:Nat)(h:List D):bX (cD call L C) O0 Ho FinM.canon Tryz.f220 [D.slc i q h]=
 (pp call L C L i q h 0):=by kernel_rfl
def Hp:bN:=fun p=>match p with
 |26=>nm [6,7,8] [4] [4]
 |_=>none
noncomputable def pq(call:CL)(L:Nat)(C:Nat→Nat)(n:Nat)(r:Bool)(z:Nat)(q:List D)(h i:Int):Option D:=
 cp (cD call L C) O0 Hp FinM.canon Tryz.f112 [true,false,true,false] [] n (St.mk (jn 6 (D.slc r z q::D.int .i64 h::D.int .i64 i::jn 9 [])) (zn 18 []))
theorem qA(call:CL)(L:Nat)(C:Nat→Nat)(n:Nat)(J:Bool)(z:Nat)(i:List D)(q h:Int):pq call L C (n+1) J z i q h=
 (bx (decide (h<q))
 (bW (decide (0≤h∧h<(z:Int)))
 (bn i (Int.toNat h*2+0) fun d=>bD .i64 d fun x=>bn i (Int.toNat h*2+1) fun M=>bP M fun s=>bC (call 168 [D.agg [D.int .i64 x,D.str s]]) fun r=>bD .i64 r fun K=>bx (K !=0)
 (some (D.int .i64 K))
 (pq call L C n J z i q (IntKind.wrap .i64 (h+1)))))
 (some (D.int .i64 0))):=by kernel_rfl
theorem Et(call:CL)(L:Nat)(C:Nat→Nat)(q:Bool)(h:Nat)(i:List D):bX (cD call L C) O0 Hp FinM.canon Tryz.f112 [D.slc q h i]=
 (pq call L C L q h i ((h:Int)) 0):=by kernel_rfl
def KE:bN:=fun p=>match p with
 |122=>nm [0,3] [] []
 |3913=>nm [0,3] [] []
 |15654=>nm [0,3,4] [] []
 |_=>none
noncomputable def kC(call:CL)(L:Nat)(C:Nat→Nat)(n h:Nat)(q:Bool)(r:Nat)(i:List D)(z K:Int):Option D:=
 cp (cD call L C) O0 KE FinM.canon Tryz.f83 (bt 13 3223) [n] h (St.mk (D.slc q r i::J::J::D.int .i64 z::D.int .i64 K::jn 60 []) (zn 65 []))
noncomputable def qB(call:CL)(L:Nat)(C:Nat→Nat)(n:Nat)(i:Bool)(q:Nat)(h:List D)(r:Int):Option D:=
 eO (cD call L C) O0 KE FinM.canon Tryz.f83 (bt 11 1175) [n] (C 3913) (St.mk (D.slc i q h::J::J::D.int .i64 r::jn 61 []) (zn 65 []))
noncomputable def mM(call:CL)(L:Nat)(C:Nat→Nat)(n:Nat)(i:Bool)(q:Nat)(h:List D)(r:Int):Option D:=
 cp (cD call L C) O0 KE FinM.canon Tryz.f83 (bt 6 23) [] n (St.mk (D.slc i q h::J::J::D.int .i64 r::jn 61 []) (zn 65 []))
theorem mN(call:CL)(L:Nat)(C:Nat→Nat)(n J:Nat)(z:Bool)(r:Nat)(q:List D)(h i:Int):kC call L C n (J+1) z r q h i=
 (bx (decide (i<h))
 (bW (decide (0≤i∧i<(r:Int)))
 (bn q (Int.toNat i*2+1) fun K=>bD .i64 K fun O=>bW (decide (0≤h∧h<(r:Int)))
 (bn q (Int.toNat h*2+1) fun M=>bD .i64 M fun U=>bx (O==U)
 (some (D.int .i64 9))
 (kC call L C n J z r q h (IntKind.wrap .i64 (i+1))))))
 (mM call L C n z r q (IntKind.wrap .i64 (h+1)))):=by kernel_rfl
theorem wk(call:CL)(L:Nat)(C:Nat→Nat)(n:Nat)(i:Bool)(q:Nat)(h:List D)(r:Int)(hC:∀t,C t=1):qB call L C n i q h r=
 (kC call L C n L i q h r 0):=by
 unfold qB;rw[hC]
 kernel_rfl
theorem qC(call:CL)(L:Nat)(C:Nat→Nat)(n:Nat)(r:Bool)(i:Nat)(q:List D)(h:Int):mM call L C (n+1) r i q h=
 (bx (decide (h<(i:Int)))
 (bW (decide (0≤h∧h<(i:Int)))
 (bn q (Int.toNat h*2+0) fun d=>bD .i64 d fun x=>bx (decide (x<3))
 (some (D.int .i64 3))
 (bW (decide (0≤h∧h<(i:Int)))
 (bn q (Int.toNat h*2+0) fun z=>bD .i64 z fun M=>bx (decide (M>6))
 (some (D.int .i64 3))
 (bW (decide (0≤h∧h<(i:Int)))
 (bn q (Int.toNat h*2+1) fun J=>bD .i64 J fun O=>bx (decide (O<1))
 (some (D.int .i64 3))
 (bW (decide (0≤h∧h<(i:Int)))
 (bn q (Int.toNat h*2+1) fun K=>bD .i64 K fun U=>bx (decide (U>(i:Int)))
 (some (D.int .i64 3))
 (qB call L C n r i q h)))))))))
 (some (D.int .i64 0))):=by kernel_rfl
theorem Hq(call:CL)(L:Nat)(C:Nat→Nat)(q:Bool)(h:Nat)(i:List D):bX (cD call L C) O0 KE FinM.canon Tryz.f83 [D.slc q h i]=
 (bx ((h:Int)==0)
 (some (D.int .i64 12))
 (bx (decide ((h:Int)>36))
 (some (D.int .i64 5))
 (mM call L C L q h i 0))):=by kernel_rfl
def Cn:bN:=fun p=>match p with
 |122=>nm [0,4,22,23,24] [6] [6,21]
 |15667=>nm [0,4,6,22,23,24] [] [6,21]
 |31333=>nm [0,4,6,7,22,23,24] [] [6,21]
 |_=>none
noncomputable def lS(call:CL)(L:Nat)(C:Nat→Nat)(n:Nat)(i:Bool)(q:Nat)(h:List D)(K M vx O:Int)(r z:List D):Option D:=
 eO (cD call L C) O0 Cn FinM.canon Tryz.f109 (bt 13 6551) [n] (C 15667) (St.mk (D.slc i q h::J::J::J::D.mloc 21 0::J::D.loc 6 0 0::jn 15 (D.slc i q h::D.int .i64 K::D.int .i64 M::jn 38 [])) (zn 6 ((1,some (Ob.box [D.int .i64 vx,D.int .i64 O] false))::zn 14 ((1,some (Ob.map r z false))::zn 41 []))))
noncomputable def dF(call:CL)(L:Nat)(C:Nat→Nat)(n:Nat)(i:Bool)(q:Nat)(h:List D)(K M:Int)(r z:List D)(O vx U:Int):Option D:=
 eO (cD call L C) O0 Cn FinM.canon Tryz.f109 (bt 14 10647) [n] (C 31333) (St.mk (D.slc i q h::J::J::J::D.mloc 21 0::J::D.loc 6 0 0::D.int .i64 O::jn 14 (D.slc i q h::D.int .i64 K::D.int .i64 M::jn 38 [])) (zn 6 ((1,some (Ob.box [D.int .i64 vx,D.int .i64 U] false))::zn 14 ((1,some (Ob.map r z false))::zn 41 []))))
noncomputable def kn(call:CL)(L:Nat)(C:Nat→Nat)(n:Nat)(i:Bool)(q:Nat)(h:List D)(K M:Int)(r z:List D):Option D:=
 cp (cD call L C) O0 Cn FinM.canon Tryz.f109 (bt 6 23) [] n (St.mk (D.slc i q h::J::J::J::D.mloc 21 0::jn 17 (D.slc i q h::D.int .i64 K::D.int .i64 M::jn 38 [])) (zn 21 ((1,some (Ob.map r z false))::zn 41 [])))
theorem rE(call:CL)(L:Nat)(C:Nat→Nat)(n:Nat)(J:Bool)(K:Nat)(z:List D)(q r vx M:Int)(h i:List D)(hC:∀t,C t=1):lS call L C n J K z q r vx M h i=
 (kQ (ji (D.int .i64 M) (D.bool true) h i) fun ks vs=>kn call L C n J K z q (IntKind.wrap .i64 (r+1)) ks vs):=by
 unfold lS;rw[hC]
 kernel_rfl
theorem rF(call:CL)(L:Nat)(C:Nat→Nat)(n:Nat)(K:Bool)(M:Nat)(J:List D)(r z:Int)(i q:List D)(h vx O:Int)(hC:∀t,C t=1):dF call L C n K M J r z i q h vx O=
 (bx (h !=0)
 (some (D.int .i64 h))
 (lS call L C n K M J r z vx O i q)):=by
 unfold dF;rw[hC]
 kernel_rfl
theorem oy(call:CL)(L:Nat)(C:Nat→Nat)(n:Nat)(U:Bool)(K:Nat)(J:List D)(M h:Int)(r z:List D):kn call L C (n+1) U K J M h r z=
 (bx (decide (h<M))
 (bW (decide (0≤h∧h<(K:Int)))
 (bn J (Int.toNat h*2+0) fun d=>bD .i64 d fun O=>bn J (Int.toNat h*2+1) fun a3=>bD .i64 a3 fun q=>bx (decide (O<3))
 (bC (call 110 [D.bool true,D.int .i64 3]) fun ao=>bD .i64 ao fun Z=>
 (f9 (cF (D.int .i64 q) r 0)
 (bC (call 110 [D.bool false,D.int .i64 9]) fun ap=>bD .i64 ap fun aJ=>bC (call 108 [D.slc true 2 [D.int .i64 Z,D.int .i64 aJ]]) fun aq=>bD .i64 aq fun aK=>dF call L C n U K J M h r z aK O q) fun i=>bn z i fun a4=>bU a4 fun b=>bC (call 110 [D.bool b,D.int .i64 9]) fun ar=>bD .i64 ar fun aL=>bC (call 108 [D.slc true 2 [D.int .i64 Z,D.int .i64 aL]]) fun au=>bD .i64 au fun aM=>dF call L C n U K J M h r z aM O q))
 (bx (decide (O>6))
 (bC (call 110 [D.bool true,D.int .i64 3]) fun av=>bD .i64 av fun V=>
 (f9 (cF (D.int .i64 q) r 0)
 (bC (call 110 [D.bool false,D.int .i64 9]) fun aw=>bD .i64 aw fun ax=>bC (call 108 [D.slc true 2 [D.int .i64 V,D.int .i64 ax]]) fun ab=>bD .i64 ab fun ay=>dF call L C n U K J M h r z ay O q) fun a8=>bn z a8 fun a5=>bU a5 fun a0=>bC (call 110 [D.bool a0,D.int .i64 9]) fun ac=>bD .i64 ac fun az=>bC (call 108 [D.slc true 2 [D.int .i64 V,D.int .i64 az]]) fun ad=>bD .i64 ad fun aA=>dF call L C n U K J M h r z aA O q))
 (bx (decide (q<1))
 (bC (call 110 [D.bool true,D.int .i64 3]) fun ae=>bD .i64 ae fun W=>
 (f9 (cF (D.int .i64 q) r 0)
 (bC (call 110 [D.bool false,D.int .i64 9]) fun af=>bD .i64 af fun aB=>bC (call 108 [D.slc true 2 [D.int .i64 W,D.int .i64 aB]]) fun ag=>bD .i64 ag fun aC=>dF call L C n U K J M h r z aC O q) fun a9=>bn z a9 fun a6=>bU a6 fun a1=>bC (call 110 [D.bool a1,D.int .i64 9]) fun ah=>bD .i64 ah fun aD=>bC (call 108 [D.slc true 2 [D.int .i64 W,D.int .i64 aD]]) fun ai=>bD .i64 ai fun aE=>dF call L C n U K J M h r z aE O q))
 (bC (call 110 [D.bool (decide (q>(K:Int))),D.int .i64 3]) fun aj=>bD .i64 aj fun Y=>
 (f9 (cF (D.int .i64 q) r 0)
 (bC (call 110 [D.bool false,D.int .i64 9]) fun ak=>bD .i64 ak fun aF=>bC (call 108 [D.slc true 2 [D.int .i64 Y,D.int .i64 aF]]) fun al=>bD .i64 al fun aG=>dF call L C n U K J M h r z aG O q) fun aa=>bn z aa fun a7=>bU a7 fun a2=>bC (call 110 [D.bool a2,D.int .i64 9]) fun am=>bD .i64 am fun aH=>bC (call 108 [D.slc true 2 [D.int .i64 Y,D.int .i64 aH]]) fun an=>bD .i64 an fun aI=>dF call L C n U K J M h r z aI O q))))))
 (some (D.int .i64 0))):=by kernel_rfl
theorem Eu(call:CL)(L:Nat)(C:Nat→Nat)(q:Bool)(h:Nat)(i:List D):bX (cD call L C) O0 Cn FinM.canon Tryz.f109 [D.slc q h i]=
 (bC (call 110 [D.bool ((h:Int)==0),D.int .i64 12]) fun r=>bD .i64 r fun x=>bC (call 110 [D.bool (decide ((h:Int)>36)),D.int .i64 5]) fun J=>bD .i64 J fun M=>bC (call 108 [D.slc true 2 [D.int .i64 x,D.int .i64 M]]) fun K=>bD .i64 K fun z=>bx (z !=0)
 (some (D.int .i64 z))
 (kn call L C L q h i ((h:Int)) 0 ([]) ([]))):=by kernel_rfl
def Ev:bN:=fun p=>match p with
 |15=>nm [0,3,5] [] [3]
 |31=>nm [3,5] [] [3]
 |_=>none
noncomputable def kD(call:CL)(L:Nat)(C:Nat→Nat)(h:ByteArray)(q:Bool)(r:Nat)(i:List D)(z:Int):Option D:=
 eO (cD call L C) O0 Ev FinM.canon Tryz.f152 [true,true,true,true] [] (C 31) (St.mk (J::J::J::D.loc 3 0 0::J::D.int .i64 z::jn 26 []) (Z::Z::Z::(1,some (Ob.box [D.str h,D.slc q r i] false))::zn 28 []))
noncomputable def kE(call:CL)(L:Nat)(C:Nat→Nat)(M:Bool)(O:Nat)(K:List D)(h:ByteArray)(q:Bool)(r:Nat)(i:List D)(z:Int):Option D:=
 eO (cD call L C) O0 Ev FinM.canon Tryz.f152 [true,true,true] [] (C 15) (St.mk (D.slc M O K::J::J::D.loc 3 0 0::J::D.int .i64 z::jn 26 []) (Z::Z::Z::(1,some (Ob.box [D.str h,D.slc q r i] false))::zn 28 []))
theorem xX(call:CL)(L:Nat)(C:Nat→Nat)(J:ByteArray)(q:Bool)(r:Nat)(i:List D)(h:Int)(hC:∀t,C t=1):kD call L C J q r i h=
 (bx (h==0)
 (bC (call 220 [D.slc q r i]) fun z=>bD .i64 z fun K=>some (D.int .i64 K))
 (some (D.int .i64 h))):=by
 unfold kD;rw[hC]
 kernel_rfl
theorem xY(call:CL)(L:Nat)(C:Nat→Nat)(M:Bool)(J:Nat)(K:List D)(i:ByteArray)(r:Bool)(h:Nat)(q:List D)(z:Int)(hC:∀t,C t=1):kE call L C M J K i r h q z=
 (bx (z==0)
 (bx ((h:Int) !=(J:Int))
 (kD call L C i r h q 2)
 (kD call L C i r h q z))
 (kD call L C i r h q z)):=by
 unfold kE;rw[hC]
 kernel_rfl
theorem Ew(call:CL)(L:Nat)(C:Nat→Nat)(q:Bool)(z:Nat)(i:List D)(h:ByteArray)(K:Bool)(M:Nat)(J:List D):bX (cD call L C) O0 Ev FinM.canon Tryz.f152 [D.slc q z i,D.agg [D.str h,D.slc K M J]]=
 (bC (call 83 [D.slc q z i]) fun r=>bD .i64 r fun x=>bx (x==0)
 (bC (call 80 [D.str h]) fun O=>bU O fun b=>bx (!b)
 (kE call L C q z i h K M J 8)
 (kE call L C q z i h K M J x))
 (kE call L C q z i h K M J x)):=by kernel_rfl
theorem Hr(call:CL)(L:Nat)(C:Nat→Nat)(M:Bool)(i:Nat)(K:List D)(q:ByteArray)(J:Bool)(h:Nat)(z:List D):bX (cD call L C) O0 N0 FinM.canon Tryz.f41 [D.slc M i K,D.agg [D.str q,D.slc J h z]]=
 (bC (call 109 [D.slc M i K]) fun r=>bD .i64 r fun x=>bC (call 111 [D.str q]) fun O=>bU O fun b=>bC (call 110 [D.bool !b,D.int .i64 8]) fun U=>bD .i64 U fun Z=>bC (call 110 [D.bool ((h:Int) !=(i:Int)),D.int .i64 2]) fun V=>bD .i64 V fun a0=>bC (call 112 [D.slc J h z]) fun W=>bD .i64 W fun a1=>bC (call 108 [D.slc true 4 [D.int .i64 x,D.int .i64 Z,D.int .i64 a0,D.int .i64 a1]]) fun Y=>bD .i64 Y fun a2=>some (D.int .i64 a2)):=by kernel_rfl
def Hs:bN:=fun p=>match p with
 |26=>nm [0,1,7,8] [] []
 |_=>none
noncomputable def pt(call:CL)(L:Nat)(C:Nat→Nat)(n:Nat)(r:Bool)(z:Nat)(q:List D)(J:ByteArray)(h i:Int):Option D:=
 cp (cD call L C) O0 Hs FinM.canon Tryz.f223 [true,false,true,false] [] n (St.mk (D.slc r z q::D.str J::jn 5 (D.int .i64 h::D.int .i64 i::jn 10 [])) (zn 19 []))
theorem qD(call:CL)(L:Nat)(C:Nat→Nat)(n:Nat)(J:Bool)(r:Nat)(q:List D)(z:ByteArray)(i h:Int):pt call L C (n+1) J r q z i h=
 (bx (decide (h<i))
 (bW (decide (0≤h∧h<(r:Int)))
 (bn q (Int.toNat h*1) fun d=>bP d fun s=>bx (ByteArray.toList z==ByteArray.toList s)
 (some (D.int .i64 h))
 (pt call L C n J r q z i (IntKind.wrap .i64 (h+1)))))
 (some (D.int .i64 (-1)))):=by kernel_rfl
theorem Ex(call:CL)(L:Nat)(C:Nat→Nat)(q:Bool)(h:Nat)(i:List D)(r:ByteArray):bX (cD call L C) O0 Hs FinM.canon Tryz.f223 [D.slc q h i,D.str r]=
 (pt call L C L q h i r ((h:Int)) 0):=by kernel_rfl
def Ht:bN:=fun p=>match p with
 |26=>nm [0,1,7,8] [] []
 |_=>none
noncomputable def pu(call:CL)(L:Nat)(C:Nat→Nat)(n:Nat)(z:Bool)(J:Nat)(r:List D)(q:ByteArray)(h i:Int):Option D:=
 cp (cD call L C) O0 Ht FinM.canon Tryz.f221 [true,false,true,false] [] n (St.mk (D.slc z J r::D.fn (Fn.func 222) [] [D.snap [D.str q] 0]::jn 5 (D.int .i64 h::D.int .i64 i::jn 10 [])) (zn 19 []))
theorem qE(call:CL)(L:Nat)(C:Nat→Nat)(n:Nat)(K:Bool)(J:Nat)(i:List D)(z:ByteArray)(q h:Int):pu call L C (n+1) K J i z q h=
 (bx (decide (h<q))
 (bW (decide (0≤h∧h<(J:Int)))
 (bn i (Int.toNat h*3+0) fun d=>bP d fun s=>bn i (Int.toNat h*3+1) fun M=>bP M fun U=>bn i (Int.toNat h*3+2) fun O=>bD .i64 O fun x=>bC (call 222 [D.agg [D.str s,D.str U,D.int .i64 x],D.snap [D.str z] 0]) fun r=>bU r fun b=>bx b
 (some (D.int .i64 h))
 (pu call L C n K J i z q (IntKind.wrap .i64 (h+1)))))
 (some (D.int .i64 (-1)))):=by kernel_rfl
theorem Ey(call:CL)(L:Nat)(C:Nat→Nat)(r:Bool)(h:Nat)(q:List D)(i:ByteArray):bX (cD call L C) O0 Ht FinM.canon Tryz.f221 [D.slc r h q,D.fn (Fn.func 222) [] [D.snap [D.str i] 0]]=
 (pu call L C L r h q i ((h:Int)) 0):=by kernel_rfl
theorem Ez(call:CL)(L:Nat)(C:Nat→Nat)(i q:ByteArray)(r:Int)(h:ByteArray):bX (cD call L C) O0 N0 FinM.canon Tryz.f222 [D.agg [D.str i,D.str q,D.int .i64 r],D.snap [D.str h] 0]=
 (some (D.bool (ByteArray.toList i==ByteArray.toList h))):=by kernel_rfl
def Hu:bN:=fun p=>match p with
 |26=>nm [0,1,7,8] [] []
 |_=>none
noncomputable def pv(call:CL)(L:Nat)(C:Nat→Nat)(n:Nat)(K:Bool)(M:Nat)(J:List D)(q:ByteArray)(r:Int)(z:Bool)(h i:Int):Option D:=
 cp (cD call L C) O0 Hu FinM.canon Tryz.f275 [true,false,true,false] [] n (St.mk (D.slc K M J::D.fn (Fn.func 276) [] [D.snap [D.str q] 0,D.snap [D.int .i64 r] 0,D.snap [D.bool z] 0]::jn 5 (D.int .i64 h::D.int .i64 i::jn 10 [])) (zn 19 []))
theorem qF(call:CL)(L:Nat)(C:Nat→Nat)(n:Nat)(O:Bool)(M:Nat)(i:List D)(z:ByteArray)(J:Int)(K:Bool)(q h:Int):pv call L C (n+1) O M i z J K q h=
 (bx (decide (h<q))
 (bW (decide (0≤h∧h<(M:Int)))
 (bn i (Int.toNat h*5+0) fun d=>bP d fun s=>bn i (Int.toNat h*5+1) fun U=>bP U fun Z=>bn i (Int.toNat h*5+2) fun V=>bD .i64 V fun x=>bn i (Int.toNat h*5+3) fun W=>bD .i64 W fun a1=>bn i (Int.toNat h*5+4) fun Y=>bP Y fun a0=>bC (call 276 [D.agg [D.str s,D.str Z,D.int .i64 x,D.int .i64 a1,D.str a0],D.snap [D.str z] 0,D.snap [D.int .i64 J] 0,D.snap [D.bool K] 0]) fun r=>bU r fun b=>bx b
 (some (D.int .i64 h))
 (pv call L C n O M i z J K q (IntKind.wrap .i64 (h+1)))))
 (some (D.int .i64 (-1)))):=by kernel_rfl
theorem EA(call:CL)(L:Nat)(C:Nat→Nat)(J:Bool)(h:Nat)(z:List D)(i:ByteArray)(q:Int)(r:Bool):bX (cD call L C) O0 Hu FinM.canon Tryz.f275 [D.slc J h z,D.fn (Fn.func 276) [] [D.snap [D.str i] 0,D.snap [D.int .i64 q] 0,D.snap [D.bool r] 0]]=
 (pv call L C L J h z i q r ((h:Int)) 0):=by kernel_rfl
theorem EB(call:CL)(L:Nat)(C:Nat→Nat)(h K:ByteArray)(i M:Int)(O q:ByteArray)(z:Int)(J:Bool):bX (cD call L C) O0 N0 FinM.canon Tryz.f276 [D.agg [D.str h,D.str K,D.int .i64 i,D.int .i64 M,D.str O],D.snap [D.str q] 0,D.snap [D.int .i64 z] 0,D.snap [D.bool J] 0]=
 (bx (ByteArray.toList h==ByteArray.toList q)
 (bx (i==z)
 (bC (call 153 [D.agg [D.str h,D.str K,D.int .i64 i,D.int .i64 M,D.str O]]) fun r=>bU r fun b=>some (D.bool (b==J)))
 (some (D.bool false)))
 (some (D.bool false))):=by kernel_rfl
theorem EC(call:CL)(L:Nat)(C:Nat→Nat)(O:Bool)(U:Nat)(M:List D)(W:Bool)(Y:Nat)(V:List D)(a0:Bool)(a1:Nat)(Z:List D)(J:Bool)(K:Nat)(z:List D)(a3:Bool)(a4:Nat)(a2:List D)(a6:Bool)(a7:Nat)(a5:List D)(q:ByteArray)(h:Int)(i:Bool):bX (cD call L C) O0 N0 FinM.canon Tryz.f224 [D.agg [D.slc O U M,D.slc W Y V,D.slc a0 a1 Z,D.slc J K z,D.slc a3 a4 a2,D.slc a6 a7 a5],D.str q,D.int .i64 h,D.bool i]=
 (bC (call 275 [D.slc J K z,D.fn (Fn.func 276) [] [D.snap [D.str q] 0,D.snap [D.int .i64 h] 0,D.snap [D.bool i] 0]]) fun r=>bD .i64 r fun x=>some (D.int .i64 x)):=by kernel_rfl
def MK:bN:=fun p=>match p with
 |26=>nm [1,2,3,4,9] [10] [4,10]
 |_=>none
noncomputable def nK(call:CL)(L:Nat)(C:Nat→Nat)(n:Nat)(r:ByteArray)(h:Int)(q K:Bool)(M:Nat)(z:List D)(U:Bool)(V:Nat)(O:List D)(Y:Bool)(a0:Nat)(W:List D)(a2:Bool)(a3:Nat)(a1:List D)(a5:Bool)(a6:Nat)(a4:List D)(a8:Bool)(a9:Nat)(a7:List D)(i:Int):Option D:=
 cp (cD call L C) O0 MK FinM.canon Tryz.f95 [true,false,true,false] [] n (St.mk (J::D.str r::D.int .i64 h::D.bool q::D.loc 4 0 0::J::J::J::J::D.int .i64 i::jn 32 []) (Z::Z::Z::Z::(1,some (Ob.box [D.slc K M z,D.slc U V O,D.slc Y a0 W,D.slc a2 a3 a1,D.slc a5 a6 a4,D.slc a8 a9 a7] false))::zn 37 []))
theorem sU(call:CL)(L:Nat)(C:Nat→Nat)(n:Nat)(q:ByteArray)(z:Int)(J M:Bool)(O:Nat)(K:List D)(V:Bool)(W:Nat)(U:List D)(Z:Bool)(a0:Nat)(Y:List D)(a1:Bool)(r:Nat)(i:List D)(a3:Bool)(a4:Nat)(a2:List D)(a6:Bool)(a7:Nat)(a5:List D)(h:Int):nK call L C (n+1) q z J M O K V W U Z a0 Y a1 r i a3 a4 a2 a6 a7 a5 h=
 (bx (decide (h<(r:Int)))
 (bW (decide (0≤h∧h<(r:Int)))
 (bn i (Int.toNat h*5+0) fun d=>bP d fun s=>bn i (Int.toNat h*5+1) fun a8=>bP a8 fun ac=>bn i (Int.toNat h*5+2) fun a9=>bD .i64 a9 fun x=>bn i (Int.toNat h*5+3) fun aa=>bD .i64 aa fun _x_1=>bn i (Int.toNat h*5+4) fun ab=>bP ab fun _s_2=>bx (ByteArray.toList s==ByteArray.toList q)
 (bx (x==z)
 (bx ((ByteArray.toList ac==ByteArray.toList q)==J)
 (some (D.int .i64 h))
 (nK call L C n q z J M O K V W U Z a0 Y a1 r i a3 a4 a2 a6 a7 a5 (IntKind.wrap .i64 (h+1))))
 (nK call L C n q z J M O K V W U Z a0 Y a1 r i a3 a4 a2 a6 a7 a5 (IntKind.wrap .i64 (h+1))))
 (nK call L C n q z J M O K V W U Z a0 Y a1 r i a3 a4 a2 a6 a7 a5 (IntKind.wrap .i64 (h+1)))))
 (some (D.int .i64 (-1)))):=by kernel_rfl
theorem Hv(call:CL)(L:Nat)(C:Nat→Nat)(z:Bool)(J:Nat)(r:List D)(M:Bool)(O:Nat)(K:List D)(V:Bool)(W:Nat)(U:List D)(Z:Bool)(a0:Nat)(Y:List D)(a2:Bool)(a3:Nat)(a1:List D)(a5:Bool)(a6:Nat)(a4:List D)(q:ByteArray)(h:Int)(i:Bool):bX (cD call L C) O0 MK FinM.canon Tryz.f95 [D.agg [D.slc z J r,D.slc M O K,D.slc V W U,D.slc Z a0 Y,D.slc a2 a3 a1,D.slc a5 a6 a4],D.str q,D.int .i64 h,D.bool i]=
 (nK call L C L q h i z J r M O K V W U Z a0 Y a2 a3 a1 a5 a6 a4 0):=by kernel_rfl
def Hw:bN:=fun p=>match p with
 |58=>nm [1,3] [] [1]
 |_=>none
noncomputable def pw(call:CL)(L:Nat)(C:Nat→Nat)(n:Nat)(i:ByteArray)(r:Bool)(z:Nat)(q:List D)(K h:Int):Option D:=
 cp (cD call L C) O0 Hw FinM.canon Tryz.f150 (bt 5 11) [] n (St.mk (J::D.loc 1 0 0::J::D.int .i64 h::jn 29 []) (Z::(1,some (Ob.box [D.str i,D.slc r z q,D.int .i64 K] false))::zn 31 []))
theorem qG(call:CL)(L:Nat)(C:Nat→Nat)(n:Nat)(r:ByteArray)(z:Bool)(i:Nat)(q:List D)(J h:Int):pw call L C (n+1) r z i q J h=
 (bx (decide (h<(i:Int)))
 (bW (decide (0≤h∧h<(i:Int)))
 (bn q (Int.toNat h*2+1) fun d=>bP d fun s=>bx (decide (((ByteArray.size s):Int)>60))
 (some (D.bool false))
 (pw call L C n r z i q J (IntKind.wrap .i64 (h+1)))))
 (some (D.bool true))):=by kernel_rfl
theorem ED(call:CL)(L:Nat)(C:Nat→Nat)(h:ByteArray)(r:Bool)(i:Nat)(q:List D)(z:Int):bX (cD call L C) O0 Hw FinM.canon Tryz.f150 [D.agg [D.str h,D.slc r i q,D.int .i64 z]]=
 (bx (decide (((ByteArray.size h):Int)>60))
 (some (D.bool false))
 (bx (decide ((i:Int)>39))
 (some (D.bool false))
 (pw call L C L h r i q z 0))):=by kernel_rfl
def Hx:bN:=fun p=>match p with
 |26=>nm [1,2,5] [] [2]
 |_=>none
noncomputable def px(call:CL)(L:Nat)(C:Nat→Nat)(n:Nat)(i:ByteArray)(r:Bool)(z:Nat)(q:List D)(M:Bool)(O:Nat)(K:List D)(V:Bool)(W:Nat)(U:List D)(a0:Bool)(a1:Nat)(Y:List D)(a3:Bool)(a4:Nat)(a2:List D)(a6:Bool)(a7:Nat)(a5:List D)(h:Int):Option D:=
 cp (cD call L C) O0 Hx FinM.canon Tryz.f151 [true,false,true,false] [] n (St.mk (J::D.str i::D.loc 2 0 0::J::J::D.int .i64 h::jn 16 []) (Z::Z::(1,some (Ob.box [D.slc r z q,D.slc M O K,D.slc V W U,D.slc a0 a1 Y,D.slc a3 a4 a2,D.slc a6 a7 a5] false))::zn 19 []))
theorem qH(call:CL)(L:Nat)(C:Nat→Nat)(n:Nat)(q:ByteArray)(J:Bool)(K:Nat)(z:List D)(O:Bool)(U:Nat)(M:List D)(W:Bool)(Y:Nat)(V:List D)(a0:Bool)(a1:Nat)(Z:List D)(a3:Bool)(a4:Nat)(a2:List D)(a5:Bool)(i:Nat)(r:List D)(h:Int):px call L C (n+1) q J K z O U M W Y V a0 a1 Z a3 a4 a2 a5 i r h=
 (bx (decide (h<(i:Int)))
 (bW (decide (0≤h∧h<(i:Int)))
 (bn r (Int.toNat h*3+0) fun d=>bP d fun s=>bx (ByteArray.toList s==ByteArray.toList q)
 (some (D.int .i64 h))
 (px call L C n q J K z O U M W Y V a0 a1 Z a3 a4 a2 a5 i r (IntKind.wrap .i64 (h+1)))))
 (some (D.int .i64 (-1)))):=by kernel_rfl
theorem EE(call:CL)(L:Nat)(C:Nat→Nat)(q:Bool)(r:Nat)(i:List D)(J:Bool)(K:Nat)(z:List D)(O:Bool)(U:Nat)(M:List D)(W:Bool)(Y:Nat)(V:List D)(a0:Bool)(a1:Nat)(Z:List D)(a3:Bool)(a4:Nat)(a2:List D)(h:ByteArray):bX (cD call L C) O0 Hx FinM.canon Tryz.f151 [D.agg [D.slc q r i,D.slc J K z,D.slc O U M,D.slc W Y V,D.slc a0 a1 Z,D.slc a3 a4 a2],D.str h]=
 (px call L C L h q r i J K z O U M W Y V a0 a1 Z a3 a4 a2 0):=by kernel_rfl
theorem EF(call:CL)(L:Nat)(C:Nat→Nat)(h:Int):bX (cD call L C) O0 N0 FinM.canon Tryz.f284 [D.int .i64 h]=
 (bx (decide (h≥1))
 (some (D.bool (decide (h≤99))))
 (some (D.bool false))):=by kernel_rfl
theorem EG(call:CL)(L:Nat)(C:Nat→Nat)(h:Int):bX (cD call L C) O0 N0 FinM.canon Tryz.f285 [D.int .i64 h]=
 (some (D.bool (h==0))):=by kernel_rfl
theorem EH(call:CL)(L:Nat)(C:Nat→Nat):bX (cD call L C) O0 N0 FinM.canon Tryz.f231 []=
 (some (D.msnap ([D.str (ByteArray.mk #[])]++[D.str (ByteArray.mk #[99])]++[D.str (ByteArray.mk #[120])]++[D.str (ByteArray.mk #[45])]) ([D.agg [D.fn (Fn.func 284) [] [],D.fn (Fn.func 138) [] []]]++[D.agg [D.fn (Fn.func 284) [] [],D.fn (Fn.func 286) [] []]]++[D.agg [D.fn (Fn.func 285) [] [],D.fn (Fn.func 287) [] []]]++[D.agg [D.fn (Fn.func 285) [] [],D.fn (Fn.func 288) [] []]]))):=by kernel_rfl
theorem EI(call:CL)(L:Nat)(C:Nat→Nat)(M:Bool)(O:Nat)(K:List D)(V:Bool)(W:Nat)(U:List D)(Z:Bool)(a0:Nat)(Y:List D)(a1:Bool)(i:Nat)(h:List D)(a3:Bool)(a4:Nat)(a2:List D)(a6:Bool)(a7:Nat)(a5:List D)(J:ByteArray)(q:Int)(z:Bool):bX (cD call L C) O0 N0 FinM.canon Tryz.f156 [D.agg [D.slc M O K,D.slc V W U,D.slc Z a0 Y,D.slc a1 i h,D.slc a3 a4 a2,D.slc a6 a7 a5],D.str J,D.int .i64 q,D.bool z]=
 (bC (call 224 [D.agg [D.slc M O K,D.slc V W U,D.slc Z a0 Y,D.slc a1 i h,D.slc a3 a4 a2,D.slc a6 a7 a5],D.str J,D.int .i64 q,D.bool z]) fun r=>bD .i64 r fun x=>bx (decide (x<0))
 (some (D.tup [D.agg [D.int .i64 0,D.str (ByteArray.mk #[45])],D.bool false]))
 (bW (decide (0≤x∧x<(i:Int)))
 (bn h (Int.toNat x*5+3+0) fun d=>bD .i64 d fun a9=>bn h (Int.toNat x*5+3+1) fun a8=>bP a8 fun s=>some (D.tup [D.agg [D.int .i64 a9,D.str s],D.bool true])))):=by kernel_rfl
def Ab:bN:=fun p=>match p with
 |58=>nm [1,2,3,7,15,16] [9,11] [3,9,11,47]
 |_=>none
noncomputable def dG(call:CL)(L:Nat)(C:Nat→Nat)(n:Nat)(q:ByteArray)(z:Bool)(K:Nat)(r:List D)(O:Bool)(U:Nat)(M:List D)(W:Bool)(Y:Nat)(V:List D)(a1:Bool)(a2:Nat)(a0:List D)(a4:Bool)(a5:Nat)(a3:List D)(a7:Bool)(a8:Nat)(a6:List D)(vl:Ow)(h i:Int):Option D:=
 cp (cD call L C) O0 Ab FinM.canon Tryz.f157 (bt 5 11) [] n (St.mk (J::D.str q::D.fn (Fn.func 158) [] []::D.loc 3 0 0::J::J::J::j7 47 vl::jn 7 (D.int .i64 h::D.int .i64 i::jn 33 [])) (Z::Z::Z::(1,some (Ob.box [D.slc z K r,D.slc O U M,D.slc W Y V,D.slc a1 a2 a0,D.slc a4 a5 a3,D.slc a7 a8 a6] false))::zn 43 [j8 3 1 vl,Z,Z]))
theorem mO(call:CL)(L:Nat)(C:Nat→Nat)(n:Nat)(i:ByteArray)(z:Bool)(J:Nat)(q:List D)(M:Bool)(O:Nat)(K:List D)(V:Bool)(W:Nat)(U:List D)(Z:Bool)(a0:Nat)(Y:List D)(a2:Bool)(a3:Nat)(a1:List D)(a5:Bool)(a6:Nat)(a4:List D)(a7 h:Int):dG call L C (n+1) i z J q M O K V W U Z a0 Y a2 a3 a1 a5 a6 a4 (Ow.nil) a7 h=
 (bx (decide (h<a7))
 (bC (call 156 [D.agg [D.slc z J q,D.slc M O K,D.slc V W U,D.slc Z a0 Y,D.slc a2 a3 a1,D.slc a5 a6 a4],D.str i,D.int .i64 (IntKind.wrap .i64 (h+1)),D.bool false]) fun r=>gm r 2 fun c=>bn c 0 fun d=>gW d 2 fun a8=>bn a8 0 fun ag=>bD .i64 ag fun x=>bn a8 1 fun ah=>bP ah fun s=>bn c 1 fun ai=>bU ai fun b=>bC (call 156 [D.agg [D.slc z J q,D.slc M O K,D.slc V W U,D.slc Z a0 Y,D.slc a2 a3 a1,D.slc a5 a6 a4],D.str i,D.int .i64 (IntKind.wrap .i64 (h+1)),D.bool true]) fun an=>gm an 2 fun a9=>bn a9 0 fun aj=>gW aj 2 fun aa=>bn aa 0 fun ak=>bD .i64 ak fun ac=>bn aa 1 fun al=>bP al fun ab=>bn a9 1 fun am=>bU am fun ad=>bx b
 (bC (call 158 [D.agg [D.int .i64 x,D.str s],D.agg [D.int .i64 ac,D.str ab],D.bool ad]) fun ao=>bU ao fun ae=>bx ae
 (dG call L C n i z J q M O K V W U Z a0 Y a2 a3 a1 a5 a6 a4 (Ow.own 1 [D.int .i64 (IntKind.wrap .i64 (h+1))]) a7 (IntKind.wrap .i64 (h+1)))
 (dG call L C n i z J q M O K V W U Z a0 Y a2 a3 a1 a5 a6 a4 (Ow.nil) a7 (IntKind.wrap .i64 (h+1))))
 (bC (call 158 [D.agg [D.int .i64 x,D.str s],D.agg [D.int .i64 ac,D.str ab],D.bool false]) fun ap=>bU ap fun af=>bx af
 (dG call L C n i z J q M O K V W U Z a0 Y a2 a3 a1 a5 a6 a4 (Ow.own 1 [D.int .i64 (IntKind.wrap .i64 (h+1))]) a7 (IntKind.wrap .i64 (h+1)))
 (dG call L C n i z J q M O K V W U Z a0 Y a2 a3 a1 a5 a6 a4 (Ow.nil) a7 (IntKind.wrap .i64 (h+1)))))
 (some (D.slc true 0 []))):=by kernel_rfl
theorem mP(call:CL)(L:Nat)(C:Nat→Nat)(n:Nat)(q:ByteArray)(z:Bool)(J:Nat)(r:List D)(M:Bool)(O:Nat)(K:List D)(V:Bool)(W:Nat)(U:List D)(Z:Bool)(a0:Nat)(Y:List D)(a2:Bool)(a3:Nat)(a1:List D)(a5:Bool)(a6:Nat)(a4:List D)(i:Nat)(a8:List D)(a7 h:Int):dG call L C (n+1) q z J r M O K V W U Z a0 Y a2 a3 a1 a5 a6 a4 (Ow.own i a8) a7 h=
 (bx (decide (h<a7))
 (bC (call 156 [D.agg [D.slc z J r,D.slc M O K,D.slc V W U,D.slc Z a0 Y,D.slc a2 a3 a1,D.slc a5 a6 a4],D.str q,D.int .i64 (IntKind.wrap .i64 (h+1)),D.bool false]) fun av=>gm av 2 fun a9=>bn a9 0 fun ar=>gW ar 2 fun aa=>bn aa 0 fun au=>bD .i64 au fun af=>bn aa 1 fun al=>bP al fun ad=>bn a9 1 fun am=>bU am fun ah=>bC (call 156 [D.agg [D.slc z J r,D.slc M O K,D.slc V W U,D.slc Z a0 Y,D.slc a2 a3 a1,D.slc a5 a6 a4],D.str q,D.int .i64 (IntKind.wrap .i64 (h+1)),D.bool true]) fun aw=>gm aw 2 fun ab=>bn ab 0 fun an=>gW an 2 fun ac=>bn ac 0 fun ao=>bD .i64 ao fun ag=>bn ac 1 fun ap=>bP ap fun ae=>bn ab 1 fun aq=>bU aq fun ai=>bx ah
 (bC (call 158 [D.agg [D.int .i64 af,D.str ad],D.agg [D.int .i64 ag,D.str ae],D.bool ai]) fun ax=>bU ax fun aj=>bx aj
 (bW (decide ((i+1)*8≤cu∧i+1≤9223372036854775807))
 (dG call L C n q z J r M O K V W U Z a0 Y a2 a3 a1 a5 a6 a4 (Ow.own (i+1) (a8++[D.int .i64 (IntKind.wrap .i64 (h+1))])) a7 (IntKind.wrap .i64 (h+1))))
 (dG call L C n q z J r M O K V W U Z a0 Y a2 a3 a1 a5 a6 a4 (Ow.own i a8) a7 (IntKind.wrap .i64 (h+1))))
 (bC (call 158 [D.agg [D.int .i64 af,D.str ad],D.agg [D.int .i64 ag,D.str ae],D.bool false]) fun ay=>bU ay fun ak=>bx ak
 (bW (decide ((i+1)*8≤cu∧i+1≤9223372036854775807))
 (dG call L C n q z J r M O K V W U Z a0 Y a2 a3 a1 a5 a6 a4 (Ow.own (i+1) (a8++[D.int .i64 (IntKind.wrap .i64 (h+1))])) a7 (IntKind.wrap .i64 (h+1))))
 (dG call L C n q z J r M O K V W U Z a0 Y a2 a3 a1 a5 a6 a4 (Ow.own i a8) a7 (IntKind.wrap .i64 (h+1)))))
 (some (D.slc false i a8))):=by kernel_rfl
theorem Co(call:CL)(L:Nat)(C:Nat→Nat)(r:Bool)(z:Nat)(q:List D)(K:Bool)(M:Nat)(J:List D)(U:Bool)(h:Nat)(O:List D)(W:Bool)(Y:Nat)(V:List D)(a0:Bool)(a1:Nat)(Z:List D)(a3:Bool)(a4:Nat)(a2:List D)(i:ByteArray):bX (cD call L C) O0 Ab FinM.canon Tryz.f157 [D.agg [D.slc r z q,D.slc K M J,D.slc U h O,D.slc W Y V,D.slc a0 a1 Z,D.slc a3 a4 a2],D.str i,D.fn (Fn.func 158) [] []]=
 (dG call L C L i r z q K M J U h O W Y V a0 a1 Z a3 a4 a2 (Ow.nil) ((h:Int)) 0):=by kernel_rfl
noncomputable def dH(call:CL)(L:Nat)(C:Nat→Nat)(n:Nat)(q:ByteArray)(z:Bool)(K:Nat)(r:List D)(O:Bool)(U:Nat)(M:List D)(W:Bool)(Y:Nat)(V:List D)(a1:Bool)(a2:Nat)(a0:List D)(a4:Bool)(a5:Nat)(a3:List D)(a7:Bool)(a8:Nat)(a6:List D)(vl:Ow)(h i:Int):Option D:=
 cp (cD call L C) O0 Ab FinM.canon Tryz.f157 (bt 5 11) [] n (St.mk (J::D.str q::D.fn (Fn.func 159) [] []::D.loc 3 0 0::J::J::J::j7 47 vl::jn 7 (D.int .i64 h::D.int .i64 i::jn 33 [])) (Z::Z::Z::(1,some (Ob.box [D.slc z K r,D.slc O U M,D.slc W Y V,D.slc a1 a2 a0,D.slc a4 a5 a3,D.slc a7 a8 a6] false))::zn 43 [j8 3 1 vl,Z,Z]))
theorem mQ(call:CL)(L:Nat)(C:Nat→Nat)(n:Nat)(i:ByteArray)(z:Bool)(J:Nat)(q:List D)(M:Bool)(O:Nat)(K:List D)(V:Bool)(W:Nat)(U:List D)(Z:Bool)(a0:Nat)(Y:List D)(a2:Bool)(a3:Nat)(a1:List D)(a5:Bool)(a6:Nat)(a4:List D)(a7 h:Int):dH call L C (n+1) i z J q M O K V W U Z a0 Y a2 a3 a1 a5 a6 a4 (Ow.nil) a7 h=
 (bx (decide (h<a7))
 (bC (call 156 [D.agg [D.slc z J q,D.slc M O K,D.slc V W U,D.slc Z a0 Y,D.slc a2 a3 a1,D.slc a5 a6 a4],D.str i,D.int .i64 (IntKind.wrap .i64 (h+1)),D.bool false]) fun r=>gm r 2 fun c=>bn c 0 fun d=>gW d 2 fun a8=>bn a8 0 fun ag=>bD .i64 ag fun x=>bn a8 1 fun ah=>bP ah fun s=>bn c 1 fun ai=>bU ai fun b=>bC (call 156 [D.agg [D.slc z J q,D.slc M O K,D.slc V W U,D.slc Z a0 Y,D.slc a2 a3 a1,D.slc a5 a6 a4],D.str i,D.int .i64 (IntKind.wrap .i64 (h+1)),D.bool true]) fun an=>gm an 2 fun a9=>bn a9 0 fun aj=>gW aj 2 fun aa=>bn aa 0 fun ak=>bD .i64 ak fun ac=>bn aa 1 fun al=>bP al fun ab=>bn a9 1 fun am=>bU am fun ad=>bx b
 (bC (call 159 [D.agg [D.int .i64 x,D.str s],D.agg [D.int .i64 ac,D.str ab],D.bool ad]) fun ao=>bU ao fun ae=>bx ae
 (dH call L C n i z J q M O K V W U Z a0 Y a2 a3 a1 a5 a6 a4 (Ow.own 1 [D.int .i64 (IntKind.wrap .i64 (h+1))]) a7 (IntKind.wrap .i64 (h+1)))
 (dH call L C n i z J q M O K V W U Z a0 Y a2 a3 a1 a5 a6 a4 (Ow.nil) a7 (IntKind.wrap .i64 (h+1))))
 (bC (call 159 [D.agg [D.int .i64 x,D.str s],D.agg [D.int .i64 ac,D.str ab],D.bool false]) fun ap=>bU ap fun af=>bx af
 (dH call L C n i z J q M O K V W U Z a0 Y a2 a3 a1 a5 a6 a4 (Ow.own 1 [D.int .i64 (IntKind.wrap .i64 (h+1))]) a7 (IntKind.wrap .i64 (h+1)))
 (dH call L C n i z J q M O K V W U Z a0 Y a2 a3 a1 a5 a6 a4 (Ow.nil) a7 (IntKind.wrap .i64 (h+1)))))
 (some (D.slc true 0 []))):=by kernel_rfl
theorem mR(call:CL)(L:Nat)(C:Nat→Nat)(n:Nat)(q:ByteArray)(z:Bool)(J:Nat)(r:List D)(M:Bool)(O:Nat)(K:List D)(V:Bool)(W:Nat)(U:List D)(Z:Bool)(a0:Nat)(Y:List D)(a2:Bool)(a3:Nat)(a1:List D)(a5:Bool)(a6:Nat)(a4:List D)(i:Nat)(a8:List D)(a7 h:Int):dH call L C (n+1) q z J r M O K V W U Z a0 Y a2 a3 a1 a5 a6 a4 (Ow.own i a8) a7 h=
 (bx (decide (h<a7))
 (bC (call 156 [D.agg [D.slc z J r,D.slc M O K,D.slc V W U,D.slc Z a0 Y,D.slc a2 a3 a1,D.slc a5 a6 a4],D.str q,D.int .i64 (IntKind.wrap .i64 (h+1)),D.bool false]) fun av=>gm av 2 fun a9=>bn a9 0 fun ar=>gW ar 2 fun aa=>bn aa 0 fun au=>bD .i64 au fun af=>bn aa 1 fun al=>bP al fun ad=>bn a9 1 fun am=>bU am fun ah=>bC (call 156 [D.agg [D.slc z J r,D.slc M O K,D.slc V W U,D.slc Z a0 Y,D.slc a2 a3 a1,D.slc a5 a6 a4],D.str q,D.int .i64 (IntKind.wrap .i64 (h+1)),D.bool true]) fun aw=>gm aw 2 fun ab=>bn ab 0 fun an=>gW an 2 fun ac=>bn ac 0 fun ao=>bD .i64 ao fun ag=>bn ac 1 fun ap=>bP ap fun ae=>bn ab 1 fun aq=>bU aq fun ai=>bx ah
 (bC (call 159 [D.agg [D.int .i64 af,D.str ad],D.agg [D.int .i64 ag,D.str ae],D.bool ai]) fun ax=>bU ax fun aj=>bx aj
 (bW (decide ((i+1)*8≤cu∧i+1≤9223372036854775807))
 (dH call L C n q z J r M O K V W U Z a0 Y a2 a3 a1 a5 a6 a4 (Ow.own (i+1) (a8++[D.int .i64 (IntKind.wrap .i64 (h+1))])) a7 (IntKind.wrap .i64 (h+1))))
 (dH call L C n q z J r M O K V W U Z a0 Y a2 a3 a1 a5 a6 a4 (Ow.own i a8) a7 (IntKind.wrap .i64 (h+1))))
 (bC (call 159 [D.agg [D.int .i64 af,D.str ad],D.agg [D.int .i64 ag,D.str ae],D.bool false]) fun ay=>bU ay fun ak=>bx ak
 (bW (decide ((i+1)*8≤cu∧i+1≤9223372036854775807))
 (dH call L C n q z J r M O K V W U Z a0 Y a2 a3 a1 a5 a6 a4 (Ow.own (i+1) (a8++[D.int .i64 (IntKind.wrap .i64 (h+1))])) a7 (IntKind.wrap .i64 (h+1))))
 (dH call L C n q z J r M O K V W U Z a0 Y a2 a3 a1 a5 a6 a4 (Ow.own i a8) a7 (IntKind.wrap .i64 (h+1)))))
 (some (D.slc false i a8))):=by kernel_rfl
theorem Cp(call:CL)(L:Nat)(C:Nat→Nat)(r:Bool)(z:Nat)(q:List D)(K:Bool)(M:Nat)(J:List D)(U:Bool)(h:Nat)(O:List D)(W:Bool)(Y:Nat)(V:List D)(a0:Bool)(a1:Nat)(Z:List D)(a3:Bool)(a4:Nat)(a2:List D)(i:ByteArray):bX (cD call L C) O0 Ab FinM.canon Tryz.f157 [D.agg [D.slc r z q,D.slc K M J,D.slc U h O,D.slc W Y V,D.slc a0 a1 Z,D.slc a3 a4 a2],D.str i,D.fn (Fn.func 159) [] []]=
 (dH call L C L i r z q K M J U h O W Y V a0 a1 Z a3 a4 a2 (Ow.nil) ((h:Int)) 0):=by kernel_rfl
theorem EJ(call:CL)(L:Nat)(C:Nat→Nat)(i:Int)(q:ByteArray)(r:Int)(z:ByteArray)(h:Bool):bX (cD call L C) O0 N0 FinM.canon Tryz.f158 [D.agg [D.int .i64 i,D.str q],D.agg [D.int .i64 r,D.str z],D.bool h]=
 (some (D.bool !h)):=by kernel_rfl
theorem EK(call:CL)(L:Nat)(C:Nat→Nat)(h:Int)(i:ByteArray)(q:Int)(r:ByteArray)(z:Bool):bX (cD call L C) O0 N0 FinM.canon Tryz.f159 [D.agg [D.int .i64 h,D.str i],D.agg [D.int .i64 q,D.str r],D.bool z]=
 (bx z
 (some (D.bool !(h==q&&(ByteArray.toList i==ByteArray.toList r&&true))))
 (some (D.bool false))):=by kernel_rfl
def ML:bN:=fun p=>match p with
 |58=>nm [1,2,4,5,13,14] [7] [2,4,5,7,29]
 |_=>none
noncomputable def nL(call:CL)(L:Nat)(C:Nat→Nat)(n:Nat)(i:ByteArray)(r:Bool)(z:Nat)(q:List D)(M:Bool)(O:Nat)(K:List D)(V:Bool)(W:Nat)(U:List D)(a0:Bool)(a1:Nat)(Y:List D)(a3:Bool)(a4:Nat)(a2:List D)(a6:Bool)(a7:Nat)(a5:List D)(t13 t14:Int)(h:Ow):Option D:=
 cp (cD call L C) O0 ML FinM.canon Tryz.f91 (bt 5 11) [] n (St.mk (J::D.str i::D.loc 2 0 0::J::D.loc 4 0 0::D.loc 5 0 0::jn 7 (D.int .i64 t13::D.int .i64 t14::jn 18 [])) (Z::Z::(1,some (Ob.box [D.slc r z q,D.slc M O K,D.slc V W U,D.slc a0 a1 Y,D.slc a3 a4 a2,D.slc a6 a7 a5] false))::Z::(1,some (Ob.box [D.str (ByteArray.mk #[]),D.nils] false))::(1,some (Ob.box [D.str i,j7 29 h] false))::zn 23 [j8 78 2 h,Z,Z,Z]))
theorem qI(call:CL)(L:Nat)(C:Nat→Nat)(n:Nat)(h:ByteArray)(q:Bool)(z:Nat)(i:List D)(K:Bool)(M:Nat)(J:List D)(U:Bool)(V:Nat)(O:List D)(Y:Bool)(Z:Nat)(W:List D)(a1:Bool)(a2:Nat)(a0:List D)(a4:Bool)(a5:Nat)(a3:List D)(t13 t14:Int):nL call L C (n+1) h q z i K M J U V O Y Z W a1 a2 a0 a4 a5 a3 t13 t14 (Ow.nil)=
 (bx (decide (t14<t13))
 (bC (call 156 [D.agg [D.slc q z i,D.slc K M J,D.slc U V O,D.slc Y Z W,D.slc a1 a2 a0,D.slc a4 a5 a3],D.str h,D.int .i64 (IntKind.wrap .i64 (t14+1)),D.bool false]) fun r=>gm r 2 fun c=>bn c 0 fun d=>gW d 2 fun a6=>bn a6 0 fun a7=>bD .i64 a7 fun x=>bn a6 1 fun a8=>bP a8 fun s=>bn c 1 fun a9=>bU a9 fun _b=>nL call L C n h q z i K M J U V O Y Z W a1 a2 a0 a4 a5 a3 t13 (IntKind.wrap .i64 (t14+1)) (Ow.own 1 [D.int .i64 x,D.str s]))
 (some (D.agg [D.str h,D.slc true 0 []]))):=by kernel_rfl
theorem qJ(call:CL)(L:Nat)(C:Nat→Nat)(n:Nat)(i:ByteArray)(z:Bool)(J:Nat)(r:List D)(M:Bool)(O:Nat)(K:List D)(V:Bool)(W:Nat)(U:List D)(Z:Bool)(a0:Nat)(Y:List D)(a2:Bool)(a3:Nat)(a1:List D)(a5:Bool)(a6:Nat)(a4:List D)(t13 t14:Int)(h:Nat)(q:List D):nL call L C (n+1) i z J r M O K V W U Z a0 Y a2 a3 a1 a5 a6 a4 t13 t14 (Ow.own h q)=
 (bx (decide (t14<t13))
 (bC (call 156 [D.agg [D.slc z J r,D.slc M O K,D.slc V W U,D.slc Z a0 Y,D.slc a2 a3 a1,D.slc a5 a6 a4],D.str i,D.int .i64 (IntKind.wrap .i64 (t14+1)),D.bool false]) fun ad=>gm ad 2 fun a7=>bn a7 0 fun a9=>gW a9 2 fun a8=>bn a8 0 fun aa=>bD .i64 aa fun af=>bn a8 1 fun ab=>bP ab fun ae=>bn a7 1 fun ac=>bU ac fun _b_1=>bW (decide ((h+1)*24≤cu∧h+1≤9223372036854775807))
 (nL call L C n i z J r M O K V W U Z a0 Y a2 a3 a1 a5 a6 a4 t13 (IntKind.wrap .i64 (t14+1)) (Ow.own (h+1) (q++[D.int .i64 af,D.str ae]))))
 (some (D.agg [D.str i,D.slc false h q]))):=by kernel_rfl
theorem Hy(call:CL)(L:Nat)(C:Nat→Nat)(r:Bool)(z:Nat)(q:List D)(K:Bool)(M:Nat)(J:List D)(U:Bool)(h:Nat)(O:List D)(W:Bool)(Y:Nat)(V:List D)(a0:Bool)(a1:Nat)(Z:List D)(a3:Bool)(a4:Nat)(a2:List D)(i:ByteArray):bX (cD call L C) O0 ML FinM.canon Tryz.f91 [D.agg [D.slc r z q,D.slc K M J,D.slc U h O,D.slc W Y V,D.slc a0 a1 Z,D.slc a3 a4 a2],D.str i]=
 (nL call L C L i r z q K M J U h O W Y V a0 a1 Z a3 a4 a2 ((h:Int)) 0 (Ow.nil)):=by kernel_rfl
theorem Hz(call:CL)(L:Nat)(C:Nat→Nat)(q:Bool)(z:Nat)(i:List D)(K:Bool)(M:Nat)(J:List D)(U:Bool)(V:Nat)(O:List D)(Y:Bool)(Z:Nat)(W:List D)(a1:Bool)(a2:Nat)(a0:List D)(a4:Bool)(a5:Nat)(a3:List D)(h:ByteArray):bX (cD call L C) O0 N0 FinM.canon Tryz.f92 [D.agg [D.slc q z i,D.slc K M J,D.slc U V O,D.slc Y Z W,D.slc a1 a2 a0,D.slc a4 a5 a3],D.str h]=
 (bC (call 157 [D.agg [D.slc q z i,D.slc K M J,D.slc U V O,D.slc Y Z W,D.slc a1 a2 a0,D.slc a4 a5 a3],D.str h,D.fn (Fn.func 158) [] []]) fun r=>c9 r fun f n c=>some (D.slc f n c)):=by kernel_rfl
theorem HA(call:CL)(L:Nat)(C:Nat→Nat)(q:Bool)(z:Nat)(i:List D)(K:Bool)(M:Nat)(J:List D)(U:Bool)(V:Nat)(O:List D)(Y:Bool)(Z:Nat)(W:List D)(a1:Bool)(a2:Nat)(a0:List D)(a4:Bool)(a5:Nat)(a3:List D)(h:ByteArray):bX (cD call L C) O0 N0 FinM.canon Tryz.f93 [D.agg [D.slc q z i,D.slc K M J,D.slc U V O,D.slc Y Z W,D.slc a1 a2 a0,D.slc a4 a5 a3],D.str h]=
 (bC (call 157 [D.agg [D.slc q z i,D.slc K M J,D.slc U V O,D.slc Y Z W,D.slc a1 a2 a0,D.slc a4 a5 a3],D.str h,D.fn (Fn.func 159) [] []]) fun r=>c9 r fun f n c=>some (D.slc f n c)):=by kernel_rfl
theorem HB(call:CL)(L:Nat)(C:Nat→Nat)(z:Bool)(J:Nat)(q:List D)(M:Bool)(O:Nat)(K:List D)(V:Bool)(h:Nat)(U:List D)(Y:Bool)(Z:Nat)(W:List D)(a1:Bool)(a2:Nat)(a0:List D)(a4:Bool)(a5:Nat)(a3:List D)(i:ByteArray):bX (cD call L C) O0 N0 FinM.canon Tryz.f94 [D.agg [D.slc z J q,D.slc M O K,D.slc V h U,D.slc Y Z W,D.slc a1 a2 a0,D.slc a4 a5 a3],D.str i]=
 (bC (call 119 [D.bool ((h:Int)==0),D.int .i64 12]) fun r=>bD .i64 r fun x=>bC (call 92 [D.agg [D.slc z J q,D.slc M O K,D.slc V h U,D.slc Y Z W,D.slc a1 a2 a0,D.slc a4 a5 a3],D.str i]) fun a7=>c9 a7 fun _f n _c=>bC (call 119 [D.bool (decide ((n:Int)>0)),D.int .i64 7]) fun a8=>bD .i64 a8 fun ac=>bC (call 93 [D.agg [D.slc z J q,D.slc M O K,D.slc V h U,D.slc Y Z W,D.slc a1 a2 a0,D.slc a4 a5 a3],D.str i]) fun a9=>c9 a9 fun _f_1 a6 _c_1=>bC (call 119 [D.bool (decide ((a6:Int)>0)),D.int .i64 29]) fun aa=>bD .i64 aa fun ad=>bC (call 87 [D.slc true 3 [D.int .i64 x,D.int .i64 ac,D.int .i64 ad]]) fun ab=>bD .i64 ab fun ae=>some (D.int .i64 ae)):=by kernel_rfl
theorem HC(call:CL)(L:Nat)(C:Nat→Nat)(i:Bool)(q:Nat)(h:List D)(J:Bool)(K:Nat)(z:List D)(O:Bool)(U:Nat)(M:List D)(W:Bool)(Y:Nat)(V:List D)(a0:Bool)(a1:Nat)(Z:List D)(a3:Bool)(a4:Nat)(a2:List D)(a5:ByteArray):bX (cD call L C) O0 N0 FinM.canon Tryz.f90 [D.agg [D.slc i q h,D.slc J K z,D.slc O U M,D.slc W Y V,D.slc a0 a1 Z,D.slc a3 a4 a2],D.str a5]=
 (bC (call 17 [D.agg [D.slc i q h,D.slc J K z,D.slc O U M,D.slc W Y V,D.slc a0 a1 Z,D.slc a3 a4 a2]]) fun r=>bD .i64 r fun x=>bx (x !=0)
 (some (D.int .i64 x))
 (bC (call 154 [D.agg [D.slc i q h,D.slc J K z,D.slc O U M,D.slc W Y V,D.slc a0 a1 Z,D.slc a3 a4 a2],D.str a5]) fun a6=>bD .i64 a6 fun a8=>bC (call 119 [D.bool (decide (a8<0)),D.int .i64 10]) fun a7=>bD .i64 a7 fun a9=>some (D.int .i64 a9))):=by kernel_rfl
def MM:bN:=fun p=>match p with
 |58=>nm [1,2,5,6] [] [2,29]
 |_=>none
noncomputable def fU(call:CL)(L:Nat)(C:Nat→Nat)(n:Nat)(q:ByteArray)(z:Bool)(K:Nat)(r:List D)(O:Bool)(U:Nat)(M:List D)(W:Bool)(Y:Nat)(V:List D)(a1:Bool)(a2:Nat)(a0:List D)(a4:Bool)(a5:Nat)(a3:List D)(a7:Bool)(a8:Nat)(a6:List D)(h:Ow)(i:Int):Option D:=
 cp (cD call L C) O0 MM FinM.canon Tryz.f27 (bt 5 11) [] n (St.mk (J::D.str q::D.loc 2 0 0::J::J::j7 29 h::D.int .i64 i::jn 24 []) (Z::Z::(1,some (Ob.box [D.slc z K r,D.slc O U M,D.slc W Y V,D.slc a1 a2 a0,D.slc a4 a5 a3,D.slc a7 a8 a6] false))::zn 26 [j8 3 1 h,Z]))
theorem jt(call:CL)(L:Nat)(C:Nat→Nat)(n:Nat)(q:ByteArray)(J:Bool)(K:Nat)(z:List D)(O:Bool)(U:Nat)(M:List D)(W:Bool)(i:Nat)(V:List D)(Z:Bool)(a0:Nat)(Y:List D)(a2:Bool)(a3:Nat)(a1:List D)(a5:Bool)(a6:Nat)(a4:List D)(h:Int):fU call L C (n+1) q J K z O U M W i V Z a0 Y a2 a3 a1 a5 a6 a4 (Ow.nil) h=
 (bx (decide (h≤(i:Int)))
 (bC (call 95 [D.agg [D.slc J K z,D.slc O U M,D.slc W i V,D.slc Z a0 Y,D.slc a2 a3 a1,D.slc a5 a6 a4],D.str q,D.int .i64 h,D.bool false]) fun r=>bD .i64 r fun x=>bx (decide (x<0))
 (fU call L C n q J K z O U M W i V Z a0 Y a2 a3 a1 a5 a6 a4 (Ow.own 1 [D.int .i64 h]) (IntKind.wrap .i64 (h+1)))
 (bC (call 95 [D.agg [D.slc J K z,D.slc O U M,D.slc W i V,D.slc Z a0 Y,D.slc a2 a3 a1,D.slc a5 a6 a4],D.str q,D.int .i64 h,D.bool true]) fun a7=>bD .i64 a7 fun a8=>bx (decide (a8<0))
 (fU call L C n q J K z O U M W i V Z a0 Y a2 a3 a1 a5 a6 a4 (Ow.own 1 [D.int .i64 h]) (IntKind.wrap .i64 (h+1)))
 (fU call L C n q J K z O U M W i V Z a0 Y a2 a3 a1 a5 a6 a4 (Ow.nil) (IntKind.wrap .i64 (h+1)))))
 (some (D.slc true 0 []))):=by kernel_rfl
theorem ju(call:CL)(L:Nat)(C:Nat→Nat)(n:Nat)(r:ByteArray)(J:Bool)(K:Nat)(z:List D)(O:Bool)(U:Nat)(M:List D)(W:Bool)(q:Nat)(V:List D)(Z:Bool)(a0:Nat)(Y:List D)(a2:Bool)(a3:Nat)(a1:List D)(a5:Bool)(a6:Nat)(a4:List D)(i:Nat)(a7:List D)(h:Int):fU call L C (n+1) r J K z O U M W q V Z a0 Y a2 a3 a1 a5 a6 a4 (Ow.own i a7) h=
 (bx (decide (h≤(q:Int)))
 (bC (call 95 [D.agg [D.slc J K z,D.slc O U M,D.slc W q V,D.slc Z a0 Y,D.slc a2 a3 a1,D.slc a5 a6 a4],D.str r,D.int .i64 h,D.bool false]) fun a8=>bD .i64 a8 fun aa=>bx (decide (aa<0))
 (bW (decide ((i+1)*8≤cu∧i+1≤9223372036854775807))
 (fU call L C n r J K z O U M W q V Z a0 Y a2 a3 a1 a5 a6 a4 (Ow.own (i+1) (a7++[D.int .i64 h])) (IntKind.wrap .i64 (h+1))))
 (bC (call 95 [D.agg [D.slc J K z,D.slc O U M,D.slc W q V,D.slc Z a0 Y,D.slc a2 a3 a1,D.slc a5 a6 a4],D.str r,D.int .i64 h,D.bool true]) fun a9=>bD .i64 a9 fun ab=>bx (decide (ab<0))
 (bW (decide ((i+1)*8≤cu∧i+1≤9223372036854775807))
 (fU call L C n r J K z O U M W q V Z a0 Y a2 a3 a1 a5 a6 a4 (Ow.own (i+1) (a7++[D.int .i64 h])) (IntKind.wrap .i64 (h+1))))
 (fU call L C n r J K z O U M W q V Z a0 Y a2 a3 a1 a5 a6 a4 (Ow.own i a7) (IntKind.wrap .i64 (h+1)))))
 (some (D.slc false i a7))):=by kernel_rfl
theorem HD(call:CL)(L:Nat)(C:Nat→Nat)(q:Bool)(r:Nat)(i:List D)(J:Bool)(K:Nat)(z:List D)(O:Bool)(U:Nat)(M:List D)(W:Bool)(Y:Nat)(V:List D)(a0:Bool)(a1:Nat)(Z:List D)(a3:Bool)(a4:Nat)(a2:List D)(h:ByteArray):bX (cD call L C) O0 MM FinM.canon Tryz.f27 [D.agg [D.slc q r i,D.slc J K z,D.slc O U M,D.slc W Y V,D.slc a0 a1 Z,D.slc a3 a4 a2],D.str h]=
 (fU call L C L h q r i J K z O U M W Y V a0 a1 Z a3 a4 a2 (Ow.nil) 1):=by kernel_rfl
def MN:bN:=fun p=>match p with
 |58=>nm [1,2,5,6] [] [2,48]
 |_=>none
noncomputable def fe(call:CL)(L:Nat)(C:Nat→Nat)(n:Nat)(q:ByteArray)(z:Bool)(K:Nat)(r:List D)(O:Bool)(U:Nat)(M:List D)(W:Bool)(Y:Nat)(V:List D)(a1:Bool)(a2:Nat)(a0:List D)(a4:Bool)(a5:Nat)(a3:List D)(a7:Bool)(a8:Nat)(a6:List D)(h:Ow)(i:Int):Option D:=
 cp (cD call L C) O0 MN FinM.canon Tryz.f28 (bt 5 11) [] n (St.mk (J::D.str q::D.loc 2 0 0::J::J::j7 48 h::D.int .i64 i::jn 43 []) (Z::Z::(1,some (Ob.box [D.slc z K r,D.slc O U M,D.slc W Y V,D.slc a1 a2 a0,D.slc a4 a5 a3,D.slc a7 a8 a6] false))::zn 45 [j8 3 1 h,Z]))
theorem jv(call:CL)(L:Nat)(C:Nat→Nat)(n:Nat)(J:ByteArray)(M:Bool)(O:Nat)(K:List D)(V:Bool)(W:Nat)(U:List D)(Z:Bool)(z:Nat)(Y:List D)(a0:Bool)(q:Nat)(h:List D)(a2:Bool)(a3:Nat)(a1:List D)(a5:Bool)(a6:Nat)(a4:List D)(i:Int):fe call L C (n+1) J M O K V W U Z z Y a0 q h a2 a3 a1 a5 a6 a4 (Ow.nil) i=
 (bx (decide (i≤(z:Int)))
 (bC (call 95 [D.agg [D.slc M O K,D.slc V W U,D.slc Z z Y,D.slc a0 q h,D.slc a2 a3 a1,D.slc a5 a6 a4],D.str J,D.int .i64 i,D.bool false]) fun r=>bD .i64 r fun x=>bC (call 95 [D.agg [D.slc M O K,D.slc V W U,D.slc Z z Y,D.slc a0 q h,D.slc a2 a3 a1,D.slc a5 a6 a4],D.str J,D.int .i64 i,D.bool true]) fun ab=>bD .i64 ab fun a7=>bx (decide (x≥0))
 (bx (decide (a7≥0))
 (bW (decide (0≤x∧x<(q:Int)))
 (bn h (Int.toNat x*5+3+0) fun d=>bD .i64 d fun ad=>bn h (Int.toNat x*5+3+1) fun a8=>bP a8 fun s=>bW (decide (0≤a7∧a7<(q:Int)))
 (bn h (Int.toNat a7*5+3+0) fun a9=>bD .i64 a9 fun ae=>bn h (Int.toNat a7*5+3+1) fun aa=>bP aa fun ac=>bx (!(ad==ae&&(ByteArray.toList s==ByteArray.toList ac&&true)))
 (fe call L C n J M O K V W U Z z Y a0 q h a2 a3 a1 a5 a6 a4 (Ow.own 1 [D.int .i64 i]) (IntKind.wrap .i64 (i+1)))
 (fe call L C n J M O K V W U Z z Y a0 q h a2 a3 a1 a5 a6 a4 (Ow.nil) (IntKind.wrap .i64 (i+1))))))
 (fe call L C n J M O K V W U Z z Y a0 q h a2 a3 a1 a5 a6 a4 (Ow.nil) (IntKind.wrap .i64 (i+1))))
 (fe call L C n J M O K V W U Z z Y a0 q h a2 a3 a1 a5 a6 a4 (Ow.nil) (IntKind.wrap .i64 (i+1))))
 (some (D.slc true 0 []))):=by kernel_rfl
theorem jw(call:CL)(L:Nat)(C:Nat→Nat)(n:Nat)(J:ByteArray)(M:Bool)(O:Nat)(K:List D)(V:Bool)(W:Nat)(U:List D)(Z:Bool)(z:Nat)(Y:List D)(a0:Bool)(q:Nat)(h:List D)(a2:Bool)(a3:Nat)(a1:List D)(a5:Bool)(a6:Nat)(a4:List D)(r:Nat)(a7:List D)(i:Int):fe call L C (n+1) J M O K V W U Z z Y a0 q h a2 a3 a1 a5 a6 a4 (Ow.own r a7) i=
 (bx (decide (i≤(z:Int)))
 (bC (call 95 [D.agg [D.slc M O K,D.slc V W U,D.slc Z z Y,D.slc a0 q h,D.slc a2 a3 a1,D.slc a5 a6 a4],D.str J,D.int .i64 i,D.bool false]) fun ae=>bD .i64 ae fun a8=>bC (call 95 [D.agg [D.slc M O K,D.slc V W U,D.slc Z z Y,D.slc a0 q h,D.slc a2 a3 a1,D.slc a5 a6 a4],D.str J,D.int .i64 i,D.bool true]) fun af=>bD .i64 af fun a9=>bx (decide (a8≥0))
 (bx (decide (a9≥0))
 (bW (decide (0≤a8∧a8<(q:Int)))
 (bn h (Int.toNat a8*5+3+0) fun aa=>bD .i64 aa fun ai=>bn h (Int.toNat a8*5+3+1) fun ab=>bP ab fun ag=>bW (decide (0≤a9∧a9<(q:Int)))
 (bn h (Int.toNat a9*5+3+0) fun ac=>bD .i64 ac fun aj=>bn h (Int.toNat a9*5+3+1) fun ad=>bP ad fun ah=>bx (!(ai==aj&&(ByteArray.toList ag==ByteArray.toList ah&&true)))
 (bW (decide ((r+1)*8≤cu∧r+1≤9223372036854775807))
 (fe call L C n J M O K V W U Z z Y a0 q h a2 a3 a1 a5 a6 a4 (Ow.own (r+1) (a7++[D.int .i64 i])) (IntKind.wrap .i64 (i+1))))
 (fe call L C n J M O K V W U Z z Y a0 q h a2 a3 a1 a5 a6 a4 (Ow.own r a7) (IntKind.wrap .i64 (i+1))))))
 (fe call L C n J M O K V W U Z z Y a0 q h a2 a3 a1 a5 a6 a4 (Ow.own r a7) (IntKind.wrap .i64 (i+1))))
 (fe call L C n J M O K V W U Z z Y a0 q h a2 a3 a1 a5 a6 a4 (Ow.own r a7) (IntKind.wrap .i64 (i+1))))
 (some (D.slc false r a7))):=by kernel_rfl
theorem HE(call:CL)(L:Nat)(C:Nat→Nat)(q:Bool)(r:Nat)(i:List D)(J:Bool)(K:Nat)(z:List D)(O:Bool)(U:Nat)(M:List D)(W:Bool)(Y:Nat)(V:List D)(a0:Bool)(a1:Nat)(Z:List D)(a3:Bool)(a4:Nat)(a2:List D)(h:ByteArray):bX (cD call L C) O0 MN FinM.canon Tryz.f28 [D.agg [D.slc q r i,D.slc J K z,D.slc O U M,D.slc W Y V,D.slc a0 a1 Z,D.slc a3 a4 a2],D.str h]=
 (fe call L C L h q r i J K z O U M W Y V a0 a1 Z a3 a4 a2 (Ow.nil) 1):=by kernel_rfl
theorem HF(call:CL)(L:Nat)(C:Nat→Nat)(z:Bool)(J:Nat)(q:List D)(M:Bool)(O:Nat)(K:List D)(V:Bool)(h:Nat)(U:List D)(Y:Bool)(Z:Nat)(W:List D)(a1:Bool)(a2:Nat)(a0:List D)(a4:Bool)(a5:Nat)(a3:List D)(i:ByteArray):bX (cD call L C) O0 N0 FinM.canon Tryz.f29 [D.agg [D.slc z J q,D.slc M O K,D.slc V h U,D.slc Y Z W,D.slc a1 a2 a0,D.slc a4 a5 a3],D.str i]=
 (bx ((h:Int)==0)
 (some (D.int .i64 12))
 (bC (call 27 [D.agg [D.slc z J q,D.slc M O K,D.slc V h U,D.slc Y Z W,D.slc a1 a2 a0,D.slc a4 a5 a3],D.str i]) fun r=>c9 r fun _f n _c=>bx (decide ((n:Int)>0))
 (some (D.int .i64 7))
 (bC (call 28 [D.agg [D.slc z J q,D.slc M O K,D.slc V h U,D.slc Y Z W,D.slc a1 a2 a0,D.slc a4 a5 a3],D.str i]) fun a7=>c9 a7 fun _f_1 a6 _c_1=>bx (decide ((a6:Int)>0))
 (some (D.int .i64 29))
 (some (D.int .i64 0))))):=by kernel_rfl
theorem HG(call:CL)(L:Nat)(C:Nat→Nat)(q:Bool)(z:Nat)(i:List D)(K:Bool)(M:Nat)(J:List D)(U:Bool)(V:Nat)(O:List D)(Y:Bool)(Z:Nat)(W:List D)(a1:Bool)(a2:Nat)(a0:List D)(a4:Bool)(a5:Nat)(a3:List D)(h:ByteArray):bX (cD call L C) O0 N0 FinM.canon Tryz.f18 [D.agg [D.slc q z i,D.slc K M J,D.slc U V O,D.slc Y Z W,D.slc a1 a2 a0,D.slc a4 a5 a3],D.str h]=
 (bC (call 90 [D.agg [D.slc q z i,D.slc K M J,D.slc U V O,D.slc Y Z W,D.slc a1 a2 a0,D.slc a4 a5 a3],D.str h]) fun r=>bD .i64 r fun x=>bx (x !=0)
 (some (D.tup [D.agg [D.str (ByteArray.mk #[]),D.slc true 0 []],D.int .i64 x]))
 (bC (call 91 [D.agg [D.slc q z i,D.slc K M J,D.slc U V O,D.slc Y Z W,D.slc a1 a2 a0,D.slc a4 a5 a3],D.str h]) fun a8=>gW a8 2 fun c=>bn c 0 fun d=>bP d fun s=>bn c 1 fun a7=>c9 a7 fun f n a6=>some (D.tup [D.agg [D.str s,D.slc f n a6],D.int .i64 0]))):=by kernel_rfl
theorem HH(call:CL)(L:Nat)(C:Nat→Nat)(q:Bool)(z:Nat)(i:List D)(K:Bool)(M:Nat)(J:List D)(U:Bool)(V:Nat)(O:List D)(Y:Bool)(Z:Nat)(W:List D)(a1:Bool)(a2:Nat)(a0:List D)(a4:Bool)(a5:Nat)(a3:List D)(h:ByteArray):bX (cD call L C) O0 N0 FinM.canon Tryz.f19 [D.agg [D.slc q z i,D.slc K M J,D.slc U V O,D.slc Y Z W,D.slc a1 a2 a0,D.slc a4 a5 a3],D.str h]=
 (bC (call 90 [D.agg [D.slc q z i,D.slc K M J,D.slc U V O,D.slc Y Z W,D.slc a1 a2 a0,D.slc a4 a5 a3],D.str h]) fun r=>bD .i64 r fun x=>bx (x !=0)
 (some (D.tup [D.slc true 0 [],D.int .i64 x]))
 (bC (call 92 [D.agg [D.slc q z i,D.slc K M J,D.slc U V O,D.slc Y Z W,D.slc a1 a2 a0,D.slc a4 a5 a3],D.str h]) fun a6=>c9 a6 fun f n c=>some (D.tup [D.slc f n c,D.int .i64 0]))):=by kernel_rfl
theorem HI(call:CL)(L:Nat)(C:Nat→Nat)(q:Bool)(z:Nat)(i:List D)(K:Bool)(M:Nat)(J:List D)(U:Bool)(V:Nat)(O:List D)(Y:Bool)(Z:Nat)(W:List D)(a1:Bool)(a2:Nat)(a0:List D)(a4:Bool)(a5:Nat)(a3:List D)(h:ByteArray):bX (cD call L C) O0 N0 FinM.canon Tryz.f20 [D.agg [D.slc q z i,D.slc K M J,D.slc U V O,D.slc Y Z W,D.slc a1 a2 a0,D.slc a4 a5 a3],D.str h]=
 (bC (call 90 [D.agg [D.slc q z i,D.slc K M J,D.slc U V O,D.slc Y Z W,D.slc a1 a2 a0,D.slc a4 a5 a3],D.str h]) fun r=>bD .i64 r fun x=>bx (x !=0)
 (some (D.tup [D.slc true 0 [],D.int .i64 x]))
 (bC (call 93 [D.agg [D.slc q z i,D.slc K M J,D.slc U V O,D.slc Y Z W,D.slc a1 a2 a0,D.slc a4 a5 a3],D.str h]) fun a6=>c9 a6 fun f n c=>some (D.tup [D.slc f n c,D.int .i64 0]))):=by kernel_rfl
theorem HJ(call:CL)(L:Nat)(C:Nat→Nat)(q:Bool)(z:Nat)(i:List D)(K:Bool)(M:Nat)(J:List D)(U:Bool)(V:Nat)(O:List D)(Y:Bool)(Z:Nat)(W:List D)(a1:Bool)(a2:Nat)(a0:List D)(a4:Bool)(a5:Nat)(a3:List D)(h:ByteArray):bX (cD call L C) O0 N0 FinM.canon Tryz.f21 [D.agg [D.slc q z i,D.slc K M J,D.slc U V O,D.slc Y Z W,D.slc a1 a2 a0,D.slc a4 a5 a3],D.str h]=
 (bC (call 90 [D.agg [D.slc q z i,D.slc K M J,D.slc U V O,D.slc Y Z W,D.slc a1 a2 a0,D.slc a4 a5 a3],D.str h]) fun r=>bD .i64 r fun x=>bx (x !=0)
 (some (D.int .i64 x))
 (bC (call 94 [D.agg [D.slc q z i,D.slc K M J,D.slc U V O,D.slc Y Z W,D.slc a1 a2 a0,D.slc a4 a5 a3],D.str h]) fun a6=>bD .i64 a6 fun a7=>some (D.int .i64 a7))):=by kernel_rfl
def MO:bN:=fun p=>match p with
 |7=>nm [1,3] [] [1]
 |_=>none
noncomputable def oz(call:CL)(L:Nat)(C:Nat→Nat)(q:Bool)(r:Nat)(i:List D)(K:Bool)(M:Nat)(z:List D)(U:Bool)(V:Nat)(O:List D)(Y:Bool)(a0:Nat)(W:List D)(a2:Bool)(a3:Nat)(a1:List D)(a5:Bool)(a6:Nat)(a4:List D)(h:Bool):Option D:=
 eO (cD call L C) O0 MO FinM.canon Tryz.f17 [true,true] [] (C 7) (St.mk (J::D.loc 1 0 0::J::D.bool h::jn 41 []) (Z::(1,some (Ob.box [D.slc q r i,D.slc K M z,D.slc U V O,D.slc Y a0 W,D.slc a2 a3 a1,D.slc a5 a6 a4] false))::zn 43 []))
theorem Cq(call:CL)(L:Nat)(C:Nat→Nat)(i:Bool)(q:Nat)(h:List D)(J:Bool)(K:Nat)(z:List D)(O:Bool)(U:Nat)(M:List D)(W:Bool)(Y:Nat)(V:List D)(a0:Bool)(a1:Nat)(Z:List D)(a3:Bool)(a4:Nat)(a2:List D)(a5:Bool)(hC:∀t,C t=1):oz call L C i q h J K z O U M W Y V a0 a1 Z a3 a4 a2 a5=
 (bx a5
 (some (D.int .i64 5))
 (bC (call 86 [D.agg [D.slc i q h,D.slc J K z,D.slc O U M,D.slc W Y V,D.slc a0 a1 Z,D.slc a3 a4 a2]]) fun r=>bD .i64 r fun x=>bx (x !=0)
 (some (D.int .i64 x))
 (bC (call 88 [D.agg [D.slc i q h,D.slc J K z,D.slc O U M,D.slc W Y V,D.slc a0 a1 Z,D.slc a3 a4 a2]]) fun a6=>bD .i64 a6 fun a9=>bC (call 89 [D.agg [D.slc i q h,D.slc J K z,D.slc O U M,D.slc W Y V,D.slc a0 a1 Z,D.slc a3 a4 a2]]) fun a7=>bD .i64 a7 fun aa=>bC (call 87 [D.slc true 2 [D.int .i64 a9,D.int .i64 aa]]) fun a8=>bD .i64 a8 fun ab=>some (D.int .i64 ab)))):=by
 unfold oz;rw[hC]
 kernel_rfl
theorem HL(call:CL)(L:Nat)(C:Nat→Nat)(K:Bool)(h:Nat)(J:List D)(O:Bool)(i:Nat)(M:List D)(V:Bool)(W:Nat)(U:List D)(Z:Bool)(q:Nat)(Y:List D)(a1:Bool)(r:Nat)(a0:List D)(a3:Bool)(z:Nat)(a2:List D):bX (cD call L C) O0 MO FinM.canon Tryz.f17 [D.agg [D.slc K h J,D.slc O i M,D.slc V W U,D.slc Z q Y,D.slc a1 r a0,D.slc a3 z a2]]=
 (bx (decide ((h:Int)>256))
 (oz call L C K h J O i M V W U Z q Y a1 r a0 a3 z a2 true)
 (bx (decide ((i:Int)>200))
 (oz call L C K h J O i M V W U Z q Y a1 r a0 a3 z a2 true)
 (bx (decide ((q:Int)>1000))
 (oz call L C K h J O i M V W U Z q Y a1 r a0 a3 z a2 true)
 (bx (decide ((r:Int)>200))
 (oz call L C K h J O i M V W U Z q Y a1 r a0 a3 z a2 true)
 (oz call L C K h J O i M V W U Z q Y a1 r a0 a3 z a2 (decide ((z:Int)>256))))))):=by kernel_rfl
def LU:bN:=fun p=>match p with
 |58=>nm [1,3,13,14,15] [9,35] [1,9,11,35]
 |250=>nm [1,3,7,37,38,39] [9] [1,9,11,35]
 |_=>none
noncomputable def jx(call:CL)(L:Nat)(C:Nat→Nat)(r:Nat)(i:Bool)(q:Nat)(h:List D)(Y:Bool)(a0:Nat)(W:List D)(a2:Bool)(a3:Nat)(a1:List D)(a5:Bool)(a6:Nat)(a4:List D)(a8:Bool)(a9:Nat)(a7:List D)(ab:Bool)(ac:Nat)(aa z K:List D)(U V:Int)(M O:List D):Option D:=
 cp (cD call L C) O0 LU FinM.canon Tryz.f86 (bt 7 47) [] r (St.mk (J::D.loc 1 0 0::J::D.mloc 11 0::J::J::J::D.mloc 35 0::jn 29 (D.slc i q h::D.int .i64 U::D.int .i64 V::jn 39 [])) (Z::(1,some (Ob.box [D.slc Y a0 W,D.slc i q h,D.slc a2 a3 a1,D.slc a5 a6 a4,D.slc a8 a9 a7,D.slc ab ac aa] false))::zn 9 ((1,some (Ob.map z K false))::zn 23 ((1,some (Ob.map M O false))::zn 43 []))))
noncomputable def qK(call:CL)(L:Nat)(C:Nat→Nat)(n:Nat)(i:Bool)(q:Nat)(h:List D)(O:Bool)(U:Nat)(M:List D)(W:Bool)(Y:Nat)(V:List D)(a1:Bool)(a2:Nat)(a0:List D)(a4:Bool)(a5:Nat)(a3:List D)(a7:Bool)(a8:Nat)(a6:List D)(t14 K:Int)(r z:List D):Option D:=
 cp (cD call L C) O0 LU FinM.canon Tryz.f86 (bt 5 11) [] n (St.mk (J::D.loc 1 0 0::J::D.mloc 11 0::jn 9 (D.slc i q h::D.int .i64 t14::D.int .i64 K::jn 63 [])) (Z::(1,some (Ob.box [D.slc i q h,D.slc O U M,D.slc W Y V,D.slc a1 a2 a0,D.slc a4 a5 a3,D.slc a7 a8 a6] false))::zn 9 ((1,some (Ob.map r z false))::zn 67 [])))
theorem qL(call:CL)(L:Nat)(C:Nat→Nat)(Y:Nat)(a2:Bool)(U:Nat)(i:List D)(a0:Bool)(a1:Nat)(Z:List D)(W:Bool)(z:Nat)(V:List D)(a4:Bool)(a5:Nat)(a3:List D)(a7:Bool)(a8:Nat)(a6:List D)(aa:Bool)(ab:Nat)(a9 q r:List D)(O h:Int)(K M:List D):jx call L C (Y+1) a2 U i a0 a1 Z W z V a4 a5 a3 a7 a8 a6 aa ab a9 q r O h K M=
 (bx (decide (h<O))
 (bW (decide (0≤h∧h<(U:Int)))
 (bn i (Int.toNat h*3+0) fun av=>bP av fun J=>bn i (Int.toNat h*3+1) fun aw=>bP aw fun ae=>bn i (Int.toNat h*3+2) fun ax=>bD .i64 ax fun ac=>bC (call 111 [D.str J]) fun aZ=>bU aZ fun al=>bC (call 119 [D.bool !al,D.int .i64 8]) fun b6=>bD .i64 b6 fun ad=>
 (f9 (cF (D.str J) K 0)
 (bC (call 119 [D.bool false,D.int .i64 9]) fun b7=>bD .i64 b7 fun ak=>
 (f9 (cF (D.str ae) q 0)
 (bC (call 119 [D.bool true,D.int .i64 10]) fun b8=>bD .i64 b8 fun bk=>bC (call 118 [D.int .i64 ac,D.int .i64 (-99),D.int .i64 99]) fun aI=>bU aI fun am=>bC (call 119 [D.bool am,D.int .i64 3]) fun aJ=>bD .i64 aJ fun bl=>bC (call 87 [D.slc true 4 [D.int .i64 ad,D.int .i64 ak,D.int .i64 bk,D.int .i64 bl]]) fun aK=>bD .i64 aK fun af=>bx (af !=0)
 (some (D.int .i64 af))
 (kQ (ji (D.str J) (D.bool true) K M) fun aE b9=>jx call L C Y a2 U i a0 a1 Z W z V a4 a5 a3 a7 a8 a6 aa ab a9 q r O (IntKind.wrap .i64 (h+1)) aE b9)) fun aB=>bn r aB fun ay=>bU ay fun an=>bC (call 119 [D.bool !an,D.int .i64 10]) fun aL=>bD .i64 aL fun bd=>bC (call 118 [D.int .i64 ac,D.int .i64 (-99),D.int .i64 99]) fun aM=>bU aM fun ao=>bC (call 119 [D.bool ao,D.int .i64 3]) fun aN=>bD .i64 aN fun be=>bC (call 87 [D.slc true 4 [D.int .i64 ad,D.int .i64 ak,D.int .i64 bd,D.int .i64 be]]) fun aO=>bD .i64 aO fun ag=>bx (ag !=0)
 (some (D.int .i64 ag))
 (kQ (ji (D.str J) (D.bool true) K M) fun aF ba=>jx call L C Y a2 U i a0 a1 Z W z V a4 a5 a3 a7 a8 a6 aa ab a9 q r O (IntKind.wrap .i64 (h+1)) aF ba))) fun aC=>bn M aC fun az=>bU az fun ap=>bC (call 119 [D.bool ap,D.int .i64 9]) fun aP=>bD .i64 aP fun ah=>
 (f9 (cF (D.str ae) q 0)
 (bC (call 119 [D.bool true,D.int .i64 10]) fun aQ=>bD .i64 aQ fun bf=>bC (call 118 [D.int .i64 ac,D.int .i64 (-99),D.int .i64 99]) fun aR=>bU aR fun aq=>bC (call 119 [D.bool aq,D.int .i64 3]) fun aS=>bD .i64 aS fun bg=>bC (call 87 [D.slc true 4 [D.int .i64 ad,D.int .i64 ah,D.int .i64 bf,D.int .i64 bg]]) fun aT=>bD .i64 aT fun ai=>bx (ai !=0)
 (some (D.int .i64 ai))
 (kQ (ji (D.str J) (D.bool true) K M) fun aG bb=>jx call L C Y a2 U i a0 a1 Z W z V a4 a5 a3 a7 a8 a6 aa ab a9 q r O (IntKind.wrap .i64 (h+1)) aG bb)) fun aD=>bn r aD fun aA=>bU aA fun ar=>bC (call 119 [D.bool !ar,D.int .i64 10]) fun aU=>bD .i64 aU fun bh=>bC (call 118 [D.int .i64 ac,D.int .i64 (-99),D.int .i64 99]) fun aV=>bU aV fun au=>bC (call 119 [D.bool au,D.int .i64 3]) fun aW=>bD .i64 aW fun bi=>bC (call 87 [D.slc true 4 [D.int .i64 ad,D.int .i64 ah,D.int .i64 bh,D.int .i64 bi]]) fun aX=>bD .i64 aX fun aj=>bx (aj !=0)
 (some (D.int .i64 aj))
 (kQ (ji (D.str J) (D.bool true) K M) fun aH bc=>jx call L C Y a2 U i a0 a1 Z W z V a4 a5 a3 a7 a8 a6 aa ab a9 q r O (IntKind.wrap .i64 (h+1)) aH bc)))))
 (bx ((z:Int)==0)
 (some (D.int .i64 0))
 (bC (call 109 [D.slc W z V]) fun aY=>bD .i64 aY fun bj=>some (D.int .i64 bj)))):=by kernel_rfl
theorem sV(call:CL)(L:Nat)(C:Nat→Nat)(n:Nat)(O:Bool)(K:Nat)(J:List D)(V:Bool)(M:Nat)(U:List D)(Y:Bool)(Z:Nat)(W:List D)(a1:Bool)(a2:Nat)(a0:List D)(a4:Bool)(a5:Nat)(a3:List D)(a7:Bool)(a8:Nat)(a6:List D)(t14 h:Int)(q z:List D):qK call L C (n+1) O K J V M U Y Z W a1 a2 a0 a4 a5 a3 a7 a8 a6 t14 h q z=
 (bx (decide (h<t14))
 (bW (decide (0≤h∧h<(K:Int)))
 (bn J (Int.toNat h*1) fun d=>bP d fun s=>bC (call 111 [D.str s]) fun r=>bU r fun b=>bC (call 119 [D.bool !b,D.int .i64 8]) fun ae=>bD .i64 ae fun x=>
 (f9 (cF (D.str s) q 0)
 (bC (call 119 [D.bool false,D.int .i64 9]) fun af=>bD .i64 af fun ak=>bC (call 87 [D.slc true 2 [D.int .i64 x,D.int .i64 ak]]) fun ag=>bD .i64 ag fun a9=>bx (a9 !=0)
 (some (D.int .i64 a9))
 (kQ (ji (D.str s) (D.bool true) q z) fun ks vs=>qK call L C n O K J V M U Y Z W a1 a2 a0 a4 a5 a3 a7 a8 a6 t14 (IntKind.wrap .i64 (h+1)) ks vs)) fun i=>bn z i fun ac=>bU ac fun ab=>bC (call 119 [D.bool ab,D.int .i64 9]) fun ah=>bD .i64 ah fun al=>bC (call 87 [D.slc true 2 [D.int .i64 x,D.int .i64 al]]) fun ai=>bD .i64 ai fun aa=>bx (aa !=0)
 (some (D.int .i64 aa))
 (kQ (ji (D.str s) (D.bool true) q z) fun ad aj=>qK call L C n O K J V M U Y Z W a1 a2 a0 a4 a5 a3 a7 a8 a6 t14 (IntKind.wrap .i64 (h+1)) ad aj))))
 (jx call L C L V M U O K J Y Z W a1 a2 a0 a4 a5 a3 a7 a8 a6 q z ((M:Int)) 0 ([]) ([]))):=by kernel_rfl
theorem HM(call:CL)(L:Nat)(C:Nat→Nat)(q:Bool)(h:Nat)(i:List D)(z:Bool)(J:Nat)(r:List D)(M:Bool)(O:Nat)(K:List D)(V:Bool)(W:Nat)(U:List D)(Z:Bool)(a0:Nat)(Y:List D)(a2:Bool)(a3:Nat)(a1:List D):bX (cD call L C) O0 LU FinM.canon Tryz.f86 [D.agg [D.slc q h i,D.slc z J r,D.slc M O K,D.slc V W U,D.slc Z a0 Y,D.slc a2 a3 a1]]=
 (qK call L C L q h i z J r M O K V W U Z a0 Y a2 a3 a1 ((h:Int)) 0 ([]) ([])):=by kernel_rfl
def KF:bN:=fun p=>match p with
 |58=>nm [1,3,14,15,16] [5,6] [1,5,6,12]
 |122=>nm [1,65,66,67] [5,6,12] [1,5,6,12]
 |14951=>nm [1,3,5,6,7,14,15,16] [] [1,5,6,12]
 |_=>none
def KG:iB:=fun id=>match id with
 |5=>some {l:=some [0,1,2,3,4,5,6,7,8],ks:=[6]}
 |_=>none
noncomputable def gH(call:CL)(L:Nat)(C:Nat→Nat)(n:Nat)(i:Bool)(q:Nat)(h:List D)(K M:Int)(a5:Bool)(a6:Nat)(a4:List D)(a8:Bool)(a9:Nat)(a7:List D)(ab:Bool)(ac:Nat)(aa:List D)(ae:Bool)(af:Nat)(ad:List D)(ah:Bool)(ai:Nat)(ag r z:List D)(a3:Bool)(W Y:ByteArray)(a0 a1:Int)(a2 O:ByteArray)(U:Int)(V:Bool):Option D:=
 eO (cD call L C) KG KF FinM.canon Tryz.f88 (bt 13 7371) [n] (C 14951) (St.mk (J::D.loc 1 0 0::J::D.mloc 12 0::J::D.loc 5 0 0::D.loc 6 0 0::D.bool a3::jn 6 (D.slc i q h::D.int .i64 K::D.int .i64 M::jn 76 [])) (Z::(1,some (Ob.box [D.slc a5 a6 a4,D.slc a8 a9 a7,D.slc ab ac aa,D.slc i q h,D.slc ae af ad,D.slc ah ai ag] false))::Z::Z::Z::(1,some (Ob.box [D.str W,D.str Y,D.int .i64 a0,D.int .i64 a1,D.str a2] false))::(1,some (Ob.box [D.str O,D.int .i64 U,D.bool V] false))::zn 5 ((1,some (Ob.map r z false))::zn 80 [])))
noncomputable def mS(call:CL)(L:Nat)(C:Nat→Nat)(r:Nat)(i:Bool)(q:Nat)(h:List D)(O:Bool)(U:Nat)(M:List D)(W:Bool)(Y:Nat)(V:List D)(a1:Bool)(a2:Nat)(a0:List D)(a4:Bool)(a5:Nat)(a3:List D)(a7:Bool)(a8:Nat)(a6:List D)(z K:Int):Option D:=
 cp (cD call L C) KG KF FinM.canon Tryz.f88 (bt 6 23) [] r (St.mk (J::D.loc 1 0 0::jn 63 (D.slc i q h::D.int .i64 z::D.int .i64 K::jn 25 [])) (Z::(1,some (Ob.box [D.slc O U M,D.slc W Y V,D.slc a1 a2 a0,D.slc a4 a5 a3,D.slc i q h,D.slc a7 a8 a6] false))::zn 91 []))
noncomputable def qM(call:CL)(L:Nat)(C:Nat→Nat)(n:Nat)(i:Bool)(q:Nat)(h:List D)(U:Bool)(V:Nat)(O:List D)(Y:Bool)(a0:Nat)(W:List D)(a2:Bool)(a3:Nat)(a1:List D)(a5:Bool)(a6:Nat)(a4:List D)(a8:Bool)(a9:Nat)(a7:List D)(K M:Int)(r z:List D):Option D:=
 cp (cD call L C) KG KF FinM.canon Tryz.f88 (bt 5 11) [] n (St.mk (J::D.loc 1 0 0::J::D.mloc 12 0::jn 10 (D.slc i q h::D.int .i64 K::D.int .i64 M::jn 76 [])) (Z::(1,some (Ob.box [D.slc U V O,D.slc Y a0 W,D.slc a2 a3 a1,D.slc i q h,D.slc a5 a6 a4,D.slc a8 a9 a7] false))::zn 10 ((1,some (Ob.map r z false))::zn 80 [])))
theorem ug(call:CL)(L:Nat)(C:Nat→Nat)(n:Nat)(a4:Bool)(a5:Nat)(a3:List D)(K M:Int)(U:Bool)(V:Nat)(O:List D)(Y:Bool)(Z:Nat)(W:List D)(a1:Bool)(a2:Nat)(a0:List D)(a7:Bool)(a8:Nat)(a6:List D)(aa:Bool)(ab:Nat)(a9 h q:List D)(ae:Bool)(vm av:ByteArray)(aw ac:Int)(ad r:ByteArray)(z:Int)(J:Bool)(hC:∀t,C t=1):gH call L C n a4 a5 a3 K M U V O Y Z W a1 a2 a0 a7 a8 a6 aa ab a9 h q ae vm av aw ac ad r z J=
 (bC (call 119 [D.bool ae,D.int .i64 10]) fun am=>bD .i64 am fun af=>bC (call 147 [D.agg [D.int .i64 ac,D.str ad]]) fun an=>bD .i64 an fun ag=>
 (f9 (cF (D.agg [D.str r,D.int .i64 z,D.bool J]) h 0)
 (bC (call 119 [D.bool false,D.int .i64 9]) fun ao=>bD .i64 ao fun ay=>bC (call 87 [D.slc true 3 [D.int .i64 af,D.int .i64 ag,D.int .i64 ay]]) fun ap=>bD .i64 ap fun ah=>bx (ah !=0)
 (some (D.int .i64 ah))
 (kQ (ji (D.agg [D.str r,D.int .i64 z,D.bool J]) (D.bool true) h q) fun ks vs=>qM call L C n a4 a5 a3 U V O Y Z W a1 a2 a0 a7 a8 a6 aa ab a9 K (IntKind.wrap .i64 (M+1)) ks vs)) fun i=>bn q i fun ak=>bU ak fun aj=>bC (call 119 [D.bool aj,D.int .i64 9]) fun aq=>bD .i64 aq fun az=>bC (call 87 [D.slc true 3 [D.int .i64 af,D.int .i64 ag,D.int .i64 az]]) fun ar=>bD .i64 ar fun ai=>bx (ai !=0)
 (some (D.int .i64 ai))
 (kQ (ji (D.agg [D.str r,D.int .i64 z,D.bool J]) (D.bool true) h q) fun al ax=>qM call L C n a4 a5 a3 U V O Y Z W a1 a2 a0 a7 a8 a6 aa ab a9 K (IntKind.wrap .i64 (M+1)) al ax))):=by
 unfold gH;rw[hC]
 kernel_rfl
theorem qN(call:CL)(L:Nat)(C:Nat→Nat)(a7:Nat)(r:Bool)(i:Nat)(q:List D)(J:Bool)(K:Nat)(z:List D)(O:Bool)(U:Nat)(M:List D)(W:Bool)(Y:Nat)(V:List D)(a0:Bool)(a1:Nat)(Z:List D)(a3:Bool)(a4:Nat)(a2:List D)(a6 h:Int):mS call L C (a7+1) r i q J K z O U M W Y V a0 a1 Z a3 a4 a2 a6 h=
 (bx (decide (h<a6))
 (bW (decide (0≤h∧h<(i:Int)))
 (bn q (Int.toNat h*1) fun aa=>bP aa fun a5=>bC (call 154 [D.agg [D.slc J K z,D.slc O U M,D.slc W Y V,D.slc a0 a1 Z,D.slc r i q,D.slc a3 a4 a2],D.str a5]) fun ab=>bD .i64 ab fun ah=>bC (call 119 [D.bool (decide (ah<0)),D.int .i64 10]) fun ac=>bD .i64 ac fun ai=>bW (decide (0≤(0:Int)∧(0:Int)≤h∧h≤(i:Int)))
 (bC (call 155 [D.slc (r&&decide (h=(i:Int))) (Int.toNat (h-(0:Int))) (List.take (Int.toNat (h-(0:Int))*1) q),D.str a5]) fun ad=>bU ad fun a9=>bC (call 119 [D.bool a9,D.int .i64 9]) fun ae=>bD .i64 ae fun aj=>bC (call 94 [D.agg [D.slc J K z,D.slc O U M,D.slc W Y V,D.slc a0 a1 Z,D.slc r i q,D.slc a3 a4 a2],D.str a5]) fun af=>bD .i64 af fun ak=>bC (call 87 [D.slc true 3 [D.int .i64 ai,D.int .i64 aj,D.int .i64 ak]]) fun ag=>bD .i64 ag fun a8=>bx (a8 !=0)
 (some (D.int .i64 a8))
 (mS call L C a7 r i q J K z O U M W Y V a0 a1 Z a3 a4 a2 a6 (IntKind.wrap .i64 (h+1))))))
 (some (D.int .i64 0))):=by kernel_rfl
theorem sW(call:CL)(L:Nat)(C:Nat→Nat)(n:Nat)(a0:Bool)(z:Nat)(i:List D)(M:Bool)(O:Nat)(K:List D)(V:Bool)(W:Nat)(U:List D)(Z:Bool)(q:Nat)(Y:List D)(a2:Bool)(J:Nat)(a1:List D)(a4:Bool)(a5:Nat)(a3:List D)(a7 h:Int)(a9 aa:List D):qM call L C (n+1) a0 z i M O K V W U Z q Y a2 J a1 a4 a5 a3 a7 h a9 aa=
 (bx (decide (h<a7))
 (bW (decide (0≤h∧h<(z:Int)))
 (bn i (Int.toNat h*5+0) fun d=>bP d fun s=>bn i (Int.toNat h*5+1) fun ad=>bP ad fun a6=>bn i (Int.toNat h*5+2) fun ae=>bD .i64 ae fun x=>bn i (Int.toNat h*5+3) fun af=>bD .i64 af fun ab=>bn i (Int.toNat h*5+4) fun ag=>bP ag fun a8=>bC (call 153 [D.agg [D.str s,D.str a6,D.int .i64 x,D.int .i64 ab,D.str a8]]) fun r=>bU r fun b=>bC (call 154 [D.agg [D.slc M O K,D.slc V W U,D.slc Z q Y,D.slc a0 z i,D.slc a2 J a1,D.slc a4 a5 a3],D.str s]) fun ah=>bD .i64 ah fun ak=>bx (decide (ak<0))
 (gH call L C n a0 z i a7 h M O K V W U Z q Y a2 J a1 a4 a5 a3 a9 aa true s a6 x ab a8 s x b)
 (bC (call 154 [D.agg [D.slc M O K,D.slc V W U,D.slc Z q Y,D.slc a0 z i,D.slc a2 J a1,D.slc a4 a5 a3],D.str a6]) fun ai=>bD .i64 ai fun al=>bx (decide (al<0))
 (gH call L C n a0 z i a7 h M O K V W U Z q Y a2 J a1 a4 a5 a3 a9 aa true s a6 x ab a8 s x b)
 (bC (call 118 [D.int .i64 x,D.int .i64 1,D.int .i64 (q:Int)]) fun aj=>bU aj fun ac=>gH call L C n a0 z i a7 h M O K V W U Z q Y a2 J a1 a4 a5 a3 a9 aa ac s a6 x ab a8 s x b))))
 (mS call L C L a2 J a1 M O K V W U Z q Y a0 z i a4 a5 a3 ((J:Int)) 0)):=by kernel_rfl
theorem HN(call:CL)(L:Nat)(C:Nat→Nat)(q:Bool)(r:Nat)(i:List D)(J:Bool)(K:Nat)(z:List D)(O:Bool)(U:Nat)(M:List D)(W:Bool)(h:Nat)(V:List D)(Z:Bool)(a0:Nat)(Y:List D)(a2:Bool)(a3:Nat)(a1:List D):bX (cD call L C) KG KF FinM.canon Tryz.f88 [D.agg [D.slc q r i,D.slc J K z,D.slc O U M,D.slc W h V,D.slc Z a0 Y,D.slc a2 a3 a1]]=
 (qM call L C L W h V q r i J K z O U M Z a0 Y a2 a3 a1 ((h:Int)) 0 ([]) ([])):=by kernel_rfl
def KH:bN:=fun p=>match p with
 |58=>nm [3,12,13,14] [1,5,8] [1,5,8,10]
 |7475=>nm [3,5,12,13,14] [1,8] [1,5,8,10]
 |59806=>nm [3,5,12,13,14,45,46,47] [1,8] [1,5,8,10]
 |_=>none
noncomputable def kF(call:CL)(L:Nat)(C:Nat→Nat)(n r:Nat)(a1:Bool)(a2:Nat)(a0:List D)(t13 t14:Int)(i:Bool)(q:Nat)(h:List D)(U:ByteArray)(W:Bool)(Y:Nat)(V:List D)(M O:Int)(z K:List D):Option D:=
 cp (cD call L C) O0 KH FinM.canon Tryz.f89 (bt 15 15563) [n] r (St.mk (J::J::J::D.mloc 10 0::J::D.loc 5 0 0::jn 6 (D.slc a1 a2 a0::D.int .i64 t13::D.int .i64 t14::jn 30 (D.slc i q h::D.int .i64 M::D.int .i64 O::jn 12 []))) (zn 5 ((1,some (Ob.box [D.str U,D.slc W Y V,D.slc i q h] false))::Z::Z::Z::Z::(1,some (Ob.map z K false))::zn 49 [])))
noncomputable def mT(call:CL)(L:Nat)(C:Nat→Nat)(n:Nat)(W:Bool)(Y:Nat)(V:List D)(t13 t14:Int)(h i:List D)(q:ByteArray)(z:Bool)(K:Nat)(r:List D)(O:Bool)(U:Nat)(M:List D):Option D:=
 eO (cD call L C) O0 KH FinM.canon Tryz.f89 (bt 12 3275) [n] (C 7475) (St.mk (J::J::J::D.mloc 10 0::J::D.loc 5 0 0::jn 6 (D.slc W Y V::D.int .i64 t13::D.int .i64 t14::jn 45 [])) (zn 5 ((1,some (Ob.box [D.str q,D.slc z K r,D.slc O U M] false))::Z::Z::Z::Z::(1,some (Ob.map h i false))::zn 49 [])))
noncomputable def qO(call:CL)(L:Nat)(C:Nat→Nat)(n:Nat)(r:Bool)(z:Nat)(q:List D)(t13 t14:Int)(h i:List D):Option D:=
 cp (cD call L C) O0 KH FinM.canon Tryz.f89 (bt 5 11) [] n (St.mk (J::J::J::D.mloc 10 0::jn 8 (D.slc r z q::D.int .i64 t13::D.int .i64 t14::jn 45 [])) (zn 10 ((1,some (Ob.map h i false))::zn 49 [])))
theorem mU(call:CL)(L:Nat)(C:Nat→Nat)(n Y:Nat)(V:Bool)(W:Nat)(U:List D)(t13 t14:Int)(a0:Bool)(O:Nat)(i:List D)(Z:ByteArray)(K:Bool)(M:Nat)(J:List D)(z h:Int)(q r:List D):kF call L C n (Y+1) V W U t13 t14 a0 O i Z K M J z h q r=
 (bx (decide (h<z))
 (bW (decide (0≤h∧h<(O:Int)))
 (bn i (Int.toNat h*2+0) fun a3=>bP a3 fun a8=>bn i (Int.toNat h*2+1) fun a4=>c9 a4 fun a5 a6 a2=>bC (call 41 [D.slc K M J,D.agg [D.str a8,D.slc a5 a6 a2]]) fun a7=>bD .i64 a7 fun a1=>bx (a1 !=0)
 (some (D.int .i64 a1))
 (kF call L C n Y V W U t13 t14 a0 O i Z K M J z (IntKind.wrap .i64 (h+1)) q r)))
 (qO call L C n V W U t13 (IntKind.wrap .i64 (t14+1)) q r)):=by kernel_rfl
theorem wl(call:CL)(L:Nat)(C:Nat→Nat)(n:Nat)(V:Bool)(W:Nat)(U:List D)(t13 t14:Int)(q r:List D)(h:ByteArray)(J:Bool)(K:Nat)(z:List D)(O:Bool)(i:Nat)(M:List D)(hC:∀t,C t=1):mT call L C n V W U t13 t14 q r h J K z O i M=
 (kQ (ji (D.str h) (D.bool true) q r) fun ks vs=>kF call L C n L V W U t13 t14 O i M h J K z ((i:Int)) 0 ks vs):=by
 unfold mT;rw[hC]
 kernel_rfl
theorem sX(call:CL)(L:Nat)(C:Nat→Nat)(n:Nat)(O:Bool)(M:Nat)(h:List D)(t13 t14:Int)(J K:List D):qO call L C (n+1) O M h t13 t14 J K=
 (bx (decide (t14<t13))
 (bW (decide (0≤t14∧t14<(M:Int)))
 (bn h (Int.toNat t14*3+0) fun d=>bP d fun s=>bn h (Int.toNat t14*3+1) fun a0=>c9 a0 fun f q c=>bn h (Int.toNat t14*3+2) fun a1=>c9 a1 fun V z U=>bC (call 111 [D.str s]) fun r=>bU r fun b=>bC (call 119 [D.bool !b,D.int .i64 8]) fun a3=>bD .i64 a3 fun x=>
 (f9 (cF (D.str s) J 0)
 (bC (call 119 [D.bool false,D.int .i64 9]) fun a5=>bD .i64 a5 fun ac=>bC (call 109 [D.slc f q c]) fun a6=>bD .i64 a6 fun ad=>bC (call 119 [D.bool (decide ((z:Int)>200)),D.int .i64 5]) fun a7=>bD .i64 a7 fun ae=>bC (call 87 [D.slc true 4 [D.int .i64 x,D.int .i64 ac,D.int .i64 ad,D.int .i64 ae]]) fun a8=>bD .i64 a8 fun W=>bx (W !=0)
 (some (D.int .i64 W))
 (mT call L C n O M h t13 t14 J K s f q c V z U)) fun i=>bn K i fun a2=>bU a2 fun Z=>bC (call 119 [D.bool Z,D.int .i64 9]) fun a9=>bD .i64 a9 fun af=>bC (call 109 [D.slc f q c]) fun aa=>bD .i64 aa fun ag=>bC (call 119 [D.bool (decide ((z:Int)>200)),D.int .i64 5]) fun ab=>bD .i64 ab fun ah=>bC (call 87 [D.slc true 4 [D.int .i64 x,D.int .i64 af,D.int .i64 ag,D.int .i64 ah]]) fun a4=>bD .i64 a4 fun Y=>bx (Y !=0)
 (some (D.int .i64 Y))
 (mT call L C n O M h t13 t14 J K s f q c V z U))))
 (some (D.int .i64 0))):=by kernel_rfl
theorem HO(call:CL)(L:Nat)(C:Nat→Nat)(z:Bool)(J:Nat)(r:List D)(M:Bool)(O:Nat)(K:List D)(V:Bool)(W:Nat)(U:List D)(Z:Bool)(a0:Nat)(Y:List D)(a2:Bool)(a3:Nat)(a1:List D)(q:Bool)(h:Nat)(i:List D):bX (cD call L C) O0 KH FinM.canon Tryz.f89 [D.agg [D.slc z J r,D.slc M O K,D.slc V W U,D.slc Z a0 Y,D.slc a2 a3 a1,D.slc q h i]]=
 (qO call L C L q h i ((h:Int)) 0 ([]) ([])):=by kernel_rfl
def C5:bN:=fun p=>match p with
 |7=>nm [1] [] [1]
 |58=>nm [1,3] [] [1]
 |127=>nm [1,4] [] [1]
 |250=>nm [1,4,5] [] [1]
 |1018=>nm [1,4,6] [] [1]
 |2042=>nm [1,4,7] [] [1]
 |4090=>nm [1,4,8] [] [1]
 |8169=>nm [1,7] [] [1]
 |_=>none
noncomputable def qP(call:CL)(L:Nat)(C:Nat→Nat)(h:Nat)(i:Int)(r:Bool)(z:Nat)(q:List D)(M:Bool)(O:Nat)(K:List D)(V:Bool)(W:Nat)(U:List D)(a0:Bool)(a1:Nat)(Y:List D)(a3:Bool)(a4:Nat)(a2:List D)(a6:Bool)(a7:Nat)(a5:List D):Option D:=
 eO (cD call L C) O0 C5 FinM.canon Tryz.f16 (bt 12 2431) [h] (C 8169) (St.mk (J::D.loc 1 0 0::jn 5 (D.int .i64 i::jn 143 [])) (Z::(1,some (Ob.box [D.slc r z q,D.slc M O K,D.slc V W U,D.slc a0 a1 Y,D.slc a3 a4 a2,D.slc a6 a7 a5] false))::zn 149 []))
noncomputable def iO(call:CL)(L:Nat)(C:Nat→Nat)(h:Nat)(z:Bool)(K:Nat)(r:List D)(O:Bool)(U:Nat)(M:List D)(W:Bool)(Y:Nat)(V:List D)(a1:Bool)(a2:Nat)(a0:List D)(a4:Bool)(a5:Nat)(a3:List D)(a7:Bool)(a8:Nat)(a6:List D)(i q:Int):Option D:=
 cp (cD call L C) O0 C5 FinM.canon Tryz.f16 (bt 11 767) [] h (St.mk (J::D.loc 1 0 0::J::J::D.int .i64 i::J::J::J::D.int .i64 q::jn 142 []) (Z::(1,some (Ob.box [D.slc z K r,D.slc O U M,D.slc W Y V,D.slc a1 a2 a0,D.slc a4 a5 a3,D.slc a7 a8 a6] false))::zn 149 []))
noncomputable def fF(call:CL)(L:Nat)(C:Nat→Nat)(h:Nat)(z:Bool)(K:Nat)(r:List D)(O:Bool)(U:Nat)(M:List D)(W:Bool)(Y:Nat)(V:List D)(a1:Bool)(a2:Nat)(a0:List D)(a4:Bool)(a5:Nat)(a3:List D)(a7:Bool)(a8:Nat)(a6:List D)(i q:Int):Option D:=
 cp (cD call L C) O0 C5 FinM.canon Tryz.f16 (bt 10 383) [] h (St.mk (J::D.loc 1 0 0::J::J::D.int .i64 i::J::J::D.int .i64 q::jn 143 []) (Z::(1,some (Ob.box [D.slc z K r,D.slc O U M,D.slc W Y V,D.slc a1 a2 a0,D.slc a4 a5 a3,D.slc a7 a8 a6] false))::zn 149 []))
noncomputable def mV(call:CL)(L:Nat)(C:Nat→Nat)(h:Nat)(z:Bool)(K:Nat)(r:List D)(O:Bool)(U:Nat)(M:List D)(W:Bool)(Y:Nat)(V:List D)(a1:Bool)(a2:Nat)(a0:List D)(a4:Bool)(a5:Nat)(a3:List D)(a7:Bool)(a8:Nat)(a6:List D)(i q:Int):Option D:=
 cp (cD call L C) O0 C5 FinM.canon Tryz.f16 (bt 9 191) [] h (St.mk (J::D.loc 1 0 0::J::J::D.int .i64 i::J::D.int .i64 q::jn 144 []) (Z::(1,some (Ob.box [D.slc z K r,D.slc O U M,D.slc W Y V,D.slc a1 a2 a0,D.slc a4 a5 a3,D.slc a7 a8 a6] false))::zn 149 []))
noncomputable def fY(call:CL)(L:Nat)(C:Nat→Nat)(q:Bool)(r:Nat)(i:List D)(K:Bool)(M:Nat)(z:List D)(U:Bool)(V:Nat)(O:List D)(Y:Bool)(a0:Nat)(W:List D)(a2:Bool)(a3:Nat)(a1:List D)(a5:Bool)(a6:Nat)(a4:List D)(h:Int):Option D:=
 eO (cD call L C) O0 C5 FinM.canon Tryz.f16 (bt 6 63) [] (C 127) (St.mk (J::D.loc 1 0 0::J::J::D.int .i64 h::jn 146 []) (Z::(1,some (Ob.box [D.slc q r i,D.slc K M z,D.slc U V O,D.slc Y a0 W,D.slc a2 a3 a1,D.slc a5 a6 a4] false))::zn 149 []))
noncomputable def kG(call:CL)(L:Nat)(C:Nat→Nat)(h:Nat)(z:Bool)(K:Nat)(r:List D)(O:Bool)(U:Nat)(M:List D)(W:Bool)(Y:Nat)(V:List D)(a1:Bool)(a2:Nat)(a0:List D)(a4:Bool)(a5:Nat)(a3:List D)(a7:Bool)(a8:Nat)(a6:List D)(i q:Int):Option D:=
 cp (cD call L C) O0 C5 FinM.canon Tryz.f16 (bt 7 47) [] h (St.mk (J::D.loc 1 0 0::J::J::D.int .i64 i::D.int .i64 q::jn 145 []) (Z::(1,some (Ob.box [D.slc z K r,D.slc O U M,D.slc W Y V,D.slc a1 a2 a0,D.slc a4 a5 a3,D.slc a7 a8 a6] false))::zn 149 []))
noncomputable def uh(call:CL)(L:Nat)(C:Nat→Nat)(h:Nat)(r:Bool)(z:Nat)(q:List D)(M:Bool)(O:Nat)(K:List D)(V:Bool)(W:Nat)(U:List D)(a0:Bool)(a1:Nat)(Y:List D)(a3:Bool)(a4:Nat)(a2:List D)(a6:Bool)(a7:Nat)(a5:List D)(i:Int):Option D:=
 cp (cD call L C) O0 C5 FinM.canon Tryz.f16 (bt 5 11) [] h (St.mk (J::D.loc 1 0 0::J::D.int .i64 i::jn 147 []) (Z::(1,some (Ob.box [D.slc r z q,D.slc M O K,D.slc V W U,D.slc a0 a1 Y,D.slc a3 a4 a2,D.slc a6 a7 a5] false))::zn 149 []))
noncomputable def y5(call:CL)(L:Nat)(C:Nat→Nat)(i:Bool)(q:Nat)(h:List D)(z:Bool)(K:Nat)(r:List D)(O:Bool)(U:Nat)(M:List D)(W:Bool)(Y:Nat)(V:List D)(a1:Bool)(a2:Nat)(a0:List D)(a4:Bool)(a5:Nat)(a3:List D):Option D:=
 eO (cD call L C) O0 C5 FinM.canon Tryz.f16 [true,true] [] (C 7) (St.mk (J::D.loc 1 0 0::jn 149 []) (Z::(1,some (Ob.box [D.slc i q h,D.slc z K r,D.slc O U M,D.slc W Y V,D.slc a1 a2 a0,D.slc a4 a5 a3] false))::zn 149 []))
theorem wm(call:CL)(L:Nat)(C:Nat→Nat)(a5:Nat)(h:Int)(J:Bool)(K:Nat)(z:List D)(O:Bool)(U:Nat)(M:List D)(W:Bool)(Y:Nat)(V:List D)(a0:Bool)(a1:Nat)(Z:List D)(r:Bool)(i:Nat)(q:List D)(a3:Bool)(a4:Nat)(a2:List D)(hC:∀t,C t=1):qP call L C a5 h J K z O U M W Y V a0 a1 Z r i q a3 a4 a2=
 (bW (decide (0≤h∧h<(i:Int)))
 (bn q (Int.toNat h*1) fun a7=>bP a7 fun ad=>bC (call 23 [D.agg [D.slc J K z,D.slc O U M,D.slc W Y V,D.slc a0 a1 Z,D.slc r i q,D.slc a3 a4 a2],D.str ad]) fun aa=>bD .i64 aa fun ag=>bx (decide (ag<0))
 (fF call L C a5 J K z O U M W Y V a0 a1 Z r i q a3 a4 a2 10 (IntKind.wrap .i64 (h+1)))
 (bW (decide (0≤(0:Int)∧(0:Int)≤h∧h≤(i:Int)))
 (bW (decide (0≤h∧h<(i:Int)))
 (bn q (Int.toNat h*1) fun a8=>bP a8 fun ae=>bC (call 81 [D.slc (r&&decide (h=(i:Int))) (Int.toNat (h-(0:Int))) (List.take (Int.toNat (h-(0:Int))*1) q),D.str ae]) fun ab=>bU ab fun a6=>bx a6
 (fF call L C a5 J K z O U M W Y V a0 a1 Z r i q a3 a4 a2 9 (IntKind.wrap .i64 (h+1)))
 (bW (decide (0≤h∧h<(i:Int)))
 (bn q (Int.toNat h*1) fun a9=>bP a9 fun af=>bC (call 29 [D.agg [D.slc J K z,D.slc O U M,D.slc W Y V,D.slc a0 a1 Z,D.slc r i q,D.slc a3 a4 a2],D.str af]) fun ac=>bD .i64 ac fun ah=>fF call L C a5 J K z O U M W Y V a0 a1 Z r i q a3 a4 a2 ah (IntKind.wrap .i64 (h+1))))))))):=by
 unfold qP;rw[hC]
 kernel_rfl
theorem oA(call:CL)(L:Nat)(C:Nat→Nat)(a6:Nat)(z:Bool)(J:Nat)(r:List D)(M:Bool)(O:Nat)(K:List D)(V:Bool)(W:Nat)(U:List D)(Z:Bool)(a0:Nat)(Y:List D)(a2:Bool)(a3:Nat)(a1:List D)(a5:Bool)(q:Nat)(a4:List D)(h i:Int):iO call L C (a6+1) z J r M O K V W U Z a0 Y a2 a3 a1 a5 q a4 h i=
 (bx (decide (i<(q:Int)))
 (bx (h==0)
 (bC (call 85 [D.agg [D.slc z J r,D.slc M O K,D.slc V W U,D.slc Z a0 Y,D.slc a2 a3 a1,D.slc a5 q a4],D.int .i64 i]) fun a7=>bD .i64 a7 fun a8=>iO call L C a6 z J r M O K V W U Z a0 Y a2 a3 a1 a5 q a4 a8 (IntKind.wrap .i64 (i+1)))
 (some (D.int .i64 h)))
 (some (D.int .i64 h))):=by kernel_rfl
theorem oB(call:CL)(L:Nat)(C:Nat→Nat)(a6:Nat)(r:Bool)(z:Nat)(q:List D)(K:Bool)(M:Nat)(J:List D)(U:Bool)(V:Nat)(O:List D)(Y:Bool)(Z:Nat)(W:List D)(a1:Bool)(h:Nat)(a0:List D)(a3:Bool)(a4:Nat)(a2:List D)(i a5:Int):fF call L C (a6+1) r z q K M J U V O Y Z W a1 h a0 a3 a4 a2 i a5=
 (bx (decide (a5<(h:Int)))
 (bx (i==0)
 (qP call L C a6 a5 r z q K M J U V O Y Z W a1 h a0 a3 a4 a2)
 (iO call L C L r z q K M J U V O Y Z W a1 h a0 a3 a4 a2 i 0))
 (iO call L C L r z q K M J U V O Y Z W a1 h a0 a3 a4 a2 i 0)):=by kernel_rfl
theorem oC(call:CL)(L:Nat)(C:Nat→Nat)(a6:Nat)(q:Bool)(r:Nat)(i:List D)(J:Bool)(K:Nat)(z:List D)(O:Bool)(U:Nat)(M:List D)(W:Bool)(h:Nat)(V:List D)(Z:Bool)(a0:Nat)(Y:List D)(a2:Bool)(a3:Nat)(a1:List D)(a4 a5:Int):mV call L C (a6+1) q r i J K z O U M W h V Z a0 Y a2 a3 a1 a4 a5=
 (bx (decide (a5<(h:Int)))
 (bx (a4==0)
 (bC (call 84 [D.agg [D.slc q r i,D.slc J K z,D.slc O U M,D.slc W h V,D.slc Z a0 Y,D.slc a2 a3 a1],D.int .i64 a5]) fun a7=>bD .i64 a7 fun a8=>mV call L C a6 q r i J K z O U M W h V Z a0 Y a2 a3 a1 a8 (IntKind.wrap .i64 (a5+1)))
 (fF call L C L q r i J K z O U M W h V Z a0 Y a2 a3 a1 a4 0))
 (fF call L C L q r i J K z O U M W h V Z a0 Y a2 a3 a1 a4 0)):=by kernel_rfl
theorem xZ(call:CL)(L:Nat)(C:Nat→Nat)(q:Bool)(r:Nat)(i:List D)(J:Bool)(K:Nat)(z:List D)(O:Bool)(U:Nat)(M:List D)(W:Bool)(Y:Nat)(V:List D)(a0:Bool)(a1:Nat)(Z:List D)(a3:Bool)(a4:Nat)(a2:List D)(h:Int)(hC:∀t,C t=1):fY call L C q r i J K z O U M W Y V a0 a1 Z a3 a4 a2 h=
 (mV call L C L q r i J K z O U M W Y V a0 a1 Z a3 a4 a2 h 0):=by
 unfold fY;rw[hC]
 kernel_rfl
theorem qQ(call:CL)(L:Nat)(C:Nat→Nat)(a6:Nat)(J:Bool)(K:Nat)(z:List D)(O:Bool)(r:Nat)(M:List D)(q:Bool)(h:Nat)(i:List D)(V:Bool)(W:Nat)(U:List D)(Z:Bool)(a0:Nat)(Y:List D)(a2:Bool)(a3:Nat)(a1:List D)(ve a5:Int):kG call L C (a6+1) J K z O r M q h i V W U Z a0 Y a2 a3 a1 ve a5=
 (bx (decide (a5<(r:Int)))
 (bx (ve==0)
 (bC (call 82 [D.agg [D.slc J K z,D.slc O r M,D.slc q h i,D.slc V W U,D.slc Z a0 Y,D.slc a2 a3 a1],D.int .i64 a5]) fun a7=>bD .i64 a7 fun x=>kG call L C a6 J K z O r M q h i V W U Z a0 Y a2 a3 a1 x (IntKind.wrap .i64 (a5+1)))
 (bx (ve==0)
 (bx (decide ((h:Int)>0))
 (bC (call 83 [D.slc q h i]) fun a8=>bD .i64 a8 fun aa=>fY call L C J K z O r M q h i V W U Z a0 Y a2 a3 a1 aa)
 (fY call L C J K z O r M q h i V W U Z a0 Y a2 a3 a1 ve))
 (fY call L C J K z O r M q h i V W U Z a0 Y a2 a3 a1 ve)))
 (bx (ve==0)
 (bx (decide ((h:Int)>0))
 (bC (call 83 [D.slc q h i]) fun a9=>bD .i64 a9 fun ab=>fY call L C J K z O r M q h i V W U Z a0 Y a2 a3 a1 ab)
 (fY call L C J K z O r M q h i V W U Z a0 Y a2 a3 a1 ve))
 (fY call L C J K z O r M q h i V W U Z a0 Y a2 a3 a1 ve))):=by kernel_rfl
theorem sY(call:CL)(L:Nat)(C:Nat→Nat)(a6:Nat)(z:Bool)(i:Nat)(q:List D)(K:Bool)(M:Nat)(J:List D)(U:Bool)(V:Nat)(O:List D)(Y:Bool)(Z:Nat)(W:List D)(a1:Bool)(a2:Nat)(a0:List D)(a4:Bool)(a5:Nat)(a3:List D)(h:Int):uh call L C (a6+1) z i q K M J U V O Y Z W a1 a2 a0 a4 a5 a3 h=
 (bx (decide (h<(i:Int)))
 (bW (decide (0≤h∧h<(i:Int)))
 (bn q (Int.toNat h*1) fun d=>bP d fun s=>bC (call 80 [D.str s]) fun r=>bU r fun b=>bx (!b)
 (some (D.int .i64 8))
 (bW (decide (0≤(0:Int)∧(0:Int)≤h∧h≤(i:Int)))
 (bW (decide (0≤h∧h<(i:Int)))
 (bn q (Int.toNat h*1) fun a8=>bP a8 fun aa=>bC (call 81 [D.slc (z&&decide (h=(i:Int))) (Int.toNat (h-(0:Int))) (List.take (Int.toNat (h-(0:Int))*1) q),D.str aa]) fun a9=>bU a9 fun a7=>bx a7
 (some (D.int .i64 9))
 (uh call L C a6 z i q K M J U V O Y Z W a1 a2 a0 a4 a5 a3 (IntKind.wrap .i64 (h+1))))))))
 (kG call L C L z i q K M J U V O Y Z W a1 a2 a0 a4 a5 a3 0 0)):=by kernel_rfl
theorem Cr(call:CL)(L:Nat)(C:Nat→Nat)(i:Bool)(q:Nat)(h:List D)(z:Bool)(J:Nat)(r:List D)(M:Bool)(O:Nat)(K:List D)(V:Bool)(W:Nat)(U:List D)(Z:Bool)(a0:Nat)(Y:List D)(a2:Bool)(a3:Nat)(a1:List D)(hC:∀t,C t=1):y5 call L C i q h z J r M O K V W U Z a0 Y a2 a3 a1=
 (uh call L C L i q h z J r M O K V W U Z a0 Y a2 a3 a1 0):=by
 unfold y5;rw[hC]
 kernel_rfl
theorem HP(call:CL)(L:Nat)(C:Nat→Nat)(K:Bool)(h:Nat)(J:List D)(O:Bool)(i:Nat)(M:List D)(V:Bool)(W:Nat)(U:List D)(Z:Bool)(q:Nat)(Y:List D)(a1:Bool)(r:Nat)(a0:List D)(a3:Bool)(z:Nat)(a2:List D):bX (cD call L C) O0 C5 FinM.canon Tryz.f16 [D.agg [D.slc K h J,D.slc O i M,D.slc V W U,D.slc Z q Y,D.slc a1 r a0,D.slc a3 z a2]]=
 (bx (decide ((h:Int)>256))
 (some (D.int .i64 5))
 (bx (decide ((i:Int)>200))
 (some (D.int .i64 5))
 (bx (decide ((q:Int)>1000))
 (some (D.int .i64 5))
 (bx (decide ((r:Int)>200))
 (some (D.int .i64 5))
 (bx (decide ((z:Int)>256))
 (some (D.int .i64 5))
 (y5 call L C K h J O i M V W U Z q Y a1 r a0 a3 z a2)))))):=by kernel_rfl
theorem HQ(call:CL)(L:Nat)(C:Nat→Nat)(z:Bool)(J:Nat)(q:List D)(M:Bool)(K:Nat)(i:List D)(U:Bool)(V:Nat)(O:List D)(Y:Bool)(Z:Nat)(W:List D)(a1:Bool)(a2:Nat)(a0:List D)(a4:Bool)(a5:Nat)(a3:List D)(h:Int):bX (cD call L C) O0 N0 FinM.canon Tryz.f82 [D.agg [D.slc z J q,D.slc M K i,D.slc U V O,D.slc Y Z W,D.slc a1 a2 a0,D.slc a4 a5 a3],D.int .i64 h]=
 (bW (decide (0≤h∧h<(K:Int)))
 (bn i (Int.toNat h*3+0) fun d=>bP d fun s=>bn i (Int.toNat h*3+1) fun a7=>bP a7 fun ab=>bn i (Int.toNat h*3+2) fun a8=>bD .i64 a8 fun x=>bC (call 80 [D.str s]) fun r=>bU r fun b=>bx (!b)
 (some (D.int .i64 8))
 (bC (call 23 [D.agg [D.slc z J q,D.slc M K i,D.slc U V O,D.slc Y Z W,D.slc a1 a2 a0,D.slc a4 a5 a3],D.str s]) fun a9=>bD .i64 a9 fun ac=>bx (decide (ac<h))
 (some (D.int .i64 9))
 (bC (call 81 [D.slc z J q,D.str ab]) fun aa=>bU aa fun a6=>bx (!a6)
 (some (D.int .i64 10))
 (bx (decide (x< -99))
 (some (D.int .i64 3))
 (bx (decide (x>99))
 (some (D.int .i64 3))
 (some (D.int .i64 0)))))))):=by kernel_rfl
def MP:bN:=fun p=>match p with
 |15=>nm [1,2,5] [] [2,5]
 |_=>none
noncomputable def x3(call:CL)(L:Nat)(C:Nat→Nat)(h:Int)(O:Bool)(U:Nat)(M:List D)(W:Bool)(Y:Nat)(V:List D)(a1:Bool)(a2:Nat)(a0:List D)(a4:Bool)(a5:Nat)(a3:List D)(a7:Bool)(a8:Nat)(a6:List D)(aa:Bool)(ab:Nat)(a9:List D)(i q:ByteArray)(r z:Int)(K:ByteArray):Option D:=
 eO (cD call L C) O0 MP FinM.canon Tryz.f84 [true,true,true] [] (C 15) (St.mk (J::D.int .i64 h::D.loc 2 0 0::J::J::D.loc 5 0 0::jn 52 []) (Z::Z::(1,some (Ob.box [D.slc O U M,D.slc W Y V,D.slc a1 a2 a0,D.slc a4 a5 a3,D.slc a7 a8 a6,D.slc aa ab a9] false))::Z::Z::(1,some (Ob.box [D.str i,D.str q,D.int .i64 r,D.int .i64 z,D.str K] false))::zn 52 []))
theorem Ac(call:CL)(L:Nat)(C:Nat→Nat)(q:Int)(O:Bool)(U:Nat)(M:List D)(W:Bool)(Y:Nat)(V:List D)(a0:Bool)(a1:Nat)(Z:List D)(a3:Bool)(a4:Nat)(a2:List D)(a6:Bool)(a7:Nat)(a5:List D)(a9:Bool)(aa:Nat)(a8:List D)(h r:ByteArray)(z J:Int)(K:ByteArray)(hC:∀t,C t=1):x3 call L C q O U M W Y V a0 a1 Z a3 a4 a2 a6 a7 a5 a9 aa a8 h r z J K=
 (bC (call 145 [D.agg [D.int .i64 J,D.str K]]) fun ab=>bD .i64 ab fun i=>bx (i==0)
 (bC (call 95 [D.agg [D.slc O U M,D.slc W Y V,D.slc a0 a1 Z,D.slc a3 a4 a2,D.slc a6 a7 a5,D.slc a9 aa a8],D.str h,D.int .i64 z,D.bool (ByteArray.toList r==ByteArray.toList h)]) fun ac=>bD .i64 ac fun ad=>bx (decide (ad<q))
 (some (D.int .i64 9))
 (some (D.int .i64 i)))
 (some (D.int .i64 i))):=by
 unfold x3;rw[hC]
 kernel_rfl
theorem HR(call:CL)(L:Nat)(C:Nat→Nat)(K:Bool)(M:Nat)(J:List D)(U:Bool)(V:Nat)(O:List D)(Y:Bool)(q:Nat)(W:List D)(Z:Bool)(z:Nat)(i:List D)(a1:Bool)(a2:Nat)(a0:List D)(a4:Bool)(a5:Nat)(a3:List D)(h:Int):bX (cD call L C) O0 MP FinM.canon Tryz.f84 [D.agg [D.slc K M J,D.slc U V O,D.slc Y q W,D.slc Z z i,D.slc a1 a2 a0,D.slc a4 a5 a3],D.int .i64 h]=
 (bW (decide (0≤h∧h<(z:Int)))
 (bn i (Int.toNat h*5+0) fun d=>bP d fun s=>bn i (Int.toNat h*5+1) fun a7=>bP a7 fun a6=>bn i (Int.toNat h*5+2) fun a8=>bD .i64 a8 fun x=>bn i (Int.toNat h*5+3) fun a9=>bD .i64 a9 fun ad=>bn i (Int.toNat h*5+4) fun aa=>bP aa fun ac=>bC (call 23 [D.agg [D.slc K M J,D.slc U V O,D.slc Y q W,D.slc Z z i,D.slc a1 a2 a0,D.slc a4 a5 a3],D.str s]) fun r=>bD .i64 r fun ae=>bx (decide (ae<0))
 (some (D.int .i64 10))
 (bC (call 23 [D.agg [D.slc K M J,D.slc U V O,D.slc Y q W,D.slc Z z i,D.slc a1 a2 a0,D.slc a4 a5 a3],D.str a6]) fun ab=>bD .i64 ab fun af=>bx (decide (af<0))
 (some (D.int .i64 10))
 (bx (decide (x<1))
 (some (D.int .i64 10))
 (bx (decide (x>(q:Int)))
 (some (D.int .i64 10))
 (x3 call L C h K M J U V O Y q W Z z i a1 a2 a0 a4 a5 a3 s a6 x ad ac)))))):=by kernel_rfl
def LV:bN:=fun p=>match p with
 |127=>nm [5,6] [2] [2,5]
 |1018=>nm [5,6,7] [2] [2,5]
 |_=>none
noncomputable def mW(call:CL)(L:Nat)(C:Nat→Nat)(h:Nat)(q:ByteArray)(z:Bool)(J:Nat)(r:List D)(M:Bool)(O:Nat)(K:List D)(i U:Int):Option D:=
 cp (cD call L C) O0 LV FinM.canon Tryz.f85 (bt 9 191) [] h (St.mk (jn 5 (D.loc 5 0 0::D.int .i64 i::D.int .i64 U::jn 46 [])) (zn 5 ((1,some (Ob.box [D.str q,D.slc z J r,D.slc M O K] false))::zn 48 [])))
noncomputable def kH(call:CL)(L:Nat)(C:Nat→Nat)(h:Int)(i:ByteArray)(r:Bool)(z:Nat)(q:List D)(K:Bool)(M:Nat)(J:List D):Option D:=
 eO (cD call L C) O0 LV FinM.canon Tryz.f85 (bt 6 63) [] (C 127) (St.mk (jn 5 (D.loc 5 0 0::D.int .i64 h::jn 47 [])) (zn 5 ((1,some (Ob.box [D.str i,D.slc r z q,D.slc K M J] false))::zn 48 [])))
theorem oD(call:CL)(L:Nat)(C:Nat→Nat)(M:Nat)(O:ByteArray)(J:Bool)(K:Nat)(z:List D)(U:Bool)(r:Nat)(q:List D)(i h:Int):mW call L C (M+1) O J K z U r q i h=
 (bx (decide (h<(r:Int)))
 (bx (i==0)
 (bW (decide (0≤h∧h<(r:Int)))
 (bn q (Int.toNat h*2+0) fun W=>bP W fun a2=>bn q (Int.toNat h*2+1) fun Y=>c9 Y fun Z a0 V=>bC (call 152 [D.slc J K z,D.agg [D.str a2,D.slc Z a0 V]]) fun a1=>bD .i64 a1 fun a3=>mW call L C M O J K z U r q a3 (IntKind.wrap .i64 (h+1))))
 (some (D.int .i64 i)))
 (some (D.int .i64 i))):=by kernel_rfl
theorem x4(call:CL)(L:Nat)(C:Nat→Nat)(h:Int)(i:ByteArray)(r:Bool)(z:Nat)(q:List D)(K:Bool)(M:Nat)(J:List D)(hC:∀t,C t=1):kH call L C h i r z q K M J=
 (mW call L C L i r z q K M J h 0):=by
 unfold kH;rw[hC]
 kernel_rfl
theorem HS(call:CL)(L:Nat)(C:Nat→Nat)(U:Bool)(V:Nat)(O:List D)(Y:Bool)(Z:Nat)(W:List D)(a1:Bool)(a2:Nat)(a0:List D)(a4:Bool)(a5:Nat)(a3:List D)(a7:Bool)(a8:Nat)(a6:List D)(a9:Bool)(K:Nat)(i:List D)(h:Int):bX (cD call L C) O0 LV FinM.canon Tryz.f85 [D.agg [D.slc U V O,D.slc Y Z W,D.slc a1 a2 a0,D.slc a4 a5 a3,D.slc a7 a8 a6,D.slc a9 K i],D.int .i64 h]=
 (bW (decide (0≤h∧h<(K:Int)))
 (bn i (Int.toNat h*3+0) fun d=>bP d fun s=>bn i (Int.toNat h*3+1) fun aa=>c9 aa fun f n c=>bn i (Int.toNat h*3+2) fun ab=>c9 ab fun J q z=>bC (call 80 [D.str s]) fun r=>bU r fun b=>bx (!b)
 (some (D.int .i64 8))
 (bC (call 151 [D.agg [D.slc U V O,D.slc Y Z W,D.slc a1 a2 a0,D.slc a4 a5 a3,D.slc a7 a8 a6,D.slc a9 K i],D.str s]) fun ac=>bD .i64 ac fun x=>bx (decide (x<h))
 (some (D.int .i64 9))
 (bC (call 83 [D.slc f n c]) fun ad=>bD .i64 ad fun M=>bx (M==0)
 (bx (decide ((q:Int)>200))
 (kH call L C 5 s f n c J q z)
 (kH call L C M s f n c J q z))
 (kH call L C M s f n c J q z))))):=by kernel_rfl
def KI:bN:=fun p=>match p with
 |58=>nm [1,2,3,18,19,20] [5,7,9] [1,2,3,5,7,9,28,42,56]
 |122=>nm [1,2,3,32,33,34] [5,7,9] [1,2,3,5,7,9,28,42,56]
 |250=>nm [2,3,46,47,48] [1,5,7,9] [1,2,3,5,7,9,28,42,56]
 |_=>none
noncomputable def cX(call:CL)(L:Nat)(C:Nat→Nat)(r:Nat)(a4:Bool)(a5:Nat)(a3:List D)(O:Bool)(U:Nat)(M:List D)(W:Bool)(Y:Nat)(V:List D)(a1:Bool)(a2:Nat)(a0:List D)(z K:Int)(h:Ow)(i:Ow)(q:Ow):Option D:=
 cp (cD call L C) O0 KI FinM.canon Tryz.f13 (bt 7 47) [] r (St.mk (J::J::D.loc 2 0 0::D.loc 3 0 0::jn 42 (D.slc a4 a5 a3::D.int .i64 z::D.int .i64 K::jn 11 [])) (Z::Z::(1,some (Ob.box [D.nils,D.nils,D.nils,D.nils,D.nils,D.nils] false))::(1,some (Ob.box [D.slc O U M,j7 28 h,D.slc W Y V,j7 42 i,D.slc a1 a2 a0,j7 56 q] false))::zn 24 (j8 155 3 h::zn 13 (j8 156 5 i::zn 13 [j8 160 3 q,Z,Z,Z]))))
noncomputable def eZ(call:CL)(L:Nat)(C:Nat→Nat)(a2:Nat)(V:Bool)(W:Nat)(U:List D)(r:Bool)(z:Nat)(q:List D)(a6:Bool)(a7:Nat)(a5:List D)(M:Bool)(O:Nat)(K:List D)(a0:Bool)(a1:Nat)(Y:List D)(a9:Bool)(aa:Nat)(a8:List D)(a3 a4:Int)(h:Ow)(i:Ow):Option D:=
 cp (cD call L C) O0 KI FinM.canon Tryz.f13 (bt 6 23) [] a2 (St.mk (J::D.loc 1 0 0::D.loc 2 0 0::D.loc 3 0 0::jn 28 (D.slc V W U::D.int .i64 a3::D.int .i64 a4::jn 25 [])) (Z::(1,some (Ob.box [D.slc r z q,D.slc a6 a7 a5,D.slc M O K,D.slc V W U,D.slc a0 a1 Y,D.slc a9 aa a8] false))::(1,some (Ob.box [D.nils,D.nils,D.nils,D.nils,D.nils,D.nils] false))::(1,some (Ob.box [D.slc r z q,j7 28 h,D.slc M O K,j7 42 i,D.slc a0 a1 Y,D.nils] false))::zn 24 (j8 155 3 h::zn 13 (j8 156 5 i::zn 17 []))))
noncomputable def lT(call:CL)(L:Nat)(C:Nat→Nat)(n:Nat)(K:Bool)(M:Nat)(z:List D)(q:Bool)(r:Nat)(i:List D)(U:Bool)(V:Nat)(O:List D)(a4:Bool)(a5:Nat)(a3:List D)(Y:Bool)(a0:Nat)(W:List D)(a7:Bool)(a8:Nat)(a6:List D)(a1 a2:Int)(h:Ow):Option D:=
 cp (cD call L C) O0 KI FinM.canon Tryz.f13 (bt 5 11) [] n (St.mk (J::D.loc 1 0 0::D.loc 2 0 0::D.loc 3 0 0::jn 14 (D.slc K M z::D.int .i64 a1::D.int .i64 a2::jn 39 [])) (Z::(1,some (Ob.box [D.slc q r i,D.slc K M z,D.slc U V O,D.slc a4 a5 a3,D.slc Y a0 W,D.slc a7 a8 a6] false))::(1,some (Ob.box [D.nils,D.nils,D.nils,D.nils,D.nils,D.nils] false))::(1,some (Ob.box [D.slc q r i,j7 28 h,D.slc U V O,D.nils,D.slc Y a0 W,D.nils] false))::zn 24 (j8 155 3 h::zn 31 [])))
theorem lk(call:CL)(L:Nat)(C:Nat→Nat)(Z:Nat)(a0:Bool)(Y:Nat)(i:List D)(z:Bool)(J:Nat)(r:List D)(M:Bool)(O:Nat)(K:List D)(V:Bool)(W:Nat)(U:List D)(q h:Int):cX call L C (Z+1) a0 Y i z J r M O K V W U q h (Ow.nil) (Ow.nil) (Ow.nil)=
 (bx (decide (h<q))
 (bW (decide (0≤h∧h<(Y:Int)))
 (bn i (Int.toNat h*3+0) fun a3=>bP a3 fun a8=>bn i (Int.toNat h*3+1) fun a4=>c9 a4 fun f a6 c=>bn i (Int.toNat h*3+2) fun a2=>c9 a2 fun a5 a7 a1=>cX call L C Z a0 Y i z J r M O K V W U q (IntKind.wrap .i64 (h+1)) (Ow.nil) (Ow.nil) (Ow.own 1 [D.str a8,D.slc f a6 c,D.slc a5 a7 a1])))
 (some (D.agg [D.slc z J r,D.slc true 0 [],D.slc M O K,D.slc true 0 [],D.slc V W U,D.slc true 0 []]))):=by kernel_rfl
theorem ll(call:CL)(L:Nat)(C:Nat→Nat)(a1:Nat)(a2:Bool)(a0:Nat)(q:List D)(K:Bool)(M:Nat)(J:List D)(U:Bool)(V:Nat)(O:List D)(Y:Bool)(Z:Nat)(W:List D)(r h:Int)(i:Nat)(z:List D):cX call L C (a1+1) a2 a0 q K M J U V O Y Z W r h (Ow.nil) (Ow.nil) (Ow.own i z)=
 (bx (decide (h<r))
 (bW (decide (0≤h∧h<(a0:Int)))
 (bn q (Int.toNat h*3+0) fun a5=>bP a5 fun ac=>bn q (Int.toNat h*3+1) fun a6=>c9 a6 fun a8 aa a3=>bn q (Int.toNat h*3+2) fun a7=>c9 a7 fun a9 ab a4=>bW (decide ((i+1)*64≤cu∧i+1≤9223372036854775807))
 (cX call L C a1 a2 a0 q K M J U V O Y Z W r (IntKind.wrap .i64 (h+1)) (Ow.nil) (Ow.nil) (Ow.own (i+1) (z++[D.str ac,D.slc a8 aa a3,D.slc a9 ab a4])))))
 (some (D.agg [D.slc K M J,D.slc true 0 [],D.slc U V O,D.slc true 0 [],D.slc Y Z W,D.slc false i z]))):=by kernel_rfl
theorem lm(call:CL)(L:Nat)(C:Nat→Nat)(a1:Nat)(a2:Bool)(a0:Nat)(i:List D)(K:Bool)(M:Nat)(J:List D)(U:Bool)(V:Nat)(O:List D)(Y:Bool)(Z:Nat)(W:List D)(q h:Int)(z:Nat)(r:List D):cX call L C (a1+1) a2 a0 i K M J U V O Y Z W q h (Ow.nil) (Ow.own z r) (Ow.nil)=
 (bx (decide (h<q))
 (bW (decide (0≤h∧h<(a0:Int)))
 (bn i (Int.toNat h*3+0) fun a5=>bP a5 fun ac=>bn i (Int.toNat h*3+1) fun a6=>c9 a6 fun a8 aa a3=>bn i (Int.toNat h*3+2) fun a7=>c9 a7 fun a9 ab a4=>cX call L C a1 a2 a0 i K M J U V O Y Z W q (IntKind.wrap .i64 (h+1)) (Ow.nil) (Ow.own z r) (Ow.own 1 [D.str ac,D.slc a8 aa a3,D.slc a9 ab a4])))
 (some (D.agg [D.slc K M J,D.slc true 0 [],D.slc U V O,D.slc false z r,D.slc Y Z W,D.slc true 0 []]))):=by kernel_rfl
theorem lp(call:CL)(L:Nat)(C:Nat→Nat)(a3:Nat)(a4:Bool)(a2:Nat)(q:List D)(O:Bool)(U:Nat)(M:List D)(W:Bool)(Y:Nat)(V:List D)(a0:Bool)(a1:Nat)(Z:List D)(r h:Int)(J:Nat)(z:List D)(i:Nat)(K:List D):cX call L C (a3+1) a4 a2 q O U M W Y V a0 a1 Z r h (Ow.nil) (Ow.own J z) (Ow.own i K)=
 (bx (decide (h<r))
 (bW (decide (0≤h∧h<(a2:Int)))
 (bn q (Int.toNat h*3+0) fun a7=>bP a7 fun ae=>bn q (Int.toNat h*3+1) fun a8=>c9 a8 fun aa ad a5=>bn q (Int.toNat h*3+2) fun a9=>c9 a9 fun ab ac a6=>bW (decide ((i+1)*64≤cu∧i+1≤9223372036854775807))
 (cX call L C a3 a4 a2 q O U M W Y V a0 a1 Z r (IntKind.wrap .i64 (h+1)) (Ow.nil) (Ow.own J z) (Ow.own (i+1) (K++[D.str ae,D.slc aa ad a5,D.slc ab ac a6])))))
 (some (D.agg [D.slc O U M,D.slc true 0 [],D.slc W Y V,D.slc false J z,D.slc a0 a1 Z,D.slc false i K]))):=by kernel_rfl
theorem lq(call:CL)(L:Nat)(C:Nat→Nat)(a1:Nat)(a2:Bool)(a0:Nat)(i:List D)(K:Bool)(M:Nat)(J:List D)(U:Bool)(V:Nat)(O:List D)(Y:Bool)(Z:Nat)(W:List D)(q h:Int)(z:Nat)(r:List D):cX call L C (a1+1) a2 a0 i K M J U V O Y Z W q h (Ow.own z r) (Ow.nil) (Ow.nil)=
 (bx (decide (h<q))
 (bW (decide (0≤h∧h<(a0:Int)))
 (bn i (Int.toNat h*3+0) fun a5=>bP a5 fun ac=>bn i (Int.toNat h*3+1) fun a6=>c9 a6 fun a8 aa a3=>bn i (Int.toNat h*3+2) fun a7=>c9 a7 fun a9 ab a4=>cX call L C a1 a2 a0 i K M J U V O Y Z W q (IntKind.wrap .i64 (h+1)) (Ow.own z r) (Ow.nil) (Ow.own 1 [D.str ac,D.slc a8 aa a3,D.slc a9 ab a4])))
 (some (D.agg [D.slc K M J,D.slc false z r,D.slc U V O,D.slc true 0 [],D.slc Y Z W,D.slc true 0 []]))):=by kernel_rfl
theorem lr(call:CL)(L:Nat)(C:Nat→Nat)(a3:Nat)(a4:Bool)(a2:Nat)(q:List D)(O:Bool)(U:Nat)(M:List D)(W:Bool)(Y:Nat)(V:List D)(a0:Bool)(a1:Nat)(Z:List D)(r h:Int)(J:Nat)(z:List D)(i:Nat)(K:List D):cX call L C (a3+1) a4 a2 q O U M W Y V a0 a1 Z r h (Ow.own J z) (Ow.nil) (Ow.own i K)=
 (bx (decide (h<r))
 (bW (decide (0≤h∧h<(a2:Int)))
 (bn q (Int.toNat h*3+0) fun a7=>bP a7 fun ae=>bn q (Int.toNat h*3+1) fun a8=>c9 a8 fun aa ac a5=>bn q (Int.toNat h*3+2) fun a9=>c9 a9 fun ab ad a6=>bW (decide ((i+1)*64≤cu∧i+1≤9223372036854775807))
 (cX call L C a3 a4 a2 q O U M W Y V a0 a1 Z r (IntKind.wrap .i64 (h+1)) (Ow.own J z) (Ow.nil) (Ow.own (i+1) (K++[D.str ae,D.slc aa ac a5,D.slc ab ad a6])))))
 (some (D.agg [D.slc O U M,D.slc false J z,D.slc W Y V,D.slc true 0 [],D.slc a0 a1 Z,D.slc false i K]))):=by kernel_rfl
theorem ls(call:CL)(L:Nat)(C:Nat→Nat)(a3:Nat)(a4:Bool)(a2:Nat)(i:List D)(O:Bool)(U:Nat)(M:List D)(W:Bool)(Y:Nat)(V:List D)(a0:Bool)(a1:Nat)(Z:List D)(q h:Int)(z:Nat)(r:List D)(K:Nat)(J:List D):cX call L C (a3+1) a4 a2 i O U M W Y V a0 a1 Z q h (Ow.own z r) (Ow.own K J) (Ow.nil)=
 (bx (decide (h<q))
 (bW (decide (0≤h∧h<(a2:Int)))
 (bn i (Int.toNat h*3+0) fun a7=>bP a7 fun ae=>bn i (Int.toNat h*3+1) fun a8=>c9 a8 fun aa ac a5=>bn i (Int.toNat h*3+2) fun a9=>c9 a9 fun ab ad a6=>cX call L C a3 a4 a2 i O U M W Y V a0 a1 Z q (IntKind.wrap .i64 (h+1)) (Ow.own z r) (Ow.own K J) (Ow.own 1 [D.str ae,D.slc aa ac a5,D.slc ab ad a6])))
 (some (D.agg [D.slc O U M,D.slc false z r,D.slc W Y V,D.slc false K J,D.slc a0 a1 Z,D.slc true 0 []]))):=by kernel_rfl
theorem lu(call:CL)(L:Nat)(C:Nat→Nat)(a5:Nat)(a6:Bool)(a4:Nat)(q:List D)(V:Bool)(W:Nat)(U:List D)(Z:Bool)(a0:Nat)(Y:List D)(a2:Bool)(a3:Nat)(a1:List D)(r h:Int)(J:Nat)(z:List D)(M:Nat)(K:List D)(i:Nat)(O:List D):cX call L C (a5+1) a6 a4 q V W U Z a0 Y a2 a3 a1 r h (Ow.own J z) (Ow.own M K) (Ow.own i O)=
 (bx (decide (h<r))
 (bW (decide (0≤h∧h<(a4:Int)))
 (bn q (Int.toNat h*3+0) fun a9=>bP a9 fun ag=>bn q (Int.toNat h*3+1) fun aa=>c9 aa fun ac ae a7=>bn q (Int.toNat h*3+2) fun ab=>c9 ab fun ad af a8=>bW (decide ((i+1)*64≤cu∧i+1≤9223372036854775807))
 (cX call L C a5 a6 a4 q V W U Z a0 Y a2 a3 a1 r (IntKind.wrap .i64 (h+1)) (Ow.own J z) (Ow.own M K) (Ow.own (i+1) (O++[D.str ag,D.slc ac ae a7,D.slc ad af a8])))))
 (some (D.agg [D.slc V W U,D.slc false J z,D.slc Z a0 Y,D.slc false M K,D.slc a2 a3 a1,D.slc false i O]))):=by kernel_rfl
theorem mX(call:CL)(L:Nat)(C:Nat→Nat)(a2:Nat)(a6:Bool)(V:Nat)(i:List D)(J:Bool)(K:Nat)(z:List D)(a4:Bool)(a5:Nat)(a3:List D)(O:Bool)(U:Nat)(M:List D)(Y:Bool)(Z:Nat)(W:List D)(a1:Bool)(q:Nat)(a0:List D)(r h:Int):eZ call L C (a2+1) a6 V i J K z a4 a5 a3 O U M Y Z W a1 q a0 r h (Ow.nil) (Ow.nil)=
 (bx (decide (h<r))
 (bW (decide (0≤h∧h<(V:Int)))
 (bn i (Int.toNat h*5+0) fun a7=>bP a7 fun ac=>bn i (Int.toNat h*5+1) fun a8=>bP a8 fun ad=>bn i (Int.toNat h*5+2) fun a9=>bD .i64 a9 fun af=>bn i (Int.toNat h*5+3) fun aa=>bD .i64 aa fun ag=>bn i (Int.toNat h*5+4) fun ab=>bP ab fun ae=>eZ call L C a2 a6 V i J K z a4 a5 a3 O U M Y Z W a1 q a0 r (IntKind.wrap .i64 (h+1)) (Ow.nil) (Ow.own 1 [D.str ac,D.str ad,D.int .i64 af,D.int .i64 ag,D.str ae])))
 (cX call L C L a1 q a0 J K z O U M Y Z W ((q:Int)) 0 (Ow.nil) (Ow.nil) (Ow.nil))):=by kernel_rfl
theorem mY(call:CL)(L:Nat)(C:Nat→Nat)(a4:Nat)(a8:Bool)(Y:Nat)(i:List D)(M:Bool)(O:Nat)(K:List D)(a6:Bool)(a7:Nat)(a5:List D)(V:Bool)(W:Nat)(U:List D)(a0:Bool)(a1:Nat)(Z:List D)(a3:Bool)(r:Nat)(a2:List D)(z h:Int)(q:Nat)(J:List D):eZ call L C (a4+1) a8 Y i M O K a6 a7 a5 V W U a0 a1 Z a3 r a2 z h (Ow.nil) (Ow.own q J)=
 (bx (decide (h<z))
 (bW (decide (0≤h∧h<(Y:Int)))
 (bn i (Int.toNat h*5+0) fun a9=>bP a9 fun ae=>bn i (Int.toNat h*5+1) fun aa=>bP aa fun af=>bn i (Int.toNat h*5+2) fun ab=>bD .i64 ab fun ah=>bn i (Int.toNat h*5+3) fun ac=>bD .i64 ac fun ai=>bn i (Int.toNat h*5+4) fun ad=>bP ad fun ag=>bW (decide ((q+1)*64≤cu∧q+1≤9223372036854775807))
 (eZ call L C a4 a8 Y i M O K a6 a7 a5 V W U a0 a1 Z a3 r a2 z (IntKind.wrap .i64 (h+1)) (Ow.nil) (Ow.own (q+1) (J++[D.str ae,D.str af,D.int .i64 ah,D.int .i64 ai,D.str ag])))))
 (cX call L C L a3 r a2 M O K V W U a0 a1 Z ((r:Int)) 0 (Ow.nil) (Ow.own q J) (Ow.nil))):=by kernel_rfl
theorem mZ(call:CL)(L:Nat)(C:Nat→Nat)(a4:Nat)(a8:Bool)(Y:Nat)(i:List D)(M:Bool)(O:Nat)(K:List D)(a6:Bool)(a7:Nat)(a5:List D)(V:Bool)(W:Nat)(U:List D)(a0:Bool)(a1:Nat)(Z:List D)(a3:Bool)(q:Nat)(a2:List D)(r h:Int)(J:Nat)(z:List D):eZ call L C (a4+1) a8 Y i M O K a6 a7 a5 V W U a0 a1 Z a3 q a2 r h (Ow.own J z) (Ow.nil)=
 (bx (decide (h<r))
 (bW (decide (0≤h∧h<(Y:Int)))
 (bn i (Int.toNat h*5+0) fun a9=>bP a9 fun ae=>bn i (Int.toNat h*5+1) fun aa=>bP aa fun af=>bn i (Int.toNat h*5+2) fun ab=>bD .i64 ab fun ah=>bn i (Int.toNat h*5+3) fun ac=>bD .i64 ac fun ai=>bn i (Int.toNat h*5+4) fun ad=>bP ad fun ag=>eZ call L C a4 a8 Y i M O K a6 a7 a5 V W U a0 a1 Z a3 q a2 r (IntKind.wrap .i64 (h+1)) (Ow.own J z) (Ow.own 1 [D.str ae,D.str af,D.int .i64 ah,D.int .i64 ai,D.str ag])))
 (cX call L C L a3 q a2 M O K V W U a0 a1 Z ((q:Int)) 0 (Ow.own J z) (Ow.nil) (Ow.nil))):=by kernel_rfl
theorem m5(call:CL)(L:Nat)(C:Nat→Nat)(a6:Nat)(aa:Bool)(a0:Nat)(i:List D)(U:Bool)(V:Nat)(O:List D)(a8:Bool)(a9:Nat)(a7:List D)(Y:Bool)(Z:Nat)(W:List D)(a2:Bool)(a3:Nat)(a1:List D)(a5:Bool)(r:Nat)(a4:List D)(z h:Int)(K:Nat)(J:List D)(q:Nat)(M:List D):eZ call L C (a6+1) aa a0 i U V O a8 a9 a7 Y Z W a2 a3 a1 a5 r a4 z h (Ow.own K J) (Ow.own q M)=
 (bx (decide (h<z))
 (bW (decide (0≤h∧h<(a0:Int)))
 (bn i (Int.toNat h*5+0) fun ab=>bP ab fun ag=>bn i (Int.toNat h*5+1) fun ac=>bP ac fun ah=>bn i (Int.toNat h*5+2) fun ad=>bD .i64 ad fun aj=>bn i (Int.toNat h*5+3) fun ae=>bD .i64 ae fun ak=>bn i (Int.toNat h*5+4) fun af=>bP af fun ai=>bW (decide ((q+1)*64≤cu∧q+1≤9223372036854775807))
 (eZ call L C a6 aa a0 i U V O a8 a9 a7 Y Z W a2 a3 a1 a5 r a4 z (IntKind.wrap .i64 (h+1)) (Ow.own K J) (Ow.own (q+1) (M++[D.str ag,D.str ah,D.int .i64 aj,D.int .i64 ak,D.str ai])))))
 (cX call L C L a5 r a4 U V O Y Z W a2 a3 a1 ((r:Int)) 0 (Ow.own K J) (Ow.own q M) (Ow.nil))):=by kernel_rfl
theorem qR(call:CL)(L:Nat)(C:Nat→Nat)(n:Nat)(O:Bool)(q:Nat)(i:List D)(K:Bool)(M:Nat)(J:List D)(V:Bool)(W:Nat)(U:List D)(Z:Bool)(r:Nat)(Y:List D)(a1:Bool)(a2:Nat)(a0:List D)(a4:Bool)(a5:Nat)(a3:List D)(z h:Int):lT call L C (n+1) O q i K M J V W U Z r Y a1 a2 a0 a4 a5 a3 z h (Ow.nil)=
 (bx (decide (h<z))
 (bW (decide (0≤h∧h<(q:Int)))
 (bn i (Int.toNat h*3+0) fun d=>bP d fun s=>bn i (Int.toNat h*3+1) fun a6=>bP a6 fun a8=>bn i (Int.toNat h*3+2) fun a7=>bD .i64 a7 fun x=>lT call L C n O q i K M J V W U Z r Y a1 a2 a0 a4 a5 a3 z (IntKind.wrap .i64 (h+1)) (Ow.own 1 [D.str s,D.str a8,D.int .i64 x])))
 (eZ call L C L Z r Y K M J O q i V W U a1 a2 a0 a4 a5 a3 ((r:Int)) 0 (Ow.nil) (Ow.nil))):=by kernel_rfl
theorem qS(call:CL)(L:Nat)(C:Nat→Nat)(n:Nat)(V:Bool)(r:Nat)(i:List D)(O:Bool)(U:Nat)(M:List D)(Y:Bool)(Z:Nat)(W:List D)(a1:Bool)(z:Nat)(a0:List D)(a3:Bool)(a4:Nat)(a2:List D)(a6:Bool)(a7:Nat)(a5:List D)(J h:Int)(q:Nat)(K:List D):lT call L C (n+1) V r i O U M Y Z W a1 z a0 a3 a4 a2 a6 a7 a5 J h (Ow.own q K)=
 (bx (decide (h<J))
 (bW (decide (0≤h∧h<(r:Int)))
 (bn i (Int.toNat h*3+0) fun a8=>bP a8 fun ab=>bn i (Int.toNat h*3+1) fun a9=>bP a9 fun ac=>bn i (Int.toNat h*3+2) fun aa=>bD .i64 aa fun ad=>bW (decide ((q+1)*40≤cu∧q+1≤9223372036854775807))
 (lT call L C n V r i O U M Y Z W a1 z a0 a3 a4 a2 a6 a7 a5 J (IntKind.wrap .i64 (h+1)) (Ow.own (q+1) (K++[D.str ab,D.str ac,D.int .i64 ad])))))
 (eZ call L C L a1 z a0 O U M V r i Y Z W a3 a4 a2 a6 a7 a5 ((z:Int)) 0 (Ow.own q K) (Ow.nil))):=by kernel_rfl
theorem HT(call:CL)(L:Nat)(C:Nat→Nat)(q:Bool)(r:Nat)(i:List D)(J:Bool)(h:Nat)(z:List D)(M:Bool)(O:Nat)(K:List D)(V:Bool)(W:Nat)(U:List D)(Z:Bool)(a0:Nat)(Y:List D)(a2:Bool)(a3:Nat)(a1:List D):bX (cD call L C) O0 KI FinM.canon Tryz.f13 [D.agg [D.slc q r i,D.slc J h z,D.slc M O K,D.slc V W U,D.slc Z a0 Y,D.slc a2 a3 a1]]=
 (lT call L C L J h z q r i M O K V W U Z a0 Y a2 a3 a1 ((h:Int)) 0 (Ow.nil)):=by kernel_rfl
def Fy:bN:=fun p=>match p with
 |7=>nm [1] [] [1]
 |58=>nm [1,3] [] [1]
 |122=>nm [1,4] [] [1]
 |250=>nm [1,5] [] [1]
 |506=>nm [1,6] [] [1]
 |1018=>nm [1,7] [] [1]
 |_=>none
noncomputable def iP(call:CL)(L:Nat)(C:Nat→Nat)(h:Nat)(r:Bool)(z:Nat)(q:List D)(M:Bool)(O:Nat)(K:List D)(V:Bool)(W:Nat)(U:List D)(a0:Bool)(a1:Nat)(Y:List D)(a3:Bool)(a4:Nat)(a2:List D)(a6:Bool)(a7:Nat)(a5:List D)(i:Int):Option D:=
 cp (cD call L C) O0 Fy FinM.canon Tryz.f14 (bt 9 191) [] h (St.mk (J::D.loc 1 0 0::jn 5 (D.int .i64 i::jn 142 [])) (Z::(1,some (Ob.box [D.slc r z q,D.slc M O K,D.slc V W U,D.slc a0 a1 Y,D.slc a3 a4 a2,D.slc a6 a7 a5] false))::zn 148 []))
noncomputable def kI(call:CL)(L:Nat)(C:Nat→Nat)(h:Nat)(r:Bool)(z:Nat)(q:List D)(M:Bool)(O:Nat)(K:List D)(V:Bool)(W:Nat)(U:List D)(a0:Bool)(a1:Nat)(Y:List D)(a3:Bool)(a4:Nat)(a2:List D)(a6:Bool)(a7:Nat)(a5:List D)(i:Int):Option D:=
 cp (cD call L C) O0 Fy FinM.canon Tryz.f14 (bt 8 95) [] h (St.mk (J::D.loc 1 0 0::J::J::J::J::D.int .i64 i::jn 143 []) (Z::(1,some (Ob.box [D.slc r z q,D.slc M O K,D.slc V W U,D.slc a0 a1 Y,D.slc a3 a4 a2,D.slc a6 a7 a5] false))::zn 148 []))
noncomputable def kJ(call:CL)(L:Nat)(C:Nat→Nat)(h:Nat)(r:Bool)(z:Nat)(q:List D)(M:Bool)(O:Nat)(K:List D)(V:Bool)(W:Nat)(U:List D)(a0:Bool)(a1:Nat)(Y:List D)(a3:Bool)(a4:Nat)(a2:List D)(a6:Bool)(a7:Nat)(a5:List D)(i:Int):Option D:=
 cp (cD call L C) O0 Fy FinM.canon Tryz.f14 (bt 7 47) [] h (St.mk (J::D.loc 1 0 0::J::J::J::D.int .i64 i::jn 144 []) (Z::(1,some (Ob.box [D.slc r z q,D.slc M O K,D.slc V W U,D.slc a0 a1 Y,D.slc a3 a4 a2,D.slc a6 a7 a5] false))::zn 148 []))
noncomputable def kK(call:CL)(L:Nat)(C:Nat→Nat)(h:Nat)(r:Bool)(z:Nat)(q:List D)(M:Bool)(O:Nat)(K:List D)(V:Bool)(W:Nat)(U:List D)(a0:Bool)(a1:Nat)(Y:List D)(a3:Bool)(a4:Nat)(a2:List D)(a6:Bool)(a7:Nat)(a5:List D)(i:Int):Option D:=
 cp (cD call L C) O0 Fy FinM.canon Tryz.f14 (bt 6 23) [] h (St.mk (J::D.loc 1 0 0::J::J::D.int .i64 i::jn 145 []) (Z::(1,some (Ob.box [D.slc r z q,D.slc M O K,D.slc V W U,D.slc a0 a1 Y,D.slc a3 a4 a2,D.slc a6 a7 a5] false))::zn 148 []))
noncomputable def uk(call:CL)(L:Nat)(C:Nat→Nat)(h:Nat)(r:Bool)(z:Nat)(q:List D)(M:Bool)(O:Nat)(K:List D)(V:Bool)(W:Nat)(U:List D)(a0:Bool)(a1:Nat)(Y:List D)(a3:Bool)(a4:Nat)(a2:List D)(a6:Bool)(a7:Nat)(a5:List D)(i:Int):Option D:=
 cp (cD call L C) O0 Fy FinM.canon Tryz.f14 (bt 5 11) [] h (St.mk (J::D.loc 1 0 0::J::D.int .i64 i::jn 146 []) (Z::(1,some (Ob.box [D.slc r z q,D.slc M O K,D.slc V W U,D.slc a0 a1 Y,D.slc a3 a4 a2,D.slc a6 a7 a5] false))::zn 148 []))
noncomputable def y6(call:CL)(L:Nat)(C:Nat→Nat)(i:Bool)(q:Nat)(h:List D)(z:Bool)(K:Nat)(r:List D)(O:Bool)(U:Nat)(M:List D)(W:Bool)(Y:Nat)(V:List D)(a1:Bool)(a2:Nat)(a0:List D)(a4:Bool)(a5:Nat)(a3:List D):Option D:=
 eO (cD call L C) O0 Fy FinM.canon Tryz.f14 [true,true] [] (C 7) (St.mk (J::D.loc 1 0 0::jn 148 []) (Z::(1,some (Ob.box [D.slc i q h,D.slc z K r,D.slc O U M,D.slc W Y V,D.slc a1 a2 a0,D.slc a4 a5 a3] false))::zn 148 []))
theorem oE(call:CL)(L:Nat)(C:Nat→Nat)(r:Nat)(J:Bool)(K:Nat)(z:List D)(O:Bool)(U:Nat)(M:List D)(W:Bool)(Y:Nat)(V:List D)(a0:Bool)(a1:Nat)(Z:List D)(a3:Bool)(a4:Nat)(a2:List D)(a5:Bool)(q:Nat)(i:List D)(h:Int):iP call L C (r+1) J K z O U M W Y V a0 a1 Z a3 a4 a2 a5 q i h=
 (bx (decide (h<(q:Int)))
 (bW (decide (0≤h∧h<(q:Int)))
 (bn i (Int.toNat h*3+0) fun a8=>bP a8 fun af=>bn i (Int.toNat h*3+1) fun a9=>c9 a9 fun f ac c=>bn i (Int.toNat h*3+2) fun aa=>c9 aa fun ab ad a7=>bC (call 76 [D.agg [D.str af,D.slc f ac c,D.slc ab ad a7]]) fun ae=>bU ae fun a6=>bx (!a6)
 (some (D.bool false))
 (iP call L C r J K z O U M W Y V a0 a1 Z a3 a4 a2 a5 q i (IntKind.wrap .i64 (h+1)))))
 (some (D.bool true))):=by kernel_rfl
theorem qT(call:CL)(L:Nat)(C:Nat→Nat)(a5:Nat)(z:Bool)(J:Nat)(r:List D)(M:Bool)(O:Nat)(K:List D)(V:Bool)(W:Nat)(U:List D)(Z:Bool)(a0:Nat)(Y:List D)(a1:Bool)(i:Nat)(q:List D)(a3:Bool)(a4:Nat)(a2:List D)(h:Int):kI call L C (a5+1) z J r M O K V W U Z a0 Y a1 i q a3 a4 a2 h=
 (bx (decide (h<(i:Int)))
 (bW (decide (0≤h∧h<(i:Int)))
 (bn q (Int.toNat h*1) fun a6=>bP a6 fun a7=>bx (decide (((ByteArray.size a7):Int)>60))
 (some (D.bool false))
 (kI call L C a5 z J r M O K V W U Z a0 Y a1 i q a3 a4 a2 (IntKind.wrap .i64 (h+1)))))
 (iP call L C L z J r M O K V W U Z a0 Y a1 i q a3 a4 a2 0)):=by kernel_rfl
theorem qU(call:CL)(L:Nat)(C:Nat→Nat)(a5:Nat)(z:Bool)(J:Nat)(r:List D)(M:Bool)(O:Nat)(K:List D)(V:Bool)(W:Nat)(U:List D)(Y:Bool)(i:Nat)(q:List D)(a0:Bool)(a1:Nat)(Z:List D)(a3:Bool)(a4:Nat)(a2:List D)(h:Int):kJ call L C (a5+1) z J r M O K V W U Y i q a0 a1 Z a3 a4 a2 h=
 (bx (decide (h<(i:Int)))
 (bW (decide (0≤h∧h<(i:Int)))
 (bn q (Int.toNat h*5+0) fun a6=>bP a6 fun a9=>bx (decide (((ByteArray.size a9):Int)>60))
 (some (D.bool false))
 (bW (decide (0≤h∧h<(i:Int)))
 (bn q (Int.toNat h*5+1) fun a7=>bP a7 fun aa=>bx (decide (((ByteArray.size aa):Int)>60))
 (some (D.bool false))
 (bW (decide (0≤h∧h<(i:Int)))
 (bn q (Int.toNat h*5+3+1) fun a8=>bP a8 fun ab=>bx (decide (((ByteArray.size ab):Int)>60))
 (some (D.bool false))
 (kJ call L C a5 z J r M O K V W U Y i q a0 a1 Z a3 a4 a2 (IntKind.wrap .i64 (h+1)))))))))
 (kI call L C L z J r M O K V W U Y i q a0 a1 Z a3 a4 a2 0)):=by kernel_rfl
theorem qV(call:CL)(L:Nat)(C:Nat→Nat)(a5:Nat)(z:Bool)(J:Nat)(r:List D)(K:Bool)(i:Nat)(q:List D)(O:Bool)(U:Nat)(M:List D)(W:Bool)(Y:Nat)(V:List D)(a0:Bool)(a1:Nat)(Z:List D)(a3:Bool)(a4:Nat)(a2:List D)(h:Int):kK call L C (a5+1) z J r K i q O U M W Y V a0 a1 Z a3 a4 a2 h=
 (bx (decide (h<(i:Int)))
 (bW (decide (0≤h∧h<(i:Int)))
 (bn q (Int.toNat h*3+0) fun a6=>bP a6 fun a8=>bx (decide (((ByteArray.size a8):Int)>60))
 (some (D.bool false))
 (bW (decide (0≤h∧h<(i:Int)))
 (bn q (Int.toNat h*3+1) fun a7=>bP a7 fun a9=>bx (decide (((ByteArray.size a9):Int)>60))
 (some (D.bool false))
 (kK call L C a5 z J r K i q O U M W Y V a0 a1 Z a3 a4 a2 (IntKind.wrap .i64 (h+1)))))))
 (kJ call L C L z J r K i q O U M W Y V a0 a1 Z a3 a4 a2 0)):=by kernel_rfl
theorem sZ(call:CL)(L:Nat)(C:Nat→Nat)(a5:Nat)(r:Bool)(i:Nat)(q:List D)(J:Bool)(K:Nat)(z:List D)(O:Bool)(U:Nat)(M:List D)(W:Bool)(Y:Nat)(V:List D)(a0:Bool)(a1:Nat)(Z:List D)(a3:Bool)(a4:Nat)(a2:List D)(h:Int):uk call L C (a5+1) r i q J K z O U M W Y V a0 a1 Z a3 a4 a2 h=
 (bx (decide (h<(i:Int)))
 (bW (decide (0≤h∧h<(i:Int)))
 (bn q (Int.toNat h*1) fun d=>bP d fun s=>bx (decide (((ByteArray.size s):Int)>60))
 (some (D.bool false))
 (uk call L C a5 r i q J K z O U M W Y V a0 a1 Z a3 a4 a2 (IntKind.wrap .i64 (h+1)))))
 (kK call L C L r i q J K z O U M W Y V a0 a1 Z a3 a4 a2 0)):=by kernel_rfl
theorem Cs(call:CL)(L:Nat)(C:Nat→Nat)(i:Bool)(q:Nat)(h:List D)(z:Bool)(J:Nat)(r:List D)(M:Bool)(O:Nat)(K:List D)(V:Bool)(W:Nat)(U:List D)(Z:Bool)(a0:Nat)(Y:List D)(a2:Bool)(a3:Nat)(a1:List D)(hC:∀t,C t=1):y6 call L C i q h z J r M O K V W U Z a0 Y a2 a3 a1=
 (uk call L C L i q h z J r M O K V W U Z a0 Y a2 a3 a1 0):=by
 unfold y6;rw[hC]
 kernel_rfl
theorem HU(call:CL)(L:Nat)(C:Nat→Nat)(O:Bool)(h:Nat)(M:List D)(V:Bool)(i:Nat)(U:List D)(Y:Bool)(q:Nat)(W:List D)(a0:Bool)(z:Nat)(Z:List D)(a2:Bool)(J:Nat)(a1:List D)(a4:Bool)(K:Nat)(a3:List D):bX (cD call L C) O0 Fy FinM.canon Tryz.f14 [D.agg [D.slc O h M,D.slc V i U,D.slc Y q W,D.slc a0 z Z,D.slc a2 J a1,D.slc a4 K a3]]=
 (bC (call 75 [D.int .i64 (h:Int),D.int .i64 6,D.int .i64 256]) fun r=>bU r fun b=>bx (!b)
 (some (D.bool false))
 (bC (call 75 [D.int .i64 (i:Int),D.int .i64 6,D.int .i64 200]) fun a9=>bU a9 fun a5=>bx (!a5)
 (some (D.bool false))
 (bx (decide ((q:Int)>39))
 (some (D.bool false))
 (bC (call 75 [D.int .i64 (z:Int),D.int .i64 30,D.int .i64 1000]) fun aa=>bU aa fun a6=>bx (!a6)
 (some (D.bool false))
 (bC (call 75 [D.int .i64 (J:Int),D.int .i64 8,D.int .i64 200]) fun ab=>bU ab fun a7=>bx (!a7)
 (some (D.bool false))
 (bC (call 75 [D.int .i64 (K:Int),D.int .i64 4,D.int .i64 256]) fun ac=>bU ac fun a8=>bx (!a8)
 (some (D.bool false))
 (y6 call L C O h M V i U Y q W a0 z Z a2 J a1 a4 K a3))))))):=by kernel_rfl
end Go.Pd
end
