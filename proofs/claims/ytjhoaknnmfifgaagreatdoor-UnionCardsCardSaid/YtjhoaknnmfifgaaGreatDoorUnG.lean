import Derived.Test.YtjhoaknnmfifgaaGreatDoorUnA
import Derived.KernelRfl
section
namespace Go.Pd
open Go Go.Proofs Go.RowKit Go.Shelf
theorem c1:∀t,C1 t=1:=fun _=>rfl
theorem cx:eU (fun _ _=>none):=fun _ _ _ h=>by cases h
theorem L9{base:FuncId→List D→Option D}(hb:eU base){L:Nat}:EnvOK (cz base L C1).E:=⟨An hb,(fun _ _ h=>nomatch h),(fun _ _ _ h=>nomatch h),(fun _ _ hi=>nomatch hi)⟩
theorem eA{base:FuncId→List D→Option D}(hb:eU base){f:FuncId}{fn:Func}(hf:Tryz.prog.funcs[f]?=some fn){ord:il}{N:bK}(hok:jQ Tryz.prog ord fn=true){ds:List D}{r:D}
  (he:bS (cz base LL C1) ord N .canon fn ds=some r):ce f ds r:=
 pQ (Te:=cz base LL C1) lG (L9 hb) (fun _ _ _ h=>by cases h) rfl (fun _ _ _ h=>by cases h) hf (by simp) hok he
theorem dJ{x:Int}(h: -9223372036854775808≤x∧x≤9223372036854775807):IntKind.wrap .i64 x=x:=IntWalk.i64_in x h
structure Fam where
 f:FuncId
 ι:Type
 a:ι→List D
 r:ι→D
def Fam.Good(F:Fam):Prop:=(∀i,ce F.f (F.a i) (F.r i))∧∀i j,F.a i=F.a j→F.r i=F.r j
def oR:List Fam→Prop
 |[]=>True
 |F::l=>F.Good∧oR l
def GJ(B:FuncId→List D→Option D):List Fam→Prop
 |[]=>True
 |F::l=>(∀i,B F.f (F.a i)=some (F.r i))∧GJ B l
theorem j1:∀{l:List Fam},oR l→∀F∈l,F.Good
 |[],_,F,hF=>by cases hF
 |F0::l,h,F,hF=>by
  rcases List.mem_cons.1 hF with rfl|hF
  ·exact h.1
  ·exact j1 h.2 F hF
theorem yG{B:FuncId→List D→Option D}:∀{l:List Fam},(∀F∈l,∀i,B F.f (F.a i)=some (F.r i))→GJ B l
 |[],_=>trivial
 |F::_,h=>⟨h F (za2 ..),yG fun e he=>h e (za3 _ he)⟩
open Classical in
noncomputable def DI(l:List Fam):FuncId→List D→Option D:=fun k ds=>
 if h:∃r,∃F∈l,∃i:F.ι,F.f=k∧F.a i=ds∧F.r i=r then some h.choose else none
theorem DJ{l:List Fam}(h:oR l):eU (DI l):=by
 intro k ds r hr;unfold DI at hr;split at hr
 ·rename_i hx;cases hr;obtain⟨F,hF,i,rfl,rfl,h3⟩:=hx.choose_spec;rw[←h3];exact(j1 h F hF).1 i
 ·cases hr
def DK:List FuncId→Bool
 |[]=>true
 |x::l=>l.all (fun y=>x !=y)&&DK l
theorem yH:∀{l:List Fam},DK (l.map Fam.f)=true→∀F∈l,∀F'∈l,F.f=F'.f→F=F'
 |[],_,F,hF,_,_,_=>by cases hF
 |F0::l,h,F,hF,F',hF',he=>by
  simp only[List.map_cons,DK,zc0,zd1,zd6,ne_eq] at h;have key:∀G∈l,F0.f≠G.f:=fun G hG=>h.1 G.f (List.mem_map.2 ⟨G,hG,rfl⟩);rcases List.mem_cons.1 hF with h1|h1
  ·rcases List.mem_cons.1 hF' with h2|h2
   ·rw[h1,h2]
   ·exact absurd (h1▸he) (key F' h2)
  ·rcases List.mem_cons.1 hF' with h2|h2
   ·exact absurd (h2▸he).symm (key F h1)
   ·exact yH h.2 F h1 F' h2 he
theorem j2(l:List Fam)(h:oR l)(hn:DK (l.map Fam.f)=true):∃B,eU B∧GJ B l:=by
 refine⟨DI l,DJ h,yG fun F hF i=> ?_⟩;obtain⟨_,h2⟩:=j1 h F hF;have hx:∃r,∃F'∈l,∃j:F'.ι,F'.f=F.f∧F'.a j=F.a i∧F'.r j=r:=⟨F.r i,F,hF,i,rfl,rfl,rfl⟩;unfold DI;rw[dif_pos hx];obtain⟨F',hF',j,h4,h5,h6⟩:=hx.choose_spec;obtain rfl:=yH hn F' hF' F hF h4;rw[←h6,h2 j i h5]
def one(f:FuncId)(ds:List D)(r:D):Fam:=⟨f,Unit,fun _=>ds,fun _=>r⟩
theorem bL{f:FuncId}{ds:List D}{r:D}(h:ce f ds r):(one f ds r).Good:=⟨fun _=>h,fun _ _ _=>rfl⟩
end Go.Pd
end
section
namespace Go.Pd
open Go Go.Proofs
set_option maxRecDepth 100000
theorem GK(call:CL)(L:Nat)(C:Nat→Nat)(h q i:Int):bS (cz call L C) O0 N0 FinM.canon Tryz.f75 [D.int .i64 h,D.int .i64 q,D.int .i64 i]=
 (bx (decide (h≤q))
 (some (D.bool true))
 (bx (decide (h>i))
 (some (D.bool (decide (h≤IntKind.wrap .i64 (i+3)))))
 (some (D.bool false)))):=by kernel_rfl
def Lo:bK:=fun p=>match p with
 |7=>nm [1] [] [1]
 |58=>nm [1,3] [] [1]
 |_=>none
noncomputable def tM(call:CL)(L:Nat)(C:Nat→Nat)(h:Nat)(q:ByteArray)(z:Bool)(K:Nat)(r:List D)(O:Bool)(U:Nat)(M:List D)(i:Int):Option D:=
 ch (cz call L C) O0 Lo FinM.canon Tryz.f76 (bt 5 11) [] h (St.mk (J::D.loc 1 0 0::J::D.int .i64 i::jn 32 []) (Z::(1,some (Ob.box [D.str q,D.slc z K r,D.slc O U M] false))::zn 34 []))
noncomputable def BW(call:CL)(L:Nat)(C:Nat→Nat)(h:ByteArray)(q:Bool)(r:Nat)(i:List D)(K:Bool)(M:Nat)(z:List D):Option D:=
 eY (cz call L C) O0 Lo FinM.canon Tryz.f76 [true,true] [] (C 7) (St.mk (J::D.loc 1 0 0::jn 34 []) (Z::(1,some (Ob.box [D.str h,D.slc q r i,D.slc K M z] false))::zn 34 []))
theorem sv(call:CL)(L:Nat)(C:Nat→Nat)(r:Nat)(z:ByteArray)(K:Bool)(M:Nat)(J:List D)(O:Bool)(q:Nat)(i:List D)(h:Int):tM call L C (r+1) z K M J O q i h=
 (bx (decide (h<(q:Int)))
 (cb (decide (0≤h∧h<(q:Int)))
 (bn i (Int.toNat h*2+0) fun d=>bX d fun s=>bn i (Int.toNat h*2+1) fun V=>cU V fun f W c=>bB (call 150 [D.agg [D.str s,D.slc f W c,D.int .i64 0]]) fun Y=>bR Y fun U=>bx (!U)
 (some (D.bool false))
 (tM call L C r z K M J O q i (IntKind.wrap .i64 (h+1)))))
 (some (D.bool true))):=by kernel_rfl
theorem BX(call:CL)(L:Nat)(C:Nat→Nat)(h:ByteArray)(q:Bool)(r:Nat)(i:List D)(J:Bool)(K:Nat)(z:List D)(hC:∀t,C t=1):BW call L C h q r i J K z=
 (tM call L C L h q r i J K z 0):=by
 unfold BW;rw[hC]
 kernel_rfl
theorem GL(call:CL)(L:Nat)(C:Nat→Nat)(h:ByteArray)(J:Bool)(i:Nat)(z:List D)(M:Bool)(q:Nat)(K:List D):bS (cz call L C) O0 Lo FinM.canon Tryz.f76 [D.agg [D.str h,D.slc J i z,D.slc M q K]]=
 (bx (decide (((ByteArray.size h):Int)>60))
 (some (D.bool false))
 (bx (decide ((i:Int)>39))
 (some (D.bool false))
 (bB (call 75 [D.int .i64 (q:Int),D.int .i64 5,D.int .i64 200]) fun r=>bR r fun b=>bx (!b)
 (some (D.bool false))
 (BW call L C h J i z M q K)))):=by kernel_rfl
def HS:bK:=fun p=>match p with
 |7=>nm [0] [] []
 |58=>nm [0,3] [] []
 |467=>nm [0,3] [] []
 |3731=>nm [0,3,4,5] [] []
 |_=>none
noncomputable def ji(call:CL)(L:Nat)(C:Nat→Nat)(h:Nat)(vs:ByteArray)(i:Int):Option D:=
 eY (cz call L C) O0 HS FinM.canon Tryz.f80 (bt 8 203) [h] (C 467) (St.mk (D.str vs::J::J::D.int .i64 i::jn 52 []) (zn 56 []))
noncomputable def gb(call:CL)(L:Nat)(C:Nat→Nat)(h:Nat)(vs:ByteArray)(q i:Int)(r:Bool):Option D:=
 eY (cz call L C) O0 HS FinM.canon Tryz.f80 (bt 11 1611) [h] (C 3731) (St.mk (D.str vs::J::J::D.int .i64 q::D.int IntKind.u8 i::D.bool r::jn 50 []) (zn 56 []))
noncomputable def tN(call:CL)(L:Nat)(C:Nat→Nat)(h:Nat)(vs:ByteArray)(i:Int):Option D:=
 ch (cz call L C) O0 HS FinM.canon Tryz.f80 (bt 5 11) [] h (St.mk (D.str vs::J::J::D.int .i64 i::jn 52 []) (zn 56 []))
noncomputable def BY(call:CL)(L:Nat)(C:Nat→Nat)(vs:ByteArray):Option D:=
 eY (cz call L C) O0 HS FinM.canon Tryz.f80 [true,true] [] (C 7) (St.mk (D.str vs::jn 55 []) (zn 56 []))
theorem xG(call:CL)(L:Nat)(C:Nat→Nat)(h:Nat)(vs:ByteArray)(i:Int)(hC:∀t,C t=1):ji call L C h vs i=
 (tN call L C h vs (IntKind.wrap .i64 (i+1))):=by
 unfold ji;rw[hC]
 kernel_rfl
theorem vT(call:CL)(L:Nat)(C:Nat→Nat)(i:Nat)(vs:ByteArray)(h q:Int)(r:Bool)(hC:∀t,C t=1):gb call L C i vs h q r=
 (bx (!r)
 (bx (h==0)
 (some (D.bool false))
 (bx (decide (q≥48))
 (bx (decide (q≤57))
 (ji call L C i vs h)
 (bx (!q==95)
 (some (D.bool false))
 (ji call L C i vs h)))
 (bx (!q==95)
 (some (D.bool false))
 (ji call L C i vs h))))
 (ji call L C i vs h)):=by
 unfold gb;rw[hC]
 kernel_rfl
theorem sw(call:CL)(L:Nat)(C:Nat→Nat)(i:Nat)(vs:ByteArray)(h:Int):tN call L C (i+1) vs h=
 (bx (decide (h<((ByteArray.size vs):Int)))
 (cb (decide (0≤h∧Int.toNat h<ByteArray.size vs))
 (bx (decide (cR vs (Int.toNat h)≥97))
 (bx (decide (cR vs (Int.toNat h)≤122))
 (gb call L C i vs h (cR vs (Int.toNat h)) true)
 (bx (decide (cR vs (Int.toNat h)≥65))
 (gb call L C i vs h (cR vs (Int.toNat h)) (decide (cR vs (Int.toNat h)≤90)))
 (gb call L C i vs h (cR vs (Int.toNat h)) false)))
 (bx (decide (cR vs (Int.toNat h)≥65))
 (gb call L C i vs h (cR vs (Int.toNat h)) (decide (cR vs (Int.toNat h)≤90)))
 (gb call L C i vs h (cR vs (Int.toNat h)) false))))
 (some (D.bool true))):=by kernel_rfl
theorem BZ(call:CL)(L:Nat)(C:Nat→Nat)(vs:ByteArray)(hC:∀t,C t=1):BY call L C vs=
 (tN call L C L vs 0):=by
 unfold BY;rw[hC]
 kernel_rfl
theorem GM(call:CL)(L:Nat)(C:Nat→Nat)(vs:ByteArray):bS (cz call L C) O0 HS FinM.canon Tryz.f80 [D.str vs]=
 (bx (decide (((ByteArray.size vs):Int)<1))
 (some (D.bool false))
 (bx (decide (((ByteArray.size vs):Int)>24))
 (some (D.bool false))
 (BY call L C vs))):=by kernel_rfl
def Ma:bK:=fun p=>match p with
 |26=>nm [0,1,5] [] []
 |_=>none
noncomputable def tO(call:CL)(L:Nat)(C:Nat→Nat)(n:Nat)(q:Bool)(r:Nat)(i:List D)(vs:ByteArray)(h:Int):Option D:=
 ch (cz call L C) O0 Ma FinM.canon Tryz.f81 [true,false,true,false] [] n (St.mk (D.slc q r i::D.str vs::J::J::J::D.int .i64 h::jn 12 []) (zn 18 []))
theorem sx(call:CL)(L:Nat)(C:Nat→Nat)(n:Nat)(r:Bool)(i:Nat)(q:List D)(vs:ByteArray)(h:Int):tO call L C (n+1) r i q vs h=
 (bx (decide (h<(i:Int)))
 (cb (decide (0≤h∧h<(i:Int)))
 (bn q (Int.toNat h*1) fun d=>bX d fun s=>bx (ByteArray.toList s==ByteArray.toList vs)
 (some (D.bool true))
 (tO call L C n r i q vs (IntKind.wrap .i64 (h+1)))))
 (some (D.bool false))):=by kernel_rfl
theorem GN(call:CL)(L:Nat)(C:Nat→Nat)(i:Bool)(q:Nat)(h:List D)(vs:ByteArray):bS (cz call L C) O0 Ma FinM.canon Tryz.f81 [D.slc i q h,D.str vs]=
 (tO call L C L i q h vs 0):=by kernel_rfl
def Mb:bK:=fun p=>match p with
 |26=>nm [1,2,5] [] [2]
 |_=>none
noncomputable def tP(call:CL)(L:Nat)(C:Nat→Nat)(n:Nat)(i:ByteArray)(r:Bool)(z:Nat)(q:List D)(M:Bool)(O:Nat)(K:List D)(V:Bool)(W:Nat)(U:List D)(a0:Bool)(a1:Nat)(Y:List D)(a3:Bool)(a4:Nat)(a2:List D)(a6:Bool)(a7:Nat)(a5:List D)(h:Int):Option D:=
 ch (cz call L C) O0 Mb FinM.canon Tryz.f23 [true,false,true,false] [] n (St.mk (J::D.str i::D.loc 2 0 0::J::J::D.int .i64 h::jn 16 []) (Z::Z::(1,some (Ob.box [D.slc r z q,D.slc M O K,D.slc V W U,D.slc a0 a1 Y,D.slc a3 a4 a2,D.slc a6 a7 a5] false))::zn 19 []))
theorem sy(call:CL)(L:Nat)(C:Nat→Nat)(n:Nat)(q:ByteArray)(J:Bool)(K:Nat)(z:List D)(M:Bool)(i:Nat)(r:List D)(U:Bool)(V:Nat)(O:List D)(Y:Bool)(Z:Nat)(W:List D)(a1:Bool)(a2:Nat)(a0:List D)(a4:Bool)(a5:Nat)(a3:List D)(h:Int):tP call L C (n+1) q J K z M i r U V O Y Z W a1 a2 a0 a4 a5 a3 h=
 (bx (decide (h<(i:Int)))
 (cb (decide (0≤h∧h<(i:Int)))
 (bn r (Int.toNat h*3+0) fun d=>bX d fun s=>bx (ByteArray.toList s==ByteArray.toList q)
 (some (D.int .i64 h))
 (tP call L C n q J K z M i r U V O Y Z W a1 a2 a0 a4 a5 a3 (IntKind.wrap .i64 (h+1)))))
 (some (D.int .i64 (-1)))):=by kernel_rfl
theorem GO(call:CL)(L:Nat)(C:Nat→Nat)(q:Bool)(r:Nat)(i:List D)(J:Bool)(K:Nat)(z:List D)(O:Bool)(U:Nat)(M:List D)(W:Bool)(Y:Nat)(V:List D)(a0:Bool)(a1:Nat)(Z:List D)(a3:Bool)(a4:Nat)(a2:List D)(h:ByteArray):bS (cz call L C) O0 Mb FinM.canon Tryz.f23 [D.agg [D.slc q r i,D.slc J K z,D.slc O U M,D.slc W Y V,D.slc a0 a1 Z,D.slc a3 a4 a2],D.str h]=
 (tP call L C L h q r i J K z O U M W Y V a0 a1 Z a3 a4 a2 0):=by kernel_rfl
def Mc:bK:=fun p=>match p with
 |26=>nm [5,6,7] [] []
 |_=>none
noncomputable def tQ(call:CL)(L:Nat)(C:Nat→Nat)(n:Nat)(r:Bool)(z:Nat)(q:List D)(h i:Int):Option D:=
 ch (cz call L C) O0 Mc FinM.canon Tryz.f87 [true,false,true,false] [] n (St.mk (jn 5 (D.slc r z q::D.int .i64 h::D.int .i64 i::jn 7 [])) (zn 15 []))
theorem sA(call:CL)(L:Nat)(C:Nat→Nat)(n:Nat)(z:Bool)(r:Nat)(q:List D)(i h:Int):tQ call L C (n+1) z r q i h=
 (bx (decide (h<i))
 (cb (decide (0≤h∧h<(r:Int)))
 (bn q (Int.toNat h*1) fun d=>bC .i64 d fun x=>bx (x !=0)
 (some (D.int .i64 x))
 (tQ call L C n z r q i (IntKind.wrap .i64 (h+1)))))
 (some (D.int .i64 0))):=by kernel_rfl
theorem GP(call:CL)(L:Nat)(C:Nat→Nat)(q:Bool)(h:Nat)(i:List D):bS (cz call L C) O0 Mc FinM.canon Tryz.f87 [D.slc q h i]=
 (tQ call L C L q h i ((h:Int)) 0):=by kernel_rfl
def DL:bK:=fun p=>match p with
 |26=>nm [5,6,7] [] []
 |_=>none
noncomputable def tR(call:CL)(L:Nat)(C:Nat→Nat)(n:Nat)(r:Bool)(z:Nat)(q:List D)(h i:Int):Option D:=
 ch (cz call L C) O0 DL FinM.canon Tryz.f108 [true,false,true,false] [] n (St.mk (jn 5 (D.slc r z q::D.int .i64 h::D.int .i64 i::jn 7 [])) (zn 15 []))
theorem eo(call:CL)(L:Nat)(C:Nat→Nat)(n:Nat)(z:Bool)(r:Nat)(q:List D)(i h:Int):tR call L C (n+1) z r q i h=
 (bx (decide (h<i))
 (cb (decide (0≤h∧h<(r:Int)))
 (bn q (Int.toNat h*1) fun d=>bC .i64 d fun x=>bx (x !=0)
 (some (D.int .i64 x))
 (tR call L C n z r q i (IntKind.wrap .i64 (h+1)))))
 (some (D.int .i64 0))):=by kernel_rfl
theorem yI(call:CL)(L:Nat)(C:Nat→Nat)(q:Bool)(h:Nat)(i:List D):bS (cz call L C) O0 DL FinM.canon Tryz.f108 [D.slc q h i]=
 (tR call L C L q h i ((h:Int)) 0):=by kernel_rfl
theorem DM(call:CL)(L:Nat)(C:Nat→Nat)(i:Bool)(h:Int):bS (cz call L C) O0 N0 FinM.canon Tryz.f110 [D.bool i,D.int .i64 h]=
 (bx i
 (some (D.int .i64 h))
 (some (D.int .i64 0))):=by kernel_rfl
def GQ:bK:=fun p=>match p with
 |26=>nm [0,6] [] [6]
 |_=>none
noncomputable def kn(call:CL)(L:Nat)(C:Nat→Nat)(n:Nat)(vs:ByteArray)(h:Nat):Option D:=
 ch (cz call L C) O0 GQ FinM.canon Tryz.f111 [true,false,true,false] [] n (St.mk (D.str vs::jn 5 (D.loc 6 0 0::jn 30 [])) (zn 6 ((1,some (Ob.sit vs h))::zn 30 [])))
theorem qi(call:CL)(L:Nat)(C:Nat→Nat)(n:Nat)(vs:ByteArray)(h:Nat):kn call L C (n+1) vs h=
 (bx (decide (h<ByteArray.size vs))
 (bB (call 167 [D.int IntKind.i32 (((Prod.fst (Utf8.decode vs h)):Nat):Int)]) fun r=>bR r fun b=>bx (!b)
 (bx ((h:Int)==0)
 (some (D.bool false))
 (bx ((((Prod.fst (Utf8.decode vs h)):Nat):Int) !=95)
 (bx (decide ((((Prod.fst (Utf8.decode vs h)):Nat):Int)<48))
 (some (D.bool false))
 (bx (decide ((((Prod.fst (Utf8.decode vs h)):Nat):Int)>57))
 (some (D.bool false))
 (kn call L C n vs (h+Prod.snd (Utf8.decode vs h)))))
 (kn call L C n vs (h+Prod.snd (Utf8.decode vs h)))))
 (kn call L C n vs (h+Prod.snd (Utf8.decode vs h))))
 (bx (!ByteArray.toList vs==ByteArray.toList (ByteArray.mk #[]))
 (some (D.bool (decide (((ByteArray.size vs):Int)≤24))))
 (some (D.bool false)))):=by kernel_rfl
theorem DN(call:CL)(L:Nat)(C:Nat→Nat)(vs:ByteArray):bS (cz call L C) O0 GQ FinM.canon Tryz.f111 [D.str vs]=
 (kn call L C L vs 0):=by kernel_rfl
theorem DO(call:CL)(L:Nat)(C:Nat→Nat)(h i q:Int):bS (cz call L C) O0 N0 FinM.canon Tryz.f118 [D.int .i64 h,D.int .i64 i,D.int .i64 q]=
 (bx (decide (h<i))
 (some (D.bool true))
 (some (D.bool (decide (h>q))))):=by kernel_rfl
theorem DP(call:CL)(L:Nat)(C:Nat→Nat)(i:Bool)(h:Int):bS (cz call L C) O0 N0 FinM.canon Tryz.f119 [D.bool i,D.int .i64 h]=
 (bx i
 (some (D.int .i64 h))
 (some (D.int .i64 0))):=by kernel_rfl
theorem DQ(call:CL)(L:Nat)(C:Nat→Nat)(h:Int)(i:ByteArray):bS (cz call L C) O0 N0 FinM.canon Tryz.f145 [D.agg [D.int .i64 h,D.str i]]=
 (bx (ByteArray.toList i==ByteArray.toList (ByteArray.mk #[]))
 (bx (decide (h<1))
 (some (D.int .i64 3))
 (bx (decide (h>99))
 (some (D.int .i64 3))
 (some (D.int .i64 0))))
 (bx (ByteArray.toList i==ByteArray.toList (ByteArray.mk #[99]))
 (bx (decide (h<1))
 (some (D.int .i64 3))
 (bx (decide (h>99))
 (some (D.int .i64 3))
 (some (D.int .i64 0))))
 (bx (ByteArray.toList i==ByteArray.toList (ByteArray.mk #[120]))
 (bx (h !=0)
 (some (D.int .i64 3))
 (some (D.int .i64 0)))
 (bx (ByteArray.toList i==ByteArray.toList (ByteArray.mk #[45]))
 (bx (h !=0)
 (some (D.int .i64 3))
 (some (D.int .i64 0)))
 (some (D.int .i64 13)))))):=by kernel_rfl
theorem DR(call:CL)(L:Nat)(C:Nat→Nat)(h:Int)(i:ByteArray):bS (cz call L C) O0 N0 FinM.canon Tryz.f147 [D.agg [D.int .i64 h,D.str i]]=
 (bB (call 218 [D.agg [D.int .i64 h,D.str i]]) fun r=>bR r fun b=>bx b
 (bB (call 118 [D.int .i64 h,D.int .i64 1,D.int .i64 99]) fun z=>bR z fun q=>bB (call 119 [D.bool q,D.int .i64 3]) fun J=>bC .i64 J fun x=>some (D.int .i64 x))
 (bx (ByteArray.toList i==ByteArray.toList (ByteArray.mk #[120]))
 (bB (call 119 [D.bool (h !=0),D.int .i64 3]) fun K=>bC .i64 K fun O=>some (D.int .i64 O))
 (bx (ByteArray.toList i==ByteArray.toList (ByteArray.mk #[45]))
 (bB (call 119 [D.bool (h !=0),D.int .i64 3]) fun M=>bC .i64 M fun U=>some (D.int .i64 U))
 (some (D.int .i64 13))))):=by kernel_rfl
theorem DS(call:CL)(L:Nat)(C:Nat→Nat)(h i:ByteArray)(q r:Int)(z:ByteArray):bS (cz call L C) O0 N0 FinM.canon Tryz.f153 [D.agg [D.str h,D.str i,D.int .i64 q,D.int .i64 r,D.str z]]=
 (some (D.bool (ByteArray.toList i==ByteArray.toList h))):=by kernel_rfl
theorem DT(call:CL)(L:Nat)(C:Nat→Nat)(K:Bool)(M:Nat)(J:List D)(q:Bool)(z:Nat)(i:List D)(U:Bool)(V:Nat)(O:List D)(Y:Bool)(Z:Nat)(W:List D)(a1:Bool)(a2:Nat)(a0:List D)(a4:Bool)(a5:Nat)(a3:List D)(h:ByteArray):bS (cz call L C) O0 N0 FinM.canon Tryz.f154 [D.agg [D.slc K M J,D.slc q z i,D.slc U V O,D.slc Y Z W,D.slc a1 a2 a0,D.slc a4 a5 a3],D.str h]=
 (bB (call 221 [D.slc q z i,D.fn (Fn.func 222) [] [D.snap [D.str h] 0]]) fun r=>bC .i64 r fun x=>some (D.int .i64 x)):=by kernel_rfl
theorem DU(call:CL)(L:Nat)(C:Nat→Nat)(i:Bool)(q:Nat)(h:List D)(z:ByteArray):bS (cz call L C) O0 N0 FinM.canon Tryz.f155 [D.slc i q h,D.str z]=
 (bB (call 223 [D.slc i q h,D.str z]) fun r=>bC .i64 r fun x=>some (D.bool (decide (x≥0)))):=by kernel_rfl
theorem DV(call:CL)(L:Nat)(C:Nat→Nat)(h:Int):bS (cz call L C) O0 N0 FinM.canon Tryz.f167 [D.int IntKind.i32 h]=
 (bx (decide (h≥97))
 (bx (decide (h≤122))
 (some (D.bool true))
 (bx (decide (h≥65))
 (some (D.bool (decide (h≤90))))
 (some (D.bool false))))
 (bx (decide (h≥65))
 (some (D.bool (decide (h≤90))))
 (some (D.bool false)))):=by kernel_rfl
def J5:il:=fun id=>match id with
 |1=>some {l:=some [0,1,2,3,4,5,6,7,8,9],ks:=[3]}
 |_=>none
theorem DW(call:CL)(L:Nat)(C:Nat→Nat)(h:Int)(i:ByteArray):bS (LT call L C) J5 N0 FinM.canon Tryz.f168 [D.agg [D.int .i64 h,D.str i]]=
 (bx (ByteArray.toList i==ByteArray.toList (ByteArray.mk #[]))
 (bB (call 284 [D.int .i64 h]) fun r=>bR r fun b=>bB (call 110 [D.bool !b,D.int .i64 3]) fun K=>bC .i64 K fun x=>some (D.int .i64 x))
 (bx (ByteArray.toList i==ByteArray.toList (ByteArray.mk #[99]))
 (bB (call 284 [D.int .i64 h]) fun M=>bR M fun q=>bB (call 110 [D.bool !q,D.int .i64 3]) fun O=>bC .i64 O fun Z=>some (D.int .i64 Z))
 (bx (ByteArray.toList i==ByteArray.toList (ByteArray.mk #[120]))
 (bB (call 285 [D.int .i64 h]) fun U=>bR U fun z=>bB (call 110 [D.bool !z,D.int .i64 3]) fun V=>bC .i64 V fun a0=>some (D.int .i64 a0))
 (bx (ByteArray.toList i==ByteArray.toList (ByteArray.mk #[45]))
 (bB (call 285 [D.int .i64 h]) fun W=>bR W fun J=>bB (call 110 [D.bool !J,D.int .i64 3]) fun Y=>bC .i64 Y fun a1=>some (D.int .i64 a1))
 (some (D.int .i64 13)))))):=by kernel_rfl
theorem DX(call:CL)(L:Nat)(C:Nat→Nat)(i:Int)(h:ByteArray):bS (cz call L C) O0 N0 FinM.canon Tryz.f218 [D.agg [D.int .i64 i,D.str h]]=
 (bx (ByteArray.toList h==ByteArray.toList (ByteArray.mk #[]))
 (some (D.bool true))
 (some (D.bool (ByteArray.toList h==ByteArray.toList (ByteArray.mk #[99]))))):=by kernel_rfl
def GR:bK:=fun p=>match p with
 |26=>nm [0,3] [] []
 |_=>none
noncomputable def oS(call:CL)(L:Nat)(C:Nat→Nat)(n:Nat)(q:Bool)(r:Nat)(i:List D)(h:Int):Option D:=
 ch (cz call L C) O0 GR FinM.canon Tryz.f220 [true,false,true,false] [] n (St.mk (D.slc q r i::J::J::D.int .i64 h::jn 15 []) (zn 19 []))
theorem qj(call:CL)(L:Nat)(C:Nat→Nat)(n:Nat)(z:Bool)(q:Nat)(i:List D)(h:Int):oS call L C (n+1) z q i h=
 (bx (decide (h<(q:Int)))
 (cb (decide (0≤h∧h<(q:Int)))
 (bn i (Int.toNat h*2+0) fun d=>bC .i64 d fun x=>bn i (Int.toNat h*2+1) fun K=>bX K fun s=>bB (call 145 [D.agg [D.int .i64 x,D.str s]]) fun r=>bC .i64 r fun J=>bx (J !=0)
 (some (D.int .i64 J))
 (oS call L C n z q i (IntKind.wrap .i64 (h+1)))))
 (some (D.int .i64 0))):=by kernel_rfl
theorem DY(call:CL)(L:Nat)(C:Nat→Nat)(i:Bool)(q:Nat)(h:List D):bS (cz call L C) O0 GR FinM.canon Tryz.f220 [D.slc i q h]=
 (oS call L C L i q h 0):=by kernel_rfl
def GS:bK:=fun p=>match p with
 |26=>nm [6,7,8] [4] [4]
 |_=>none
noncomputable def oT(call:CL)(L:Nat)(C:Nat→Nat)(n:Nat)(r:Bool)(z:Nat)(q:List D)(h i:Int):Option D:=
 ch (cz call L C) O0 GS FinM.canon Tryz.f112 [true,false,true,false] [] n (St.mk (jn 6 (D.slc r z q::D.int .i64 h::D.int .i64 i::jn 9 [])) (zn 18 []))
theorem qk(call:CL)(L:Nat)(C:Nat→Nat)(n:Nat)(J:Bool)(z:Nat)(i:List D)(q h:Int):oT call L C (n+1) J z i q h=
 (bx (decide (h<q))
 (cb (decide (0≤h∧h<(z:Int)))
 (bn i (Int.toNat h*2+0) fun d=>bC .i64 d fun x=>bn i (Int.toNat h*2+1) fun M=>bX M fun s=>bB (call 168 [D.agg [D.int .i64 x,D.str s]]) fun r=>bC .i64 r fun K=>bx (K !=0)
 (some (D.int .i64 K))
 (oT call L C n J z i q (IntKind.wrap .i64 (h+1)))))
 (some (D.int .i64 0))):=by kernel_rfl
theorem DZ(call:CL)(L:Nat)(C:Nat→Nat)(q:Bool)(h:Nat)(i:List D):bS (cz call L C) O0 GS FinM.canon Tryz.f112 [D.slc q h i]=
 (oT call L C L q h i ((h:Int)) 0):=by kernel_rfl
def J6:bK:=fun p=>match p with
 |122=>nm [0,3] [] []
 |3913=>nm [0,3] [] []
 |15654=>nm [0,3,4] [] []
 |_=>none
noncomputable def ko(call:CL)(L:Nat)(C:Nat→Nat)(n h:Nat)(q:Bool)(r:Nat)(i:List D)(z K:Int):Option D:=
 ch (cz call L C) O0 J6 FinM.canon Tryz.f83 (bt 13 3223) [n] h (St.mk (D.slc q r i::J::J::D.int .i64 z::D.int .i64 K::jn 60 []) (zn 65 []))
noncomputable def ql(call:CL)(L:Nat)(C:Nat→Nat)(n:Nat)(i:Bool)(q:Nat)(h:List D)(r:Int):Option D:=
 eY (cz call L C) O0 J6 FinM.canon Tryz.f83 (bt 11 1175) [n] (C 3913) (St.mk (D.slc i q h::J::J::D.int .i64 r::jn 61 []) (zn 65 []))
noncomputable def mA(call:CL)(L:Nat)(C:Nat→Nat)(n:Nat)(i:Bool)(q:Nat)(h:List D)(r:Int):Option D:=
 ch (cz call L C) O0 J6 FinM.canon Tryz.f83 (bt 6 23) [] n (St.mk (D.slc i q h::J::J::D.int .i64 r::jn 61 []) (zn 65 []))
theorem mB(call:CL)(L:Nat)(C:Nat→Nat)(n J:Nat)(z:Bool)(r:Nat)(q:List D)(h i:Int):ko call L C n (J+1) z r q h i=
 (bx (decide (i<h))
 (cb (decide (0≤i∧i<(r:Int)))
 (bn q (Int.toNat i*2+1) fun K=>bC .i64 K fun O=>cb (decide (0≤h∧h<(r:Int)))
 (bn q (Int.toNat h*2+1) fun M=>bC .i64 M fun U=>bx (O==U)
 (some (D.int .i64 9))
 (ko call L C n J z r q h (IntKind.wrap .i64 (i+1))))))
 (mA call L C n z r q (IntKind.wrap .i64 (h+1)))):=by kernel_rfl
theorem vU(call:CL)(L:Nat)(C:Nat→Nat)(n:Nat)(i:Bool)(q:Nat)(h:List D)(r:Int)(hC:∀t,C t=1):ql call L C n i q h r=
 (ko call L C n L i q h r 0):=by
 unfold ql;rw[hC]
 kernel_rfl
theorem qm(call:CL)(L:Nat)(C:Nat→Nat)(n:Nat)(r:Bool)(i:Nat)(q:List D)(h:Int):mA call L C (n+1) r i q h=
 (bx (decide (h<(i:Int)))
 (cb (decide (0≤h∧h<(i:Int)))
 (bn q (Int.toNat h*2+0) fun d=>bC .i64 d fun x=>bx (decide (x<3))
 (some (D.int .i64 3))
 (cb (decide (0≤h∧h<(i:Int)))
 (bn q (Int.toNat h*2+0) fun z=>bC .i64 z fun M=>bx (decide (M>6))
 (some (D.int .i64 3))
 (cb (decide (0≤h∧h<(i:Int)))
 (bn q (Int.toNat h*2+1) fun J=>bC .i64 J fun O=>bx (decide (O<1))
 (some (D.int .i64 3))
 (cb (decide (0≤h∧h<(i:Int)))
 (bn q (Int.toNat h*2+1) fun K=>bC .i64 K fun U=>bx (decide (U>(i:Int)))
 (some (D.int .i64 3))
 (ql call L C n r i q h)))))))))
 (some (D.int .i64 0))):=by kernel_rfl
theorem GT(call:CL)(L:Nat)(C:Nat→Nat)(q:Bool)(h:Nat)(i:List D):bS (cz call L C) O0 J6 FinM.canon Tryz.f83 [D.slc q h i]=
 (bx ((h:Int)==0)
 (some (D.int .i64 12))
 (bx (decide ((h:Int)>36))
 (some (D.int .i64 5))
 (mA call L C L q h i 0))):=by kernel_rfl
def B0:bK:=fun p=>match p with
 |122=>nm [0,4,22,23,24] [6] [6,21]
 |15667=>nm [0,4,6,22,23,24] [] [6,21]
 |31333=>nm [0,4,6,7,22,23,24] [] [6,21]
 |_=>none
noncomputable def lI(call:CL)(L:Nat)(C:Nat→Nat)(n:Nat)(i:Bool)(q:Nat)(h:List D)(K M vx O:Int)(r z:List D):Option D:=
 eY (cz call L C) O0 B0 FinM.canon Tryz.f109 (bt 13 6551) [n] (C 15667) (St.mk (D.slc i q h::J::J::J::D.mloc 21 0::J::D.loc 6 0 0::jn 15 (D.slc i q h::D.int .i64 K::D.int .i64 M::jn 38 [])) (zn 6 ((1,some (Ob.box [D.int .i64 vx,D.int .i64 O] false))::zn 14 ((1,some (Ob.map r z false))::zn 41 []))))
noncomputable def dz(call:CL)(L:Nat)(C:Nat→Nat)(n:Nat)(i:Bool)(q:Nat)(h:List D)(K M:Int)(r z:List D)(O vx U:Int):Option D:=
 eY (cz call L C) O0 B0 FinM.canon Tryz.f109 (bt 14 10647) [n] (C 31333) (St.mk (D.slc i q h::J::J::J::D.mloc 21 0::J::D.loc 6 0 0::D.int .i64 O::jn 14 (D.slc i q h::D.int .i64 K::D.int .i64 M::jn 38 [])) (zn 6 ((1,some (Ob.box [D.int .i64 vx,D.int .i64 U] false))::zn 14 ((1,some (Ob.map r z false))::zn 41 []))))
noncomputable def j3(call:CL)(L:Nat)(C:Nat→Nat)(n:Nat)(i:Bool)(q:Nat)(h:List D)(K M:Int)(r z:List D):Option D:=
 ch (cz call L C) O0 B0 FinM.canon Tryz.f109 (bt 6 23) [] n (St.mk (D.slc i q h::J::J::J::D.mloc 21 0::jn 17 (D.slc i q h::D.int .i64 K::D.int .i64 M::jn 38 [])) (zn 21 ((1,some (Ob.map r z false))::zn 41 [])))
theorem rg(call:CL)(L:Nat)(C:Nat→Nat)(n:Nat)(J:Bool)(K:Nat)(z:List D)(q r vx M:Int)(h i:List D)(hC:∀t,C t=1):lI call L C n J K z q r vx M h i=
 (kE (iZ (D.int .i64 M) (D.bool true) h i) fun ks vs=>j3 call L C n J K z q (IntKind.wrap .i64 (r+1)) ks vs):=by
 unfold lI;rw[hC]
 kernel_rfl
theorem rh(call:CL)(L:Nat)(C:Nat→Nat)(n:Nat)(K:Bool)(M:Nat)(J:List D)(r z:Int)(i q:List D)(h vx O:Int)(hC:∀t,C t=1):dz call L C n K M J r z i q h vx O=
 (bx (h !=0)
 (some (D.int .i64 h))
 (lI call L C n K M J r z vx O i q)):=by
 unfold dz;rw[hC]
 kernel_rfl
theorem nZ(call:CL)(L:Nat)(C:Nat→Nat)(n:Nat)(U:Bool)(K:Nat)(J:List D)(M h:Int)(r z:List D):j3 call L C (n+1) U K J M h r z=
 (bx (decide (h<M))
 (cb (decide (0≤h∧h<(K:Int)))
 (bn J (Int.toNat h*2+0) fun d=>bC .i64 d fun O=>bn J (Int.toNat h*2+1) fun a3=>bC .i64 a3 fun q=>bx (decide (O<3))
 (bB (call 110 [D.bool true,D.int .i64 3]) fun ao=>bC .i64 ao fun Z=>
 (fS (cE (D.int .i64 q) r 0)
 (bB (call 110 [D.bool false,D.int .i64 9]) fun ap=>bC .i64 ap fun aJ=>bB (call 108 [D.slc true 2 [D.int .i64 Z,D.int .i64 aJ]]) fun aq=>bC .i64 aq fun aK=>dz call L C n U K J M h r z aK O q) fun i=>bn z i fun a4=>bR a4 fun b=>bB (call 110 [D.bool b,D.int .i64 9]) fun ar=>bC .i64 ar fun aL=>bB (call 108 [D.slc true 2 [D.int .i64 Z,D.int .i64 aL]]) fun au=>bC .i64 au fun aM=>dz call L C n U K J M h r z aM O q))
 (bx (decide (O>6))
 (bB (call 110 [D.bool true,D.int .i64 3]) fun av=>bC .i64 av fun V=>
 (fS (cE (D.int .i64 q) r 0)
 (bB (call 110 [D.bool false,D.int .i64 9]) fun aw=>bC .i64 aw fun ax=>bB (call 108 [D.slc true 2 [D.int .i64 V,D.int .i64 ax]]) fun ab=>bC .i64 ab fun ay=>dz call L C n U K J M h r z ay O q) fun a8=>bn z a8 fun a5=>bR a5 fun a0=>bB (call 110 [D.bool a0,D.int .i64 9]) fun ac=>bC .i64 ac fun az=>bB (call 108 [D.slc true 2 [D.int .i64 V,D.int .i64 az]]) fun ad=>bC .i64 ad fun aA=>dz call L C n U K J M h r z aA O q))
 (bx (decide (q<1))
 (bB (call 110 [D.bool true,D.int .i64 3]) fun ae=>bC .i64 ae fun W=>
 (fS (cE (D.int .i64 q) r 0)
 (bB (call 110 [D.bool false,D.int .i64 9]) fun af=>bC .i64 af fun aB=>bB (call 108 [D.slc true 2 [D.int .i64 W,D.int .i64 aB]]) fun ag=>bC .i64 ag fun aC=>dz call L C n U K J M h r z aC O q) fun a9=>bn z a9 fun a6=>bR a6 fun a1=>bB (call 110 [D.bool a1,D.int .i64 9]) fun ah=>bC .i64 ah fun aD=>bB (call 108 [D.slc true 2 [D.int .i64 W,D.int .i64 aD]]) fun ai=>bC .i64 ai fun aE=>dz call L C n U K J M h r z aE O q))
 (bB (call 110 [D.bool (decide (q>(K:Int))),D.int .i64 3]) fun aj=>bC .i64 aj fun Y=>
 (fS (cE (D.int .i64 q) r 0)
 (bB (call 110 [D.bool false,D.int .i64 9]) fun ak=>bC .i64 ak fun aF=>bB (call 108 [D.slc true 2 [D.int .i64 Y,D.int .i64 aF]]) fun al=>bC .i64 al fun aG=>dz call L C n U K J M h r z aG O q) fun aa=>bn z aa fun a7=>bR a7 fun a2=>bB (call 110 [D.bool a2,D.int .i64 9]) fun am=>bC .i64 am fun aH=>bB (call 108 [D.slc true 2 [D.int .i64 Y,D.int .i64 aH]]) fun an=>bC .i64 an fun aI=>dz call L C n U K J M h r z aI O q))))))
 (some (D.int .i64 0))):=by kernel_rfl
theorem D0(call:CL)(L:Nat)(C:Nat→Nat)(q:Bool)(h:Nat)(i:List D):bS (cz call L C) O0 B0 FinM.canon Tryz.f109 [D.slc q h i]=
 (bB (call 110 [D.bool ((h:Int)==0),D.int .i64 12]) fun r=>bC .i64 r fun x=>bB (call 110 [D.bool (decide ((h:Int)>36)),D.int .i64 5]) fun J=>bC .i64 J fun M=>bB (call 108 [D.slc true 2 [D.int .i64 x,D.int .i64 M]]) fun K=>bC .i64 K fun z=>bx (z !=0)
 (some (D.int .i64 z))
 (j3 call L C L q h i ((h:Int)) 0 ([]) ([]))):=by kernel_rfl
def D1:bK:=fun p=>match p with
 |15=>nm [0,3,5] [] [3]
 |31=>nm [3,5] [] [3]
 |_=>none
noncomputable def kp(call:CL)(L:Nat)(C:Nat→Nat)(h:ByteArray)(q:Bool)(r:Nat)(i:List D)(z:Int):Option D:=
 eY (cz call L C) O0 D1 FinM.canon Tryz.f152 [true,true,true,true] [] (C 31) (St.mk (J::J::J::D.loc 3 0 0::J::D.int .i64 z::jn 26 []) (Z::Z::Z::(1,some (Ob.box [D.str h,D.slc q r i] false))::zn 28 []))
noncomputable def kq(call:CL)(L:Nat)(C:Nat→Nat)(M:Bool)(O:Nat)(K:List D)(h:ByteArray)(q:Bool)(r:Nat)(i:List D)(z:Int):Option D:=
 eY (cz call L C) O0 D1 FinM.canon Tryz.f152 [true,true,true] [] (C 15) (St.mk (D.slc M O K::J::J::D.loc 3 0 0::J::D.int .i64 z::jn 26 []) (Z::Z::Z::(1,some (Ob.box [D.str h,D.slc q r i] false))::zn 28 []))
theorem xH(call:CL)(L:Nat)(C:Nat→Nat)(J:ByteArray)(q:Bool)(r:Nat)(i:List D)(h:Int)(hC:∀t,C t=1):kp call L C J q r i h=
 (bx (h==0)
 (bB (call 220 [D.slc q r i]) fun z=>bC .i64 z fun K=>some (D.int .i64 K))
 (some (D.int .i64 h))):=by
 unfold kp;rw[hC]
 kernel_rfl
theorem xI(call:CL)(L:Nat)(C:Nat→Nat)(M:Bool)(J:Nat)(K:List D)(i:ByteArray)(r:Bool)(h:Nat)(q:List D)(z:Int)(hC:∀t,C t=1):kq call L C M J K i r h q z=
 (bx (z==0)
 (bx ((h:Int) !=(J:Int))
 (kp call L C i r h q 2)
 (kp call L C i r h q z))
 (kp call L C i r h q z)):=by
 unfold kq;rw[hC]
 kernel_rfl
theorem D2(call:CL)(L:Nat)(C:Nat→Nat)(q:Bool)(z:Nat)(i:List D)(h:ByteArray)(K:Bool)(M:Nat)(J:List D):bS (cz call L C) O0 D1 FinM.canon Tryz.f152 [D.slc q z i,D.agg [D.str h,D.slc K M J]]=
 (bB (call 83 [D.slc q z i]) fun r=>bC .i64 r fun x=>bx (x==0)
 (bB (call 80 [D.str h]) fun O=>bR O fun b=>bx (!b)
 (kq call L C q z i h K M J 8)
 (kq call L C q z i h K M J x))
 (kq call L C q z i h K M J x)):=by kernel_rfl
theorem GU(call:CL)(L:Nat)(C:Nat→Nat)(M:Bool)(i:Nat)(K:List D)(q:ByteArray)(J:Bool)(h:Nat)(z:List D):bS (cz call L C) O0 N0 FinM.canon Tryz.f41 [D.slc M i K,D.agg [D.str q,D.slc J h z]]=
 (bB (call 109 [D.slc M i K]) fun r=>bC .i64 r fun x=>bB (call 111 [D.str q]) fun O=>bR O fun b=>bB (call 110 [D.bool !b,D.int .i64 8]) fun U=>bC .i64 U fun Z=>bB (call 110 [D.bool ((h:Int) !=(i:Int)),D.int .i64 2]) fun V=>bC .i64 V fun a0=>bB (call 112 [D.slc J h z]) fun W=>bC .i64 W fun a1=>bB (call 108 [D.slc true 4 [D.int .i64 x,D.int .i64 Z,D.int .i64 a0,D.int .i64 a1]]) fun Y=>bC .i64 Y fun a2=>some (D.int .i64 a2)):=by kernel_rfl
def GV:bK:=fun p=>match p with
 |26=>nm [0,1,7,8] [] []
 |_=>none
noncomputable def oU(call:CL)(L:Nat)(C:Nat→Nat)(n:Nat)(r:Bool)(z:Nat)(q:List D)(J:ByteArray)(h i:Int):Option D:=
 ch (cz call L C) O0 GV FinM.canon Tryz.f223 [true,false,true,false] [] n (St.mk (D.slc r z q::D.str J::jn 5 (D.int .i64 h::D.int .i64 i::jn 10 [])) (zn 19 []))
theorem qn(call:CL)(L:Nat)(C:Nat→Nat)(n:Nat)(J:Bool)(r:Nat)(q:List D)(z:ByteArray)(i h:Int):oU call L C (n+1) J r q z i h=
 (bx (decide (h<i))
 (cb (decide (0≤h∧h<(r:Int)))
 (bn q (Int.toNat h*1) fun d=>bX d fun s=>bx (ByteArray.toList z==ByteArray.toList s)
 (some (D.int .i64 h))
 (oU call L C n J r q z i (IntKind.wrap .i64 (h+1)))))
 (some (D.int .i64 (-1)))):=by kernel_rfl
theorem D3(call:CL)(L:Nat)(C:Nat→Nat)(q:Bool)(h:Nat)(i:List D)(r:ByteArray):bS (cz call L C) O0 GV FinM.canon Tryz.f223 [D.slc q h i,D.str r]=
 (oU call L C L q h i r ((h:Int)) 0):=by kernel_rfl
def GW:bK:=fun p=>match p with
 |26=>nm [0,1,7,8] [] []
 |_=>none
noncomputable def oV(call:CL)(L:Nat)(C:Nat→Nat)(n:Nat)(z:Bool)(J:Nat)(r:List D)(q:ByteArray)(h i:Int):Option D:=
 ch (cz call L C) O0 GW FinM.canon Tryz.f221 [true,false,true,false] [] n (St.mk (D.slc z J r::D.fn (Fn.func 222) [] [D.snap [D.str q] 0]::jn 5 (D.int .i64 h::D.int .i64 i::jn 10 [])) (zn 19 []))
theorem qo(call:CL)(L:Nat)(C:Nat→Nat)(n:Nat)(K:Bool)(J:Nat)(i:List D)(z:ByteArray)(q h:Int):oV call L C (n+1) K J i z q h=
 (bx (decide (h<q))
 (cb (decide (0≤h∧h<(J:Int)))
 (bn i (Int.toNat h*3+0) fun d=>bX d fun s=>bn i (Int.toNat h*3+1) fun M=>bX M fun U=>bn i (Int.toNat h*3+2) fun O=>bC .i64 O fun x=>bB (call 222 [D.agg [D.str s,D.str U,D.int .i64 x],D.snap [D.str z] 0]) fun r=>bR r fun b=>bx b
 (some (D.int .i64 h))
 (oV call L C n K J i z q (IntKind.wrap .i64 (h+1)))))
 (some (D.int .i64 (-1)))):=by kernel_rfl
theorem D4(call:CL)(L:Nat)(C:Nat→Nat)(r:Bool)(h:Nat)(q:List D)(i:ByteArray):bS (cz call L C) O0 GW FinM.canon Tryz.f221 [D.slc r h q,D.fn (Fn.func 222) [] [D.snap [D.str i] 0]]=
 (oV call L C L r h q i ((h:Int)) 0):=by kernel_rfl
theorem D5(call:CL)(L:Nat)(C:Nat→Nat)(i q:ByteArray)(r:Int)(h:ByteArray):bS (cz call L C) O0 N0 FinM.canon Tryz.f222 [D.agg [D.str i,D.str q,D.int .i64 r],D.snap [D.str h] 0]=
 (some (D.bool (ByteArray.toList i==ByteArray.toList h))):=by kernel_rfl
def GX:bK:=fun p=>match p with
 |26=>nm [0,1,7,8] [] []
 |_=>none
noncomputable def oW(call:CL)(L:Nat)(C:Nat→Nat)(n:Nat)(K:Bool)(M:Nat)(J:List D)(q:ByteArray)(r:Int)(z:Bool)(h i:Int):Option D:=
 ch (cz call L C) O0 GX FinM.canon Tryz.f275 [true,false,true,false] [] n (St.mk (D.slc K M J::D.fn (Fn.func 276) [] [D.snap [D.str q] 0,D.snap [D.int .i64 r] 0,D.snap [D.bool z] 0]::jn 5 (D.int .i64 h::D.int .i64 i::jn 10 [])) (zn 19 []))
theorem qp(call:CL)(L:Nat)(C:Nat→Nat)(n:Nat)(O:Bool)(M:Nat)(i:List D)(z:ByteArray)(J:Int)(K:Bool)(q h:Int):oW call L C (n+1) O M i z J K q h=
 (bx (decide (h<q))
 (cb (decide (0≤h∧h<(M:Int)))
 (bn i (Int.toNat h*5+0) fun d=>bX d fun s=>bn i (Int.toNat h*5+1) fun U=>bX U fun Z=>bn i (Int.toNat h*5+2) fun V=>bC .i64 V fun x=>bn i (Int.toNat h*5+3) fun W=>bC .i64 W fun a1=>bn i (Int.toNat h*5+4) fun Y=>bX Y fun a0=>bB (call 276 [D.agg [D.str s,D.str Z,D.int .i64 x,D.int .i64 a1,D.str a0],D.snap [D.str z] 0,D.snap [D.int .i64 J] 0,D.snap [D.bool K] 0]) fun r=>bR r fun b=>bx b
 (some (D.int .i64 h))
 (oW call L C n O M i z J K q (IntKind.wrap .i64 (h+1)))))
 (some (D.int .i64 (-1)))):=by kernel_rfl
theorem D6(call:CL)(L:Nat)(C:Nat→Nat)(J:Bool)(h:Nat)(z:List D)(i:ByteArray)(q:Int)(r:Bool):bS (cz call L C) O0 GX FinM.canon Tryz.f275 [D.slc J h z,D.fn (Fn.func 276) [] [D.snap [D.str i] 0,D.snap [D.int .i64 q] 0,D.snap [D.bool r] 0]]=
 (oW call L C L J h z i q r ((h:Int)) 0):=by kernel_rfl
theorem D7(call:CL)(L:Nat)(C:Nat→Nat)(h K:ByteArray)(i M:Int)(O q:ByteArray)(z:Int)(J:Bool):bS (cz call L C) O0 N0 FinM.canon Tryz.f276 [D.agg [D.str h,D.str K,D.int .i64 i,D.int .i64 M,D.str O],D.snap [D.str q] 0,D.snap [D.int .i64 z] 0,D.snap [D.bool J] 0]=
 (bx (ByteArray.toList h==ByteArray.toList q)
 (bx (i==z)
 (bB (call 153 [D.agg [D.str h,D.str K,D.int .i64 i,D.int .i64 M,D.str O]]) fun r=>bR r fun b=>some (D.bool (b==J)))
 (some (D.bool false)))
 (some (D.bool false))):=by kernel_rfl
theorem D8(call:CL)(L:Nat)(C:Nat→Nat)(O:Bool)(U:Nat)(M:List D)(W:Bool)(Y:Nat)(V:List D)(a0:Bool)(a1:Nat)(Z:List D)(J:Bool)(K:Nat)(z:List D)(a3:Bool)(a4:Nat)(a2:List D)(a6:Bool)(a7:Nat)(a5:List D)(q:ByteArray)(h:Int)(i:Bool):bS (cz call L C) O0 N0 FinM.canon Tryz.f224 [D.agg [D.slc O U M,D.slc W Y V,D.slc a0 a1 Z,D.slc J K z,D.slc a3 a4 a2,D.slc a6 a7 a5],D.str q,D.int .i64 h,D.bool i]=
 (bB (call 275 [D.slc J K z,D.fn (Fn.func 276) [] [D.snap [D.str q] 0,D.snap [D.int .i64 h] 0,D.snap [D.bool i] 0]]) fun r=>bC .i64 r fun x=>some (D.int .i64 x)):=by kernel_rfl
def Md:bK:=fun p=>match p with
 |26=>nm [1,2,3,4,9] [10] [4,10]
 |_=>none
noncomputable def nu(call:CL)(L:Nat)(C:Nat→Nat)(n:Nat)(r:ByteArray)(h:Int)(q K:Bool)(M:Nat)(z:List D)(U:Bool)(V:Nat)(O:List D)(Y:Bool)(a0:Nat)(W:List D)(a2:Bool)(a3:Nat)(a1:List D)(a5:Bool)(a6:Nat)(a4:List D)(a8:Bool)(a9:Nat)(a7:List D)(i:Int):Option D:=
 ch (cz call L C) O0 Md FinM.canon Tryz.f95 [true,false,true,false] [] n (St.mk (J::D.str r::D.int .i64 h::D.bool q::D.loc 4 0 0::J::J::J::J::D.int .i64 i::jn 32 []) (Z::Z::Z::Z::(1,some (Ob.box [D.slc K M z,D.slc U V O,D.slc Y a0 W,D.slc a2 a3 a1,D.slc a5 a6 a4,D.slc a8 a9 a7] false))::zn 37 []))
theorem sB(call:CL)(L:Nat)(C:Nat→Nat)(n:Nat)(q:ByteArray)(z:Int)(J M:Bool)(O:Nat)(K:List D)(V:Bool)(W:Nat)(U:List D)(Z:Bool)(a0:Nat)(Y:List D)(a1:Bool)(r:Nat)(i:List D)(a3:Bool)(a4:Nat)(a2:List D)(a6:Bool)(a7:Nat)(a5:List D)(h:Int):nu call L C (n+1) q z J M O K V W U Z a0 Y a1 r i a3 a4 a2 a6 a7 a5 h=
 (bx (decide (h<(r:Int)))
 (cb (decide (0≤h∧h<(r:Int)))
 (bn i (Int.toNat h*5+0) fun d=>bX d fun s=>bn i (Int.toNat h*5+1) fun a8=>bX a8 fun ac=>bn i (Int.toNat h*5+2) fun a9=>bC .i64 a9 fun x=>bn i (Int.toNat h*5+3) fun aa=>bC .i64 aa fun _x_1=>bn i (Int.toNat h*5+4) fun ab=>bX ab fun _s_2=>bx (ByteArray.toList s==ByteArray.toList q)
 (bx (x==z)
 (bx ((ByteArray.toList ac==ByteArray.toList q)==J)
 (some (D.int .i64 h))
 (nu call L C n q z J M O K V W U Z a0 Y a1 r i a3 a4 a2 a6 a7 a5 (IntKind.wrap .i64 (h+1))))
 (nu call L C n q z J M O K V W U Z a0 Y a1 r i a3 a4 a2 a6 a7 a5 (IntKind.wrap .i64 (h+1))))
 (nu call L C n q z J M O K V W U Z a0 Y a1 r i a3 a4 a2 a6 a7 a5 (IntKind.wrap .i64 (h+1)))))
 (some (D.int .i64 (-1)))):=by kernel_rfl
theorem GY(call:CL)(L:Nat)(C:Nat→Nat)(z:Bool)(J:Nat)(r:List D)(M:Bool)(O:Nat)(K:List D)(V:Bool)(W:Nat)(U:List D)(Z:Bool)(a0:Nat)(Y:List D)(a2:Bool)(a3:Nat)(a1:List D)(a5:Bool)(a6:Nat)(a4:List D)(q:ByteArray)(h:Int)(i:Bool):bS (cz call L C) O0 Md FinM.canon Tryz.f95 [D.agg [D.slc z J r,D.slc M O K,D.slc V W U,D.slc Z a0 Y,D.slc a2 a3 a1,D.slc a5 a6 a4],D.str q,D.int .i64 h,D.bool i]=
 (nu call L C L q h i z J r M O K V W U Z a0 Y a2 a3 a1 a5 a6 a4 0):=by kernel_rfl
def GZ:bK:=fun p=>match p with
 |58=>nm [1,3] [] [1]
 |_=>none
noncomputable def oX(call:CL)(L:Nat)(C:Nat→Nat)(n:Nat)(i:ByteArray)(r:Bool)(z:Nat)(q:List D)(K h:Int):Option D:=
 ch (cz call L C) O0 GZ FinM.canon Tryz.f150 (bt 5 11) [] n (St.mk (J::D.loc 1 0 0::J::D.int .i64 h::jn 29 []) (Z::(1,some (Ob.box [D.str i,D.slc r z q,D.int .i64 K] false))::zn 31 []))
theorem qq(call:CL)(L:Nat)(C:Nat→Nat)(n:Nat)(r:ByteArray)(z:Bool)(i:Nat)(q:List D)(J h:Int):oX call L C (n+1) r z i q J h=
 (bx (decide (h<(i:Int)))
 (cb (decide (0≤h∧h<(i:Int)))
 (bn q (Int.toNat h*2+1) fun d=>bX d fun s=>bx (decide (((ByteArray.size s):Int)>60))
 (some (D.bool false))
 (oX call L C n r z i q J (IntKind.wrap .i64 (h+1)))))
 (some (D.bool true))):=by kernel_rfl
theorem D9(call:CL)(L:Nat)(C:Nat→Nat)(h:ByteArray)(r:Bool)(i:Nat)(q:List D)(z:Int):bS (cz call L C) O0 GZ FinM.canon Tryz.f150 [D.agg [D.str h,D.slc r i q,D.int .i64 z]]=
 (bx (decide (((ByteArray.size h):Int)>60))
 (some (D.bool false))
 (bx (decide ((i:Int)>39))
 (some (D.bool false))
 (oX call L C L h r i q z 0))):=by kernel_rfl
def G0:bK:=fun p=>match p with
 |26=>nm [1,2,5] [] [2]
 |_=>none
noncomputable def oY(call:CL)(L:Nat)(C:Nat→Nat)(n:Nat)(i:ByteArray)(r:Bool)(z:Nat)(q:List D)(M:Bool)(O:Nat)(K:List D)(V:Bool)(W:Nat)(U:List D)(a0:Bool)(a1:Nat)(Y:List D)(a3:Bool)(a4:Nat)(a2:List D)(a6:Bool)(a7:Nat)(a5:List D)(h:Int):Option D:=
 ch (cz call L C) O0 G0 FinM.canon Tryz.f151 [true,false,true,false] [] n (St.mk (J::D.str i::D.loc 2 0 0::J::J::D.int .i64 h::jn 16 []) (Z::Z::(1,some (Ob.box [D.slc r z q,D.slc M O K,D.slc V W U,D.slc a0 a1 Y,D.slc a3 a4 a2,D.slc a6 a7 a5] false))::zn 19 []))
theorem qr(call:CL)(L:Nat)(C:Nat→Nat)(n:Nat)(q:ByteArray)(J:Bool)(K:Nat)(z:List D)(O:Bool)(U:Nat)(M:List D)(W:Bool)(Y:Nat)(V:List D)(a0:Bool)(a1:Nat)(Z:List D)(a3:Bool)(a4:Nat)(a2:List D)(a5:Bool)(i:Nat)(r:List D)(h:Int):oY call L C (n+1) q J K z O U M W Y V a0 a1 Z a3 a4 a2 a5 i r h=
 (bx (decide (h<(i:Int)))
 (cb (decide (0≤h∧h<(i:Int)))
 (bn r (Int.toNat h*3+0) fun d=>bX d fun s=>bx (ByteArray.toList s==ByteArray.toList q)
 (some (D.int .i64 h))
 (oY call L C n q J K z O U M W Y V a0 a1 Z a3 a4 a2 a5 i r (IntKind.wrap .i64 (h+1)))))
 (some (D.int .i64 (-1)))):=by kernel_rfl
theorem Ea(call:CL)(L:Nat)(C:Nat→Nat)(q:Bool)(r:Nat)(i:List D)(J:Bool)(K:Nat)(z:List D)(O:Bool)(U:Nat)(M:List D)(W:Bool)(Y:Nat)(V:List D)(a0:Bool)(a1:Nat)(Z:List D)(a3:Bool)(a4:Nat)(a2:List D)(h:ByteArray):bS (cz call L C) O0 G0 FinM.canon Tryz.f151 [D.agg [D.slc q r i,D.slc J K z,D.slc O U M,D.slc W Y V,D.slc a0 a1 Z,D.slc a3 a4 a2],D.str h]=
 (oY call L C L h q r i J K z O U M W Y V a0 a1 Z a3 a4 a2 0):=by kernel_rfl
theorem Eb(call:CL)(L:Nat)(C:Nat→Nat)(h:Int):bS (cz call L C) O0 N0 FinM.canon Tryz.f284 [D.int .i64 h]=
 (bx (decide (h≥1))
 (some (D.bool (decide (h≤99))))
 (some (D.bool false))):=by kernel_rfl
theorem Ec(call:CL)(L:Nat)(C:Nat→Nat)(h:Int):bS (cz call L C) O0 N0 FinM.canon Tryz.f285 [D.int .i64 h]=
 (some (D.bool (h==0))):=by kernel_rfl
theorem Ed(call:CL)(L:Nat)(C:Nat→Nat):bS (cz call L C) O0 N0 FinM.canon Tryz.f231 []=
 (some (D.msnap ([D.str (ByteArray.mk #[])]++[D.str (ByteArray.mk #[99])]++[D.str (ByteArray.mk #[120])]++[D.str (ByteArray.mk #[45])]) ([D.agg [D.fn (Fn.func 284) [] [],D.fn (Fn.func 138) [] []]]++[D.agg [D.fn (Fn.func 284) [] [],D.fn (Fn.func 286) [] []]]++[D.agg [D.fn (Fn.func 285) [] [],D.fn (Fn.func 287) [] []]]++[D.agg [D.fn (Fn.func 285) [] [],D.fn (Fn.func 288) [] []]]))):=by kernel_rfl
theorem Ee(call:CL)(L:Nat)(C:Nat→Nat)(M:Bool)(O:Nat)(K:List D)(V:Bool)(W:Nat)(U:List D)(Z:Bool)(a0:Nat)(Y:List D)(a1:Bool)(i:Nat)(h:List D)(a3:Bool)(a4:Nat)(a2:List D)(a6:Bool)(a7:Nat)(a5:List D)(J:ByteArray)(q:Int)(z:Bool):bS (cz call L C) O0 N0 FinM.canon Tryz.f156 [D.agg [D.slc M O K,D.slc V W U,D.slc Z a0 Y,D.slc a1 i h,D.slc a3 a4 a2,D.slc a6 a7 a5],D.str J,D.int .i64 q,D.bool z]=
 (bB (call 224 [D.agg [D.slc M O K,D.slc V W U,D.slc Z a0 Y,D.slc a1 i h,D.slc a3 a4 a2,D.slc a6 a7 a5],D.str J,D.int .i64 q,D.bool z]) fun r=>bC .i64 r fun x=>bx (decide (x<0))
 (some (D.tup [D.agg [D.int .i64 0,D.str (ByteArray.mk #[45])],D.bool false]))
 (cb (decide (0≤x∧x<(i:Int)))
 (bn h (Int.toNat x*5+3+0) fun d=>bC .i64 d fun a9=>bn h (Int.toNat x*5+3+1) fun a8=>bX a8 fun s=>some (D.tup [D.agg [D.int .i64 a9,D.str s],D.bool true])))):=by kernel_rfl
def zE:bK:=fun p=>match p with
 |58=>nm [1,2,3,7,15,16] [9,11] [3,9,11,47]
 |_=>none
noncomputable def dA(call:CL)(L:Nat)(C:Nat→Nat)(n:Nat)(q:ByteArray)(z:Bool)(K:Nat)(r:List D)(O:Bool)(U:Nat)(M:List D)(W:Bool)(Y:Nat)(V:List D)(a1:Bool)(a2:Nat)(a0:List D)(a4:Bool)(a5:Nat)(a3:List D)(a7:Bool)(a8:Nat)(a6:List D)(vl:Ow)(h i:Int):Option D:=
 ch (cz call L C) O0 zE FinM.canon Tryz.f157 (bt 5 11) [] n (St.mk (J::D.str q::D.fn (Fn.func 158) [] []::D.loc 3 0 0::J::J::J::ou 47 vl::jn 7 (D.int .i64 h::D.int .i64 i::jn 33 [])) (Z::Z::Z::(1,some (Ob.box [D.slc z K r,D.slc O U M,D.slc W Y V,D.slc a1 a2 a0,D.slc a4 a5 a3,D.slc a7 a8 a6] false))::zn 43 [ov 3 1 vl,Z,Z]))
theorem mC(call:CL)(L:Nat)(C:Nat→Nat)(n:Nat)(i:ByteArray)(z:Bool)(J:Nat)(q:List D)(M:Bool)(O:Nat)(K:List D)(V:Bool)(W:Nat)(U:List D)(Z:Bool)(a0:Nat)(Y:List D)(a2:Bool)(a3:Nat)(a1:List D)(a5:Bool)(a6:Nat)(a4:List D)(a7 h:Int):dA call L C (n+1) i z J q M O K V W U Z a0 Y a2 a3 a1 a5 a6 a4 (Ow.nil) a7 h=
 (bx (decide (h<a7))
 (bB (call 156 [D.agg [D.slc z J q,D.slc M O K,D.slc V W U,D.slc Z a0 Y,D.slc a2 a3 a1,D.slc a5 a6 a4],D.str i,D.int .i64 (IntKind.wrap .i64 (h+1)),D.bool false]) fun r=>gd r 2 fun c=>bn c 0 fun d=>gy d 2 fun a8=>bn a8 0 fun ag=>bC .i64 ag fun x=>bn a8 1 fun ah=>bX ah fun s=>bn c 1 fun ai=>bR ai fun b=>bB (call 156 [D.agg [D.slc z J q,D.slc M O K,D.slc V W U,D.slc Z a0 Y,D.slc a2 a3 a1,D.slc a5 a6 a4],D.str i,D.int .i64 (IntKind.wrap .i64 (h+1)),D.bool true]) fun an=>gd an 2 fun a9=>bn a9 0 fun aj=>gy aj 2 fun aa=>bn aa 0 fun ak=>bC .i64 ak fun ac=>bn aa 1 fun al=>bX al fun ab=>bn a9 1 fun am=>bR am fun ad=>bx b
 (bB (call 158 [D.agg [D.int .i64 x,D.str s],D.agg [D.int .i64 ac,D.str ab],D.bool ad]) fun ao=>bR ao fun ae=>bx ae
 (dA call L C n i z J q M O K V W U Z a0 Y a2 a3 a1 a5 a6 a4 (Ow.own 1 [D.int .i64 (IntKind.wrap .i64 (h+1))]) a7 (IntKind.wrap .i64 (h+1)))
 (dA call L C n i z J q M O K V W U Z a0 Y a2 a3 a1 a5 a6 a4 (Ow.nil) a7 (IntKind.wrap .i64 (h+1))))
 (bB (call 158 [D.agg [D.int .i64 x,D.str s],D.agg [D.int .i64 ac,D.str ab],D.bool false]) fun ap=>bR ap fun af=>bx af
 (dA call L C n i z J q M O K V W U Z a0 Y a2 a3 a1 a5 a6 a4 (Ow.own 1 [D.int .i64 (IntKind.wrap .i64 (h+1))]) a7 (IntKind.wrap .i64 (h+1)))
 (dA call L C n i z J q M O K V W U Z a0 Y a2 a3 a1 a5 a6 a4 (Ow.nil) a7 (IntKind.wrap .i64 (h+1)))))
 (some (D.slc true 0 []))):=by kernel_rfl
theorem mD(call:CL)(L:Nat)(C:Nat→Nat)(n:Nat)(q:ByteArray)(z:Bool)(J:Nat)(r:List D)(M:Bool)(O:Nat)(K:List D)(V:Bool)(W:Nat)(U:List D)(Z:Bool)(a0:Nat)(Y:List D)(a2:Bool)(a3:Nat)(a1:List D)(a5:Bool)(a6:Nat)(a4:List D)(i:Nat)(a8:List D)(a7 h:Int):dA call L C (n+1) q z J r M O K V W U Z a0 Y a2 a3 a1 a5 a6 a4 (Ow.own i a8) a7 h=
 (bx (decide (h<a7))
 (bB (call 156 [D.agg [D.slc z J r,D.slc M O K,D.slc V W U,D.slc Z a0 Y,D.slc a2 a3 a1,D.slc a5 a6 a4],D.str q,D.int .i64 (IntKind.wrap .i64 (h+1)),D.bool false]) fun av=>gd av 2 fun a9=>bn a9 0 fun ar=>gy ar 2 fun aa=>bn aa 0 fun au=>bC .i64 au fun af=>bn aa 1 fun al=>bX al fun ad=>bn a9 1 fun am=>bR am fun ah=>bB (call 156 [D.agg [D.slc z J r,D.slc M O K,D.slc V W U,D.slc Z a0 Y,D.slc a2 a3 a1,D.slc a5 a6 a4],D.str q,D.int .i64 (IntKind.wrap .i64 (h+1)),D.bool true]) fun aw=>gd aw 2 fun ab=>bn ab 0 fun an=>gy an 2 fun ac=>bn ac 0 fun ao=>bC .i64 ao fun ag=>bn ac 1 fun ap=>bX ap fun ae=>bn ab 1 fun aq=>bR aq fun ai=>bx ah
 (bB (call 158 [D.agg [D.int .i64 af,D.str ad],D.agg [D.int .i64 ag,D.str ae],D.bool ai]) fun ax=>bR ax fun aj=>bx aj
 (cb (decide ((i+1)*8≤cu∧i+1≤9223372036854775807))
 (dA call L C n q z J r M O K V W U Z a0 Y a2 a3 a1 a5 a6 a4 (Ow.own (i+1) (a8++[D.int .i64 (IntKind.wrap .i64 (h+1))])) a7 (IntKind.wrap .i64 (h+1))))
 (dA call L C n q z J r M O K V W U Z a0 Y a2 a3 a1 a5 a6 a4 (Ow.own i a8) a7 (IntKind.wrap .i64 (h+1))))
 (bB (call 158 [D.agg [D.int .i64 af,D.str ad],D.agg [D.int .i64 ag,D.str ae],D.bool false]) fun ay=>bR ay fun ak=>bx ak
 (cb (decide ((i+1)*8≤cu∧i+1≤9223372036854775807))
 (dA call L C n q z J r M O K V W U Z a0 Y a2 a3 a1 a5 a6 a4 (Ow.own (i+1) (a8++[D.int .i64 (IntKind.wrap .i64 (h+1))])) a7 (IntKind.wrap .i64 (h+1))))
 (dA call L C n q z J r M O K V W U Z a0 Y a2 a3 a1 a5 a6 a4 (Ow.own i a8) a7 (IntKind.wrap .i64 (h+1)))))
 (some (D.slc false i a8))):=by kernel_rfl
theorem B1(call:CL)(L:Nat)(C:Nat→Nat)(r:Bool)(z:Nat)(q:List D)(K:Bool)(M:Nat)(J:List D)(U:Bool)(h:Nat)(O:List D)(W:Bool)(Y:Nat)(V:List D)(a0:Bool)(a1:Nat)(Z:List D)(a3:Bool)(a4:Nat)(a2:List D)(i:ByteArray):bS (cz call L C) O0 zE FinM.canon Tryz.f157 [D.agg [D.slc r z q,D.slc K M J,D.slc U h O,D.slc W Y V,D.slc a0 a1 Z,D.slc a3 a4 a2],D.str i,D.fn (Fn.func 158) [] []]=
 (dA call L C L i r z q K M J U h O W Y V a0 a1 Z a3 a4 a2 (Ow.nil) ((h:Int)) 0):=by kernel_rfl
noncomputable def dB(call:CL)(L:Nat)(C:Nat→Nat)(n:Nat)(q:ByteArray)(z:Bool)(K:Nat)(r:List D)(O:Bool)(U:Nat)(M:List D)(W:Bool)(Y:Nat)(V:List D)(a1:Bool)(a2:Nat)(a0:List D)(a4:Bool)(a5:Nat)(a3:List D)(a7:Bool)(a8:Nat)(a6:List D)(vl:Ow)(h i:Int):Option D:=
 ch (cz call L C) O0 zE FinM.canon Tryz.f157 (bt 5 11) [] n (St.mk (J::D.str q::D.fn (Fn.func 159) [] []::D.loc 3 0 0::J::J::J::ou 47 vl::jn 7 (D.int .i64 h::D.int .i64 i::jn 33 [])) (Z::Z::Z::(1,some (Ob.box [D.slc z K r,D.slc O U M,D.slc W Y V,D.slc a1 a2 a0,D.slc a4 a5 a3,D.slc a7 a8 a6] false))::zn 43 [ov 3 1 vl,Z,Z]))
theorem mF(call:CL)(L:Nat)(C:Nat→Nat)(n:Nat)(i:ByteArray)(z:Bool)(J:Nat)(q:List D)(M:Bool)(O:Nat)(K:List D)(V:Bool)(W:Nat)(U:List D)(Z:Bool)(a0:Nat)(Y:List D)(a2:Bool)(a3:Nat)(a1:List D)(a5:Bool)(a6:Nat)(a4:List D)(a7 h:Int):dB call L C (n+1) i z J q M O K V W U Z a0 Y a2 a3 a1 a5 a6 a4 (Ow.nil) a7 h=
 (bx (decide (h<a7))
 (bB (call 156 [D.agg [D.slc z J q,D.slc M O K,D.slc V W U,D.slc Z a0 Y,D.slc a2 a3 a1,D.slc a5 a6 a4],D.str i,D.int .i64 (IntKind.wrap .i64 (h+1)),D.bool false]) fun r=>gd r 2 fun c=>bn c 0 fun d=>gy d 2 fun a8=>bn a8 0 fun ag=>bC .i64 ag fun x=>bn a8 1 fun ah=>bX ah fun s=>bn c 1 fun ai=>bR ai fun b=>bB (call 156 [D.agg [D.slc z J q,D.slc M O K,D.slc V W U,D.slc Z a0 Y,D.slc a2 a3 a1,D.slc a5 a6 a4],D.str i,D.int .i64 (IntKind.wrap .i64 (h+1)),D.bool true]) fun an=>gd an 2 fun a9=>bn a9 0 fun aj=>gy aj 2 fun aa=>bn aa 0 fun ak=>bC .i64 ak fun ac=>bn aa 1 fun al=>bX al fun ab=>bn a9 1 fun am=>bR am fun ad=>bx b
 (bB (call 159 [D.agg [D.int .i64 x,D.str s],D.agg [D.int .i64 ac,D.str ab],D.bool ad]) fun ao=>bR ao fun ae=>bx ae
 (dB call L C n i z J q M O K V W U Z a0 Y a2 a3 a1 a5 a6 a4 (Ow.own 1 [D.int .i64 (IntKind.wrap .i64 (h+1))]) a7 (IntKind.wrap .i64 (h+1)))
 (dB call L C n i z J q M O K V W U Z a0 Y a2 a3 a1 a5 a6 a4 (Ow.nil) a7 (IntKind.wrap .i64 (h+1))))
 (bB (call 159 [D.agg [D.int .i64 x,D.str s],D.agg [D.int .i64 ac,D.str ab],D.bool false]) fun ap=>bR ap fun af=>bx af
 (dB call L C n i z J q M O K V W U Z a0 Y a2 a3 a1 a5 a6 a4 (Ow.own 1 [D.int .i64 (IntKind.wrap .i64 (h+1))]) a7 (IntKind.wrap .i64 (h+1)))
 (dB call L C n i z J q M O K V W U Z a0 Y a2 a3 a1 a5 a6 a4 (Ow.nil) a7 (IntKind.wrap .i64 (h+1)))))
 (some (D.slc true 0 []))):=by kernel_rfl
theorem mG(call:CL)(L:Nat)(C:Nat→Nat)(n:Nat)(q:ByteArray)(z:Bool)(J:Nat)(r:List D)(M:Bool)(O:Nat)(K:List D)(V:Bool)(W:Nat)(U:List D)(Z:Bool)(a0:Nat)(Y:List D)(a2:Bool)(a3:Nat)(a1:List D)(a5:Bool)(a6:Nat)(a4:List D)(i:Nat)(a8:List D)(a7 h:Int):dB call L C (n+1) q z J r M O K V W U Z a0 Y a2 a3 a1 a5 a6 a4 (Ow.own i a8) a7 h=
 (bx (decide (h<a7))
 (bB (call 156 [D.agg [D.slc z J r,D.slc M O K,D.slc V W U,D.slc Z a0 Y,D.slc a2 a3 a1,D.slc a5 a6 a4],D.str q,D.int .i64 (IntKind.wrap .i64 (h+1)),D.bool false]) fun av=>gd av 2 fun a9=>bn a9 0 fun ar=>gy ar 2 fun aa=>bn aa 0 fun au=>bC .i64 au fun af=>bn aa 1 fun al=>bX al fun ad=>bn a9 1 fun am=>bR am fun ah=>bB (call 156 [D.agg [D.slc z J r,D.slc M O K,D.slc V W U,D.slc Z a0 Y,D.slc a2 a3 a1,D.slc a5 a6 a4],D.str q,D.int .i64 (IntKind.wrap .i64 (h+1)),D.bool true]) fun aw=>gd aw 2 fun ab=>bn ab 0 fun an=>gy an 2 fun ac=>bn ac 0 fun ao=>bC .i64 ao fun ag=>bn ac 1 fun ap=>bX ap fun ae=>bn ab 1 fun aq=>bR aq fun ai=>bx ah
 (bB (call 159 [D.agg [D.int .i64 af,D.str ad],D.agg [D.int .i64 ag,D.str ae],D.bool ai]) fun ax=>bR ax fun aj=>bx aj
 (cb (decide ((i+1)*8≤cu∧i+1≤9223372036854775807))
 (dB call L C n q z J r M O K V W U Z a0 Y a2 a3 a1 a5 a6 a4 (Ow.own (i+1) (a8++[D.int .i64 (IntKind.wrap .i64 (h+1))])) a7 (IntKind.wrap .i64 (h+1))))
 (dB call L C n q z J r M O K V W U Z a0 Y a2 a3 a1 a5 a6 a4 (Ow.own i a8) a7 (IntKind.wrap .i64 (h+1))))
 (bB (call 159 [D.agg [D.int .i64 af,D.str ad],D.agg [D.int .i64 ag,D.str ae],D.bool false]) fun ay=>bR ay fun ak=>bx ak
 (cb (decide ((i+1)*8≤cu∧i+1≤9223372036854775807))
 (dB call L C n q z J r M O K V W U Z a0 Y a2 a3 a1 a5 a6 a4 (Ow.own (i+1) (a8++[D.int .i64 (IntKind.wrap .i64 (h+1))])) a7 (IntKind.wrap .i64 (h+1))))
 (dB call L C n q z J r M O K V W U Z a0 Y a2 a3 a1 a5 a6 a4 (Ow.own i a8) a7 (IntKind.wrap .i64 (h+1)))))
 (some (D.slc false i a8))):=by kernel_rfl
theorem B2(call:CL)(L:Nat)(C:Nat→Nat)(r:Bool)(z:Nat)(q:List D)(K:Bool)(M:Nat)(J:List D)(U:Bool)(h:Nat)(O:List D)(W:Bool)(Y:Nat)(V:List D)(a0:Bool)(a1:Nat)(Z:List D)(a3:Bool)(a4:Nat)(a2:List D)(i:ByteArray):bS (cz call L C) O0 zE FinM.canon Tryz.f157 [D.agg [D.slc r z q,D.slc K M J,D.slc U h O,D.slc W Y V,D.slc a0 a1 Z,D.slc a3 a4 a2],D.str i,D.fn (Fn.func 159) [] []]=
 (dB call L C L i r z q K M J U h O W Y V a0 a1 Z a3 a4 a2 (Ow.nil) ((h:Int)) 0):=by kernel_rfl
theorem Ef(call:CL)(L:Nat)(C:Nat→Nat)(i:Int)(q:ByteArray)(r:Int)(z:ByteArray)(h:Bool):bS (cz call L C) O0 N0 FinM.canon Tryz.f158 [D.agg [D.int .i64 i,D.str q],D.agg [D.int .i64 r,D.str z],D.bool h]=
 (some (D.bool !h)):=by kernel_rfl
theorem Eg(call:CL)(L:Nat)(C:Nat→Nat)(h:Int)(i:ByteArray)(q:Int)(r:ByteArray)(z:Bool):bS (cz call L C) O0 N0 FinM.canon Tryz.f159 [D.agg [D.int .i64 h,D.str i],D.agg [D.int .i64 q,D.str r],D.bool z]=
 (bx z
 (some (D.bool !(h==q&&(ByteArray.toList i==ByteArray.toList r&&true))))
 (some (D.bool false))):=by kernel_rfl
def Me:bK:=fun p=>match p with
 |58=>nm [1,2,4,5,13,14] [7] [2,4,5,7,29]
 |_=>none
noncomputable def nv(call:CL)(L:Nat)(C:Nat→Nat)(n:Nat)(i:ByteArray)(r:Bool)(z:Nat)(q:List D)(M:Bool)(O:Nat)(K:List D)(V:Bool)(W:Nat)(U:List D)(a0:Bool)(a1:Nat)(Y:List D)(a3:Bool)(a4:Nat)(a2:List D)(a6:Bool)(a7:Nat)(a5:List D)(t13 t14:Int)(h:Ow):Option D:=
 ch (cz call L C) O0 Me FinM.canon Tryz.f91 (bt 5 11) [] n (St.mk (J::D.str i::D.loc 2 0 0::J::D.loc 4 0 0::D.loc 5 0 0::jn 7 (D.int .i64 t13::D.int .i64 t14::jn 18 [])) (Z::Z::(1,some (Ob.box [D.slc r z q,D.slc M O K,D.slc V W U,D.slc a0 a1 Y,D.slc a3 a4 a2,D.slc a6 a7 a5] false))::Z::(1,some (Ob.box [D.str (ByteArray.mk #[]),D.nils] false))::(1,some (Ob.box [D.str i,ou 29 h] false))::zn 23 [ov 78 2 h,Z,Z,Z]))
theorem qs(call:CL)(L:Nat)(C:Nat→Nat)(n:Nat)(h:ByteArray)(q:Bool)(z:Nat)(i:List D)(K:Bool)(M:Nat)(J:List D)(U:Bool)(V:Nat)(O:List D)(Y:Bool)(Z:Nat)(W:List D)(a1:Bool)(a2:Nat)(a0:List D)(a4:Bool)(a5:Nat)(a3:List D)(t13 t14:Int):nv call L C (n+1) h q z i K M J U V O Y Z W a1 a2 a0 a4 a5 a3 t13 t14 (Ow.nil)=
 (bx (decide (t14<t13))
 (bB (call 156 [D.agg [D.slc q z i,D.slc K M J,D.slc U V O,D.slc Y Z W,D.slc a1 a2 a0,D.slc a4 a5 a3],D.str h,D.int .i64 (IntKind.wrap .i64 (t14+1)),D.bool false]) fun r=>gd r 2 fun c=>bn c 0 fun d=>gy d 2 fun a6=>bn a6 0 fun a7=>bC .i64 a7 fun x=>bn a6 1 fun a8=>bX a8 fun s=>bn c 1 fun a9=>bR a9 fun _b=>nv call L C n h q z i K M J U V O Y Z W a1 a2 a0 a4 a5 a3 t13 (IntKind.wrap .i64 (t14+1)) (Ow.own 1 [D.int .i64 x,D.str s]))
 (some (D.agg [D.str h,D.slc true 0 []]))):=by kernel_rfl
theorem qt(call:CL)(L:Nat)(C:Nat→Nat)(n:Nat)(i:ByteArray)(z:Bool)(J:Nat)(r:List D)(M:Bool)(O:Nat)(K:List D)(V:Bool)(W:Nat)(U:List D)(Z:Bool)(a0:Nat)(Y:List D)(a2:Bool)(a3:Nat)(a1:List D)(a5:Bool)(a6:Nat)(a4:List D)(t13 t14:Int)(h:Nat)(q:List D):nv call L C (n+1) i z J r M O K V W U Z a0 Y a2 a3 a1 a5 a6 a4 t13 t14 (Ow.own h q)=
 (bx (decide (t14<t13))
 (bB (call 156 [D.agg [D.slc z J r,D.slc M O K,D.slc V W U,D.slc Z a0 Y,D.slc a2 a3 a1,D.slc a5 a6 a4],D.str i,D.int .i64 (IntKind.wrap .i64 (t14+1)),D.bool false]) fun ad=>gd ad 2 fun a7=>bn a7 0 fun a9=>gy a9 2 fun a8=>bn a8 0 fun aa=>bC .i64 aa fun af=>bn a8 1 fun ab=>bX ab fun ae=>bn a7 1 fun ac=>bR ac fun _b_1=>cb (decide ((h+1)*24≤cu∧h+1≤9223372036854775807))
 (nv call L C n i z J r M O K V W U Z a0 Y a2 a3 a1 a5 a6 a4 t13 (IntKind.wrap .i64 (t14+1)) (Ow.own (h+1) (q++[D.int .i64 af,D.str ae]))))
 (some (D.agg [D.str i,D.slc false h q]))):=by kernel_rfl
theorem G1(call:CL)(L:Nat)(C:Nat→Nat)(r:Bool)(z:Nat)(q:List D)(K:Bool)(M:Nat)(J:List D)(U:Bool)(h:Nat)(O:List D)(W:Bool)(Y:Nat)(V:List D)(a0:Bool)(a1:Nat)(Z:List D)(a3:Bool)(a4:Nat)(a2:List D)(i:ByteArray):bS (cz call L C) O0 Me FinM.canon Tryz.f91 [D.agg [D.slc r z q,D.slc K M J,D.slc U h O,D.slc W Y V,D.slc a0 a1 Z,D.slc a3 a4 a2],D.str i]=
 (nv call L C L i r z q K M J U h O W Y V a0 a1 Z a3 a4 a2 ((h:Int)) 0 (Ow.nil)):=by kernel_rfl
theorem G2(call:CL)(L:Nat)(C:Nat→Nat)(q:Bool)(z:Nat)(i:List D)(K:Bool)(M:Nat)(J:List D)(U:Bool)(V:Nat)(O:List D)(Y:Bool)(Z:Nat)(W:List D)(a1:Bool)(a2:Nat)(a0:List D)(a4:Bool)(a5:Nat)(a3:List D)(h:ByteArray):bS (cz call L C) O0 N0 FinM.canon Tryz.f92 [D.agg [D.slc q z i,D.slc K M J,D.slc U V O,D.slc Y Z W,D.slc a1 a2 a0,D.slc a4 a5 a3],D.str h]=
 (bB (call 157 [D.agg [D.slc q z i,D.slc K M J,D.slc U V O,D.slc Y Z W,D.slc a1 a2 a0,D.slc a4 a5 a3],D.str h,D.fn (Fn.func 158) [] []]) fun r=>cU r fun f n c=>some (D.slc f n c)):=by kernel_rfl
theorem G3(call:CL)(L:Nat)(C:Nat→Nat)(q:Bool)(z:Nat)(i:List D)(K:Bool)(M:Nat)(J:List D)(U:Bool)(V:Nat)(O:List D)(Y:Bool)(Z:Nat)(W:List D)(a1:Bool)(a2:Nat)(a0:List D)(a4:Bool)(a5:Nat)(a3:List D)(h:ByteArray):bS (cz call L C) O0 N0 FinM.canon Tryz.f93 [D.agg [D.slc q z i,D.slc K M J,D.slc U V O,D.slc Y Z W,D.slc a1 a2 a0,D.slc a4 a5 a3],D.str h]=
 (bB (call 157 [D.agg [D.slc q z i,D.slc K M J,D.slc U V O,D.slc Y Z W,D.slc a1 a2 a0,D.slc a4 a5 a3],D.str h,D.fn (Fn.func 159) [] []]) fun r=>cU r fun f n c=>some (D.slc f n c)):=by kernel_rfl
theorem G4(call:CL)(L:Nat)(C:Nat→Nat)(z:Bool)(J:Nat)(q:List D)(M:Bool)(O:Nat)(K:List D)(V:Bool)(h:Nat)(U:List D)(Y:Bool)(Z:Nat)(W:List D)(a1:Bool)(a2:Nat)(a0:List D)(a4:Bool)(a5:Nat)(a3:List D)(i:ByteArray):bS (cz call L C) O0 N0 FinM.canon Tryz.f94 [D.agg [D.slc z J q,D.slc M O K,D.slc V h U,D.slc Y Z W,D.slc a1 a2 a0,D.slc a4 a5 a3],D.str i]=
 (bB (call 119 [D.bool ((h:Int)==0),D.int .i64 12]) fun r=>bC .i64 r fun x=>bB (call 92 [D.agg [D.slc z J q,D.slc M O K,D.slc V h U,D.slc Y Z W,D.slc a1 a2 a0,D.slc a4 a5 a3],D.str i]) fun a7=>cU a7 fun _f n _c=>bB (call 119 [D.bool (decide ((n:Int)>0)),D.int .i64 7]) fun a8=>bC .i64 a8 fun ac=>bB (call 93 [D.agg [D.slc z J q,D.slc M O K,D.slc V h U,D.slc Y Z W,D.slc a1 a2 a0,D.slc a4 a5 a3],D.str i]) fun a9=>cU a9 fun _f_1 a6 _c_1=>bB (call 119 [D.bool (decide ((a6:Int)>0)),D.int .i64 29]) fun aa=>bC .i64 aa fun ad=>bB (call 87 [D.slc true 3 [D.int .i64 x,D.int .i64 ac,D.int .i64 ad]]) fun ab=>bC .i64 ab fun ae=>some (D.int .i64 ae)):=by kernel_rfl
theorem G5(call:CL)(L:Nat)(C:Nat→Nat)(i:Bool)(q:Nat)(h:List D)(J:Bool)(K:Nat)(z:List D)(O:Bool)(U:Nat)(M:List D)(W:Bool)(Y:Nat)(V:List D)(a0:Bool)(a1:Nat)(Z:List D)(a3:Bool)(a4:Nat)(a2:List D)(a5:ByteArray):bS (cz call L C) O0 N0 FinM.canon Tryz.f90 [D.agg [D.slc i q h,D.slc J K z,D.slc O U M,D.slc W Y V,D.slc a0 a1 Z,D.slc a3 a4 a2],D.str a5]=
 (bB (call 17 [D.agg [D.slc i q h,D.slc J K z,D.slc O U M,D.slc W Y V,D.slc a0 a1 Z,D.slc a3 a4 a2]]) fun r=>bC .i64 r fun x=>bx (x !=0)
 (some (D.int .i64 x))
 (bB (call 154 [D.agg [D.slc i q h,D.slc J K z,D.slc O U M,D.slc W Y V,D.slc a0 a1 Z,D.slc a3 a4 a2],D.str a5]) fun a6=>bC .i64 a6 fun a8=>bB (call 119 [D.bool (decide (a8<0)),D.int .i64 10]) fun a7=>bC .i64 a7 fun a9=>some (D.int .i64 a9))):=by kernel_rfl
def Mf:bK:=fun p=>match p with
 |58=>nm [1,2,4,5,6] [7] [2,4,5,7,35]
 |_=>none
noncomputable def j4(call:CL)(L:Nat)(C:Nat→Nat)(n:Nat)(i:ByteArray)(z:Bool)(K:Nat)(r:List D)(O:Bool)(U:Nat)(M:List D)(W:Bool)(Y:Nat)(V:List D)(a1:Bool)(a2:Nat)(a0:List D)(a4:Bool)(a5:Nat)(a3:List D)(a7:Bool)(a8:Nat)(a6:List D)(q:Int)(h:Ow):Option D:=
 ch (cz call L C) O0 Mf FinM.canon Tryz.f24 (bt 5 11) [] n (St.mk (J::D.str i::D.loc 2 0 0::J::D.loc 4 0 0::D.loc 5 0 0::D.int .i64 q::jn 31 []) (Z::Z::(1,some (Ob.box [D.slc z K r,D.slc O U M,D.slc W Y V,D.slc a1 a2 a0,D.slc a4 a5 a3,D.slc a7 a8 a6] false))::Z::(1,some (Ob.box [D.str (ByteArray.mk #[]),D.nils] false))::(1,some (Ob.box [D.str i,ou 35 h] false))::zn 29 [ov 78 2 h,Z,Z]))
theorem lJ(call:CL)(L:Nat)(C:Nat→Nat)(n:Nat)(q:ByteArray)(M:Bool)(O:Nat)(K:List D)(V:Bool)(W:Nat)(U:List D)(Z:Bool)(z:Nat)(Y:List D)(a0:Bool)(J:Nat)(h:List D)(a2:Bool)(a3:Nat)(a1:List D)(a5:Bool)(a6:Nat)(a4:List D)(i:Int):j4 call L C (n+1) q M O K V W U Z z Y a0 J h a2 a3 a1 a5 a6 a4 i (Ow.nil)=
 (bx (decide (i≤(z:Int)))
 (bB (call 95 [D.agg [D.slc M O K,D.slc V W U,D.slc Z z Y,D.slc a0 J h,D.slc a2 a3 a1,D.slc a5 a6 a4],D.str q,D.int .i64 i,D.bool false]) fun r=>bC .i64 r fun x=>bx (decide (x≥0))
 (cb (decide (0≤x∧x<(J:Int)))
 (bn h (Int.toNat x*5+3+0) fun d=>bC .i64 d fun a8=>bn h (Int.toNat x*5+3+1) fun a7=>bX a7 fun s=>j4 call L C n q M O K V W U Z z Y a0 J h a2 a3 a1 a5 a6 a4 (IntKind.wrap .i64 (i+1)) (Ow.own 1 [D.int .i64 a8,D.str s])))
 (j4 call L C n q M O K V W U Z z Y a0 J h a2 a3 a1 a5 a6 a4 (IntKind.wrap .i64 (i+1)) (Ow.own 1 [D.int .i64 0,D.str (ByteArray.mk #[45])])))
 (some (D.agg [D.str q,D.slc true 0 []]))):=by kernel_rfl
theorem lK(call:CL)(L:Nat)(C:Nat→Nat)(n:Nat)(r:ByteArray)(U:Bool)(V:Nat)(O:List D)(Y:Bool)(Z:Nat)(W:List D)(a1:Bool)(z:Nat)(a0:List D)(a2:Bool)(J:Nat)(i:List D)(a4:Bool)(a5:Nat)(a3:List D)(a7:Bool)(a8:Nat)(a6:List D)(q:Int)(h:Nat)(M:List D):j4 call L C (n+1) r U V O Y Z W a1 z a0 a2 J i a4 a5 a3 a7 a8 a6 q (Ow.own h M)=
 (bx (decide (q≤(z:Int)))
 (bB (call 95 [D.agg [D.slc U V O,D.slc Y Z W,D.slc a1 z a0,D.slc a2 J i,D.slc a4 a5 a3,D.slc a7 a8 a6],D.str r,D.int .i64 q,D.bool false]) fun ab=>bC .i64 ab fun K=>bx (decide (K≥0))
 (cb (decide (0≤K∧K<(J:Int)))
 (bn i (Int.toNat K*5+3+0) fun a9=>bC .i64 a9 fun ad=>bn i (Int.toNat K*5+3+1) fun aa=>bX aa fun ac=>cb (decide ((h+1)*24≤cu∧h+1≤9223372036854775807))
 (j4 call L C n r U V O Y Z W a1 z a0 a2 J i a4 a5 a3 a7 a8 a6 (IntKind.wrap .i64 (q+1)) (Ow.own (h+1) (M++[D.int .i64 ad,D.str ac])))))
 (cb (decide ((h+1)*24≤cu∧h+1≤9223372036854775807))
 (j4 call L C n r U V O Y Z W a1 z a0 a2 J i a4 a5 a3 a7 a8 a6 (IntKind.wrap .i64 (q+1)) (Ow.own (h+1) (M++[D.int .i64 0,D.str (ByteArray.mk #[45])])))))
 (some (D.agg [D.str r,D.slc false h M]))):=by kernel_rfl
theorem G6(call:CL)(L:Nat)(C:Nat→Nat)(q:Bool)(r:Nat)(i:List D)(J:Bool)(K:Nat)(z:List D)(O:Bool)(U:Nat)(M:List D)(W:Bool)(Y:Nat)(V:List D)(a0:Bool)(a1:Nat)(Z:List D)(a3:Bool)(a4:Nat)(a2:List D)(h:ByteArray):bS (cz call L C) O0 Mf FinM.canon Tryz.f24 [D.agg [D.slc q r i,D.slc J K z,D.slc O U M,D.slc W Y V,D.slc a0 a1 Z,D.slc a3 a4 a2],D.str h]=
 (j4 call L C L h q r i J K z O U M W Y V a0 a1 Z a3 a4 a2 1 (Ow.nil)):=by kernel_rfl
def Mg:bK:=fun p=>match p with
 |58=>nm [1,2,5,6] [] [2,29]
 |_=>none
noncomputable def fM(call:CL)(L:Nat)(C:Nat→Nat)(n:Nat)(q:ByteArray)(z:Bool)(K:Nat)(r:List D)(O:Bool)(U:Nat)(M:List D)(W:Bool)(Y:Nat)(V:List D)(a1:Bool)(a2:Nat)(a0:List D)(a4:Bool)(a5:Nat)(a3:List D)(a7:Bool)(a8:Nat)(a6:List D)(h:Ow)(i:Int):Option D:=
 ch (cz call L C) O0 Mg FinM.canon Tryz.f27 (bt 5 11) [] n (St.mk (J::D.str q::D.loc 2 0 0::J::J::ou 29 h::D.int .i64 i::jn 24 []) (Z::Z::(1,some (Ob.box [D.slc z K r,D.slc O U M,D.slc W Y V,D.slc a1 a2 a0,D.slc a4 a5 a3,D.slc a7 a8 a6] false))::zn 26 [ov 3 1 h,Z]))
theorem jj(call:CL)(L:Nat)(C:Nat→Nat)(n:Nat)(q:ByteArray)(J:Bool)(K:Nat)(z:List D)(O:Bool)(U:Nat)(M:List D)(W:Bool)(i:Nat)(V:List D)(Z:Bool)(a0:Nat)(Y:List D)(a2:Bool)(a3:Nat)(a1:List D)(a5:Bool)(a6:Nat)(a4:List D)(h:Int):fM call L C (n+1) q J K z O U M W i V Z a0 Y a2 a3 a1 a5 a6 a4 (Ow.nil) h=
 (bx (decide (h≤(i:Int)))
 (bB (call 95 [D.agg [D.slc J K z,D.slc O U M,D.slc W i V,D.slc Z a0 Y,D.slc a2 a3 a1,D.slc a5 a6 a4],D.str q,D.int .i64 h,D.bool false]) fun r=>bC .i64 r fun x=>bx (decide (x<0))
 (fM call L C n q J K z O U M W i V Z a0 Y a2 a3 a1 a5 a6 a4 (Ow.own 1 [D.int .i64 h]) (IntKind.wrap .i64 (h+1)))
 (bB (call 95 [D.agg [D.slc J K z,D.slc O U M,D.slc W i V,D.slc Z a0 Y,D.slc a2 a3 a1,D.slc a5 a6 a4],D.str q,D.int .i64 h,D.bool true]) fun a7=>bC .i64 a7 fun a8=>bx (decide (a8<0))
 (fM call L C n q J K z O U M W i V Z a0 Y a2 a3 a1 a5 a6 a4 (Ow.own 1 [D.int .i64 h]) (IntKind.wrap .i64 (h+1)))
 (fM call L C n q J K z O U M W i V Z a0 Y a2 a3 a1 a5 a6 a4 (Ow.nil) (IntKind.wrap .i64 (h+1)))))
 (some (D.slc true 0 []))):=by kernel_rfl
theorem jl(call:CL)(L:Nat)(C:Nat→Nat)(n:Nat)(r:ByteArray)(J:Bool)(K:Nat)(z:List D)(O:Bool)(U:Nat)(M:List D)(W:Bool)(q:Nat)(V:List D)(Z:Bool)(a0:Nat)(Y:List D)(a2:Bool)(a3:Nat)(a1:List D)(a5:Bool)(a6:Nat)(a4:List D)(i:Nat)(a7:List D)(h:Int):fM call L C (n+1) r J K z O U M W q V Z a0 Y a2 a3 a1 a5 a6 a4 (Ow.own i a7) h=
 (bx (decide (h≤(q:Int)))
 (bB (call 95 [D.agg [D.slc J K z,D.slc O U M,D.slc W q V,D.slc Z a0 Y,D.slc a2 a3 a1,D.slc a5 a6 a4],D.str r,D.int .i64 h,D.bool false]) fun a8=>bC .i64 a8 fun aa=>bx (decide (aa<0))
 (cb (decide ((i+1)*8≤cu∧i+1≤9223372036854775807))
 (fM call L C n r J K z O U M W q V Z a0 Y a2 a3 a1 a5 a6 a4 (Ow.own (i+1) (a7++[D.int .i64 h])) (IntKind.wrap .i64 (h+1))))
 (bB (call 95 [D.agg [D.slc J K z,D.slc O U M,D.slc W q V,D.slc Z a0 Y,D.slc a2 a3 a1,D.slc a5 a6 a4],D.str r,D.int .i64 h,D.bool true]) fun a9=>bC .i64 a9 fun ab=>bx (decide (ab<0))
 (cb (decide ((i+1)*8≤cu∧i+1≤9223372036854775807))
 (fM call L C n r J K z O U M W q V Z a0 Y a2 a3 a1 a5 a6 a4 (Ow.own (i+1) (a7++[D.int .i64 h])) (IntKind.wrap .i64 (h+1))))
 (fM call L C n r J K z O U M W q V Z a0 Y a2 a3 a1 a5 a6 a4 (Ow.own i a7) (IntKind.wrap .i64 (h+1)))))
 (some (D.slc false i a7))):=by kernel_rfl
theorem G7(call:CL)(L:Nat)(C:Nat→Nat)(q:Bool)(r:Nat)(i:List D)(J:Bool)(K:Nat)(z:List D)(O:Bool)(U:Nat)(M:List D)(W:Bool)(Y:Nat)(V:List D)(a0:Bool)(a1:Nat)(Z:List D)(a3:Bool)(a4:Nat)(a2:List D)(h:ByteArray):bS (cz call L C) O0 Mg FinM.canon Tryz.f27 [D.agg [D.slc q r i,D.slc J K z,D.slc O U M,D.slc W Y V,D.slc a0 a1 Z,D.slc a3 a4 a2],D.str h]=
 (fM call L C L h q r i J K z O U M W Y V a0 a1 Z a3 a4 a2 (Ow.nil) 1):=by kernel_rfl
def Mh:bK:=fun p=>match p with
 |58=>nm [1,2,5,6] [] [2,48]
 |_=>none
noncomputable def eV(call:CL)(L:Nat)(C:Nat→Nat)(n:Nat)(q:ByteArray)(z:Bool)(K:Nat)(r:List D)(O:Bool)(U:Nat)(M:List D)(W:Bool)(Y:Nat)(V:List D)(a1:Bool)(a2:Nat)(a0:List D)(a4:Bool)(a5:Nat)(a3:List D)(a7:Bool)(a8:Nat)(a6:List D)(h:Ow)(i:Int):Option D:=
 ch (cz call L C) O0 Mh FinM.canon Tryz.f28 (bt 5 11) [] n (St.mk (J::D.str q::D.loc 2 0 0::J::J::ou 48 h::D.int .i64 i::jn 43 []) (Z::Z::(1,some (Ob.box [D.slc z K r,D.slc O U M,D.slc W Y V,D.slc a1 a2 a0,D.slc a4 a5 a3,D.slc a7 a8 a6] false))::zn 45 [ov 3 1 h,Z]))
theorem jm(call:CL)(L:Nat)(C:Nat→Nat)(n:Nat)(J:ByteArray)(M:Bool)(O:Nat)(K:List D)(V:Bool)(W:Nat)(U:List D)(Z:Bool)(z:Nat)(Y:List D)(a0:Bool)(q:Nat)(h:List D)(a2:Bool)(a3:Nat)(a1:List D)(a5:Bool)(a6:Nat)(a4:List D)(i:Int):eV call L C (n+1) J M O K V W U Z z Y a0 q h a2 a3 a1 a5 a6 a4 (Ow.nil) i=
 (bx (decide (i≤(z:Int)))
 (bB (call 95 [D.agg [D.slc M O K,D.slc V W U,D.slc Z z Y,D.slc a0 q h,D.slc a2 a3 a1,D.slc a5 a6 a4],D.str J,D.int .i64 i,D.bool false]) fun r=>bC .i64 r fun x=>bB (call 95 [D.agg [D.slc M O K,D.slc V W U,D.slc Z z Y,D.slc a0 q h,D.slc a2 a3 a1,D.slc a5 a6 a4],D.str J,D.int .i64 i,D.bool true]) fun ab=>bC .i64 ab fun a7=>bx (decide (x≥0))
 (bx (decide (a7≥0))
 (cb (decide (0≤x∧x<(q:Int)))
 (bn h (Int.toNat x*5+3+0) fun d=>bC .i64 d fun ad=>bn h (Int.toNat x*5+3+1) fun a8=>bX a8 fun s=>cb (decide (0≤a7∧a7<(q:Int)))
 (bn h (Int.toNat a7*5+3+0) fun a9=>bC .i64 a9 fun ae=>bn h (Int.toNat a7*5+3+1) fun aa=>bX aa fun ac=>bx (!(ad==ae&&(ByteArray.toList s==ByteArray.toList ac&&true)))
 (eV call L C n J M O K V W U Z z Y a0 q h a2 a3 a1 a5 a6 a4 (Ow.own 1 [D.int .i64 i]) (IntKind.wrap .i64 (i+1)))
 (eV call L C n J M O K V W U Z z Y a0 q h a2 a3 a1 a5 a6 a4 (Ow.nil) (IntKind.wrap .i64 (i+1))))))
 (eV call L C n J M O K V W U Z z Y a0 q h a2 a3 a1 a5 a6 a4 (Ow.nil) (IntKind.wrap .i64 (i+1))))
 (eV call L C n J M O K V W U Z z Y a0 q h a2 a3 a1 a5 a6 a4 (Ow.nil) (IntKind.wrap .i64 (i+1))))
 (some (D.slc true 0 []))):=by kernel_rfl
theorem jo(call:CL)(L:Nat)(C:Nat→Nat)(n:Nat)(J:ByteArray)(M:Bool)(O:Nat)(K:List D)(V:Bool)(W:Nat)(U:List D)(Z:Bool)(z:Nat)(Y:List D)(a0:Bool)(q:Nat)(h:List D)(a2:Bool)(a3:Nat)(a1:List D)(a5:Bool)(a6:Nat)(a4:List D)(r:Nat)(a7:List D)(i:Int):eV call L C (n+1) J M O K V W U Z z Y a0 q h a2 a3 a1 a5 a6 a4 (Ow.own r a7) i=
 (bx (decide (i≤(z:Int)))
 (bB (call 95 [D.agg [D.slc M O K,D.slc V W U,D.slc Z z Y,D.slc a0 q h,D.slc a2 a3 a1,D.slc a5 a6 a4],D.str J,D.int .i64 i,D.bool false]) fun ae=>bC .i64 ae fun a8=>bB (call 95 [D.agg [D.slc M O K,D.slc V W U,D.slc Z z Y,D.slc a0 q h,D.slc a2 a3 a1,D.slc a5 a6 a4],D.str J,D.int .i64 i,D.bool true]) fun af=>bC .i64 af fun a9=>bx (decide (a8≥0))
 (bx (decide (a9≥0))
 (cb (decide (0≤a8∧a8<(q:Int)))
 (bn h (Int.toNat a8*5+3+0) fun aa=>bC .i64 aa fun ai=>bn h (Int.toNat a8*5+3+1) fun ab=>bX ab fun ag=>cb (decide (0≤a9∧a9<(q:Int)))
 (bn h (Int.toNat a9*5+3+0) fun ac=>bC .i64 ac fun aj=>bn h (Int.toNat a9*5+3+1) fun ad=>bX ad fun ah=>bx (!(ai==aj&&(ByteArray.toList ag==ByteArray.toList ah&&true)))
 (cb (decide ((r+1)*8≤cu∧r+1≤9223372036854775807))
 (eV call L C n J M O K V W U Z z Y a0 q h a2 a3 a1 a5 a6 a4 (Ow.own (r+1) (a7++[D.int .i64 i])) (IntKind.wrap .i64 (i+1))))
 (eV call L C n J M O K V W U Z z Y a0 q h a2 a3 a1 a5 a6 a4 (Ow.own r a7) (IntKind.wrap .i64 (i+1))))))
 (eV call L C n J M O K V W U Z z Y a0 q h a2 a3 a1 a5 a6 a4 (Ow.own r a7) (IntKind.wrap .i64 (i+1))))
 (eV call L C n J M O K V W U Z z Y a0 q h a2 a3 a1 a5 a6 a4 (Ow.own r a7) (IntKind.wrap .i64 (i+1))))
 (some (D.slc false r a7))):=by kernel_rfl
theorem G8(call:CL)(L:Nat)(C:Nat→Nat)(q:Bool)(r:Nat)(i:List D)(J:Bool)(K:Nat)(z:List D)(O:Bool)(U:Nat)(M:List D)(W:Bool)(Y:Nat)(V:List D)(a0:Bool)(a1:Nat)(Z:List D)(a3:Bool)(a4:Nat)(a2:List D)(h:ByteArray):bS (cz call L C) O0 Mh FinM.canon Tryz.f28 [D.agg [D.slc q r i,D.slc J K z,D.slc O U M,D.slc W Y V,D.slc a0 a1 Z,D.slc a3 a4 a2],D.str h]=
 (eV call L C L h q r i J K z O U M W Y V a0 a1 Z a3 a4 a2 (Ow.nil) 1):=by kernel_rfl
theorem G9(call:CL)(L:Nat)(C:Nat→Nat)(z:Bool)(J:Nat)(q:List D)(M:Bool)(O:Nat)(K:List D)(V:Bool)(h:Nat)(U:List D)(Y:Bool)(Z:Nat)(W:List D)(a1:Bool)(a2:Nat)(a0:List D)(a4:Bool)(a5:Nat)(a3:List D)(i:ByteArray):bS (cz call L C) O0 N0 FinM.canon Tryz.f29 [D.agg [D.slc z J q,D.slc M O K,D.slc V h U,D.slc Y Z W,D.slc a1 a2 a0,D.slc a4 a5 a3],D.str i]=
 (bx ((h:Int)==0)
 (some (D.int .i64 12))
 (bB (call 27 [D.agg [D.slc z J q,D.slc M O K,D.slc V h U,D.slc Y Z W,D.slc a1 a2 a0,D.slc a4 a5 a3],D.str i]) fun r=>cU r fun _f n _c=>bx (decide ((n:Int)>0))
 (some (D.int .i64 7))
 (bB (call 28 [D.agg [D.slc z J q,D.slc M O K,D.slc V h U,D.slc Y Z W,D.slc a1 a2 a0,D.slc a4 a5 a3],D.str i]) fun a7=>cU a7 fun _f_1 a6 _c_1=>bx (decide ((a6:Int)>0))
 (some (D.int .i64 29))
 (some (D.int .i64 0))))):=by kernel_rfl
theorem Ha(call:CL)(L:Nat)(C:Nat→Nat)(q:Bool)(z:Nat)(i:List D)(K:Bool)(M:Nat)(J:List D)(U:Bool)(V:Nat)(O:List D)(Y:Bool)(Z:Nat)(W:List D)(a1:Bool)(a2:Nat)(a0:List D)(a4:Bool)(a5:Nat)(a3:List D)(h:ByteArray):bS (cz call L C) O0 N0 FinM.canon Tryz.f18 [D.agg [D.slc q z i,D.slc K M J,D.slc U V O,D.slc Y Z W,D.slc a1 a2 a0,D.slc a4 a5 a3],D.str h]=
 (bB (call 90 [D.agg [D.slc q z i,D.slc K M J,D.slc U V O,D.slc Y Z W,D.slc a1 a2 a0,D.slc a4 a5 a3],D.str h]) fun r=>bC .i64 r fun x=>bx (x !=0)
 (some (D.tup [D.agg [D.str (ByteArray.mk #[]),D.slc true 0 []],D.int .i64 x]))
 (bB (call 91 [D.agg [D.slc q z i,D.slc K M J,D.slc U V O,D.slc Y Z W,D.slc a1 a2 a0,D.slc a4 a5 a3],D.str h]) fun a8=>gy a8 2 fun c=>bn c 0 fun d=>bX d fun s=>bn c 1 fun a7=>cU a7 fun f n a6=>some (D.tup [D.agg [D.str s,D.slc f n a6],D.int .i64 0]))):=by kernel_rfl
theorem Hb(call:CL)(L:Nat)(C:Nat→Nat)(q:Bool)(z:Nat)(i:List D)(K:Bool)(M:Nat)(J:List D)(U:Bool)(V:Nat)(O:List D)(Y:Bool)(Z:Nat)(W:List D)(a1:Bool)(a2:Nat)(a0:List D)(a4:Bool)(a5:Nat)(a3:List D)(h:ByteArray):bS (cz call L C) O0 N0 FinM.canon Tryz.f19 [D.agg [D.slc q z i,D.slc K M J,D.slc U V O,D.slc Y Z W,D.slc a1 a2 a0,D.slc a4 a5 a3],D.str h]=
 (bB (call 90 [D.agg [D.slc q z i,D.slc K M J,D.slc U V O,D.slc Y Z W,D.slc a1 a2 a0,D.slc a4 a5 a3],D.str h]) fun r=>bC .i64 r fun x=>bx (x !=0)
 (some (D.tup [D.slc true 0 [],D.int .i64 x]))
 (bB (call 92 [D.agg [D.slc q z i,D.slc K M J,D.slc U V O,D.slc Y Z W,D.slc a1 a2 a0,D.slc a4 a5 a3],D.str h]) fun a6=>cU a6 fun f n c=>some (D.tup [D.slc f n c,D.int .i64 0]))):=by kernel_rfl
theorem Hc(call:CL)(L:Nat)(C:Nat→Nat)(q:Bool)(z:Nat)(i:List D)(K:Bool)(M:Nat)(J:List D)(U:Bool)(V:Nat)(O:List D)(Y:Bool)(Z:Nat)(W:List D)(a1:Bool)(a2:Nat)(a0:List D)(a4:Bool)(a5:Nat)(a3:List D)(h:ByteArray):bS (cz call L C) O0 N0 FinM.canon Tryz.f20 [D.agg [D.slc q z i,D.slc K M J,D.slc U V O,D.slc Y Z W,D.slc a1 a2 a0,D.slc a4 a5 a3],D.str h]=
 (bB (call 90 [D.agg [D.slc q z i,D.slc K M J,D.slc U V O,D.slc Y Z W,D.slc a1 a2 a0,D.slc a4 a5 a3],D.str h]) fun r=>bC .i64 r fun x=>bx (x !=0)
 (some (D.tup [D.slc true 0 [],D.int .i64 x]))
 (bB (call 93 [D.agg [D.slc q z i,D.slc K M J,D.slc U V O,D.slc Y Z W,D.slc a1 a2 a0,D.slc a4 a5 a3],D.str h]) fun a6=>cU a6 fun f n c=>some (D.tup [D.slc f n c,D.int .i64 0]))):=by kernel_rfl
theorem Hd(call:CL)(L:Nat)(C:Nat→Nat)(q:Bool)(z:Nat)(i:List D)(K:Bool)(M:Nat)(J:List D)(U:Bool)(V:Nat)(O:List D)(Y:Bool)(Z:Nat)(W:List D)(a1:Bool)(a2:Nat)(a0:List D)(a4:Bool)(a5:Nat)(a3:List D)(h:ByteArray):bS (cz call L C) O0 N0 FinM.canon Tryz.f21 [D.agg [D.slc q z i,D.slc K M J,D.slc U V O,D.slc Y Z W,D.slc a1 a2 a0,D.slc a4 a5 a3],D.str h]=
 (bB (call 90 [D.agg [D.slc q z i,D.slc K M J,D.slc U V O,D.slc Y Z W,D.slc a1 a2 a0,D.slc a4 a5 a3],D.str h]) fun r=>bC .i64 r fun x=>bx (x !=0)
 (some (D.int .i64 x))
 (bB (call 94 [D.agg [D.slc q z i,D.slc K M J,D.slc U V O,D.slc Y Z W,D.slc a1 a2 a0,D.slc a4 a5 a3],D.str h]) fun a6=>bC .i64 a6 fun a7=>some (D.int .i64 a7))):=by kernel_rfl
theorem He(call:CL)(L:Nat)(C:Nat→Nat)(i:Bool)(h:Int):bS (cz call L C) O0 N0 FinM.canon Tryz.f22 [D.bool i,D.int .i64 h]=
 (bx i
 (some (D.int .i64 h))
 (some (D.int .i64 0))):=by kernel_rfl
def Mi:bK:=fun p=>match p with
 |58=>nm [0,1,5] [] []
 |_=>none
noncomputable def tS(call:CL)(L:Nat)(C:Nat→Nat)(n:Nat)(i:Bool)(q:Nat)(h:List D)(z:Bool)(K:Nat)(r:List D)(M:Int):Option D:=
 ch (cz call L C) O0 Mi FinM.canon Tryz.f25 (bt 5 11) [] n (St.mk (D.slc i q h::D.slc z K r::J::J::J::D.int .i64 M::jn 20 []) (zn 26 []))
theorem sC(call:CL)(L:Nat)(C:Nat→Nat)(n:Nat)(J:Bool)(q:Nat)(i:List D)(K:Bool)(z:Nat)(r:List D)(h:Int):tS call L C (n+1) J q i K z r h=
 (bx (decide (h<(q:Int)))
 (cb (decide (0≤h∧h<(q:Int)))
 (bn i (Int.toNat h*2+0) fun d=>bC .i64 d fun x=>bn i (Int.toNat h*2+1) fun M=>bX M fun s=>cb (decide (0≤h∧h<(z:Int)))
 (bn r (Int.toNat h*2+0) fun O=>bC .i64 O fun W=>bn r (Int.toNat h*2+1) fun U=>bX U fun V=>bx (!(x==W&&(ByteArray.toList s==ByteArray.toList V&&true)))
 (some (D.bool false))
 (tS call L C n J q i K z r (IntKind.wrap .i64 (h+1))))))
 (some (D.bool true))):=by kernel_rfl
theorem Hf(call:CL)(L:Nat)(C:Nat→Nat)(r:Bool)(h:Nat)(q:List D)(J:Bool)(i:Nat)(z:List D):bS (cz call L C) O0 Mi FinM.canon Tryz.f25 [D.slc r h q,D.slc J i z]=
 (bx ((h:Int) !=(i:Int))
 (some (D.bool false))
 (tS call L C L r h q J i z 0)):=by kernel_rfl
def Mj:bK:=fun p=>match p with
 |58=>nm [0,1,5] [] []
 |_=>none
noncomputable def tT(call:CL)(L:Nat)(C:Nat→Nat)(n:Nat)(i:Bool)(q:Nat)(h:List D)(z:Bool)(K:Nat)(r:List D)(M:Int):Option D:=
 ch (cz call L C) O0 Mj FinM.canon Tryz.f26 (bt 5 11) [] n (St.mk (D.slc i q h::D.slc z K r::J::J::J::D.int .i64 M::jn 20 []) (zn 26 []))
theorem sD(call:CL)(L:Nat)(C:Nat→Nat)(n:Nat)(J:Bool)(i:Nat)(q:List D)(K:Bool)(z:Nat)(r:List D)(h:Int):tT call L C (n+1) J i q K z r h=
 (bx (decide (h<(i:Int)))
 (cb (decide (0≤h∧h<(i:Int)))
 (bn q (Int.toNat h*1) fun d=>bC .i64 d fun x=>cb (decide (0≤h∧h<(z:Int)))
 (bn r (Int.toNat h*1) fun M=>bC .i64 M fun O=>bx (x !=O)
 (some (D.bool false))
 (tT call L C n J i q K z r (IntKind.wrap .i64 (h+1))))))
 (some (D.bool true))):=by kernel_rfl
theorem Hg(call:CL)(L:Nat)(C:Nat→Nat)(r:Bool)(h:Nat)(q:List D)(J:Bool)(i:Nat)(z:List D):bS (cz call L C) O0 Mj FinM.canon Tryz.f26 [D.slc r h q,D.slc J i z]=
 (bx ((h:Int) !=(i:Int))
 (some (D.bool false))
 (tT call L C L r h q J i z 0)):=by kernel_rfl
def Mk:bK:=fun p=>match p with
 |7=>nm [1,3] [] [1]
 |_=>none
noncomputable def n8(call:CL)(L:Nat)(C:Nat→Nat)(q:Bool)(r:Nat)(i:List D)(K:Bool)(M:Nat)(z:List D)(U:Bool)(V:Nat)(O:List D)(Y:Bool)(a0:Nat)(W:List D)(a2:Bool)(a3:Nat)(a1:List D)(a5:Bool)(a6:Nat)(a4:List D)(h:Bool):Option D:=
 eY (cz call L C) O0 Mk FinM.canon Tryz.f17 [true,true] [] (C 7) (St.mk (J::D.loc 1 0 0::J::D.bool h::jn 41 []) (Z::(1,some (Ob.box [D.slc q r i,D.slc K M z,D.slc U V O,D.slc Y a0 W,D.slc a2 a3 a1,D.slc a5 a6 a4] false))::zn 43 []))
theorem B3(call:CL)(L:Nat)(C:Nat→Nat)(i:Bool)(q:Nat)(h:List D)(J:Bool)(K:Nat)(z:List D)(O:Bool)(U:Nat)(M:List D)(W:Bool)(Y:Nat)(V:List D)(a0:Bool)(a1:Nat)(Z:List D)(a3:Bool)(a4:Nat)(a2:List D)(a5:Bool)(hC:∀t,C t=1):n8 call L C i q h J K z O U M W Y V a0 a1 Z a3 a4 a2 a5=
 (bx a5
 (some (D.int .i64 5))
 (bB (call 86 [D.agg [D.slc i q h,D.slc J K z,D.slc O U M,D.slc W Y V,D.slc a0 a1 Z,D.slc a3 a4 a2]]) fun r=>bC .i64 r fun x=>bx (x !=0)
 (some (D.int .i64 x))
 (bB (call 88 [D.agg [D.slc i q h,D.slc J K z,D.slc O U M,D.slc W Y V,D.slc a0 a1 Z,D.slc a3 a4 a2]]) fun a6=>bC .i64 a6 fun a9=>bB (call 89 [D.agg [D.slc i q h,D.slc J K z,D.slc O U M,D.slc W Y V,D.slc a0 a1 Z,D.slc a3 a4 a2]]) fun a7=>bC .i64 a7 fun aa=>bB (call 87 [D.slc true 2 [D.int .i64 a9,D.int .i64 aa]]) fun a8=>bC .i64 a8 fun ab=>some (D.int .i64 ab)))):=by
 unfold n8;rw[hC]
 kernel_rfl
theorem Hh(call:CL)(L:Nat)(C:Nat→Nat)(K:Bool)(h:Nat)(J:List D)(O:Bool)(i:Nat)(M:List D)(V:Bool)(W:Nat)(U:List D)(Z:Bool)(q:Nat)(Y:List D)(a1:Bool)(r:Nat)(a0:List D)(a3:Bool)(z:Nat)(a2:List D):bS (cz call L C) O0 Mk FinM.canon Tryz.f17 [D.agg [D.slc K h J,D.slc O i M,D.slc V W U,D.slc Z q Y,D.slc a1 r a0,D.slc a3 z a2]]=
 (bx (decide ((h:Int)>256))
 (n8 call L C K h J O i M V W U Z q Y a1 r a0 a3 z a2 true)
 (bx (decide ((i:Int)>200))
 (n8 call L C K h J O i M V W U Z q Y a1 r a0 a3 z a2 true)
 (bx (decide ((q:Int)>1000))
 (n8 call L C K h J O i M V W U Z q Y a1 r a0 a3 z a2 true)
 (bx (decide ((r:Int)>200))
 (n8 call L C K h J O i M V W U Z q Y a1 r a0 a3 z a2 true)
 (n8 call L C K h J O i M V W U Z q Y a1 r a0 a3 z a2 (decide ((z:Int)>256))))))):=by kernel_rfl
def Lp:bK:=fun p=>match p with
 |58=>nm [1,3,13,14,15] [9,35] [1,9,11,35]
 |250=>nm [1,3,7,37,38,39] [9] [1,9,11,35]
 |_=>none
noncomputable def jp(call:CL)(L:Nat)(C:Nat→Nat)(r:Nat)(i:Bool)(q:Nat)(h:List D)(Y:Bool)(a0:Nat)(W:List D)(a2:Bool)(a3:Nat)(a1:List D)(a5:Bool)(a6:Nat)(a4:List D)(a8:Bool)(a9:Nat)(a7:List D)(ab:Bool)(ac:Nat)(aa z K:List D)(U V:Int)(M O:List D):Option D:=
 ch (cz call L C) O0 Lp FinM.canon Tryz.f86 (bt 7 47) [] r (St.mk (J::D.loc 1 0 0::J::D.mloc 11 0::J::J::J::D.mloc 35 0::jn 29 (D.slc i q h::D.int .i64 U::D.int .i64 V::jn 39 [])) (Z::(1,some (Ob.box [D.slc Y a0 W,D.slc i q h,D.slc a2 a3 a1,D.slc a5 a6 a4,D.slc a8 a9 a7,D.slc ab ac aa] false))::zn 9 ((1,some (Ob.map z K false))::zn 23 ((1,some (Ob.map M O false))::zn 43 []))))
noncomputable def qu(call:CL)(L:Nat)(C:Nat→Nat)(n:Nat)(i:Bool)(q:Nat)(h:List D)(O:Bool)(U:Nat)(M:List D)(W:Bool)(Y:Nat)(V:List D)(a1:Bool)(a2:Nat)(a0:List D)(a4:Bool)(a5:Nat)(a3:List D)(a7:Bool)(a8:Nat)(a6:List D)(t14 K:Int)(r z:List D):Option D:=
 ch (cz call L C) O0 Lp FinM.canon Tryz.f86 (bt 5 11) [] n (St.mk (J::D.loc 1 0 0::J::D.mloc 11 0::jn 9 (D.slc i q h::D.int .i64 t14::D.int .i64 K::jn 63 [])) (Z::(1,some (Ob.box [D.slc i q h,D.slc O U M,D.slc W Y V,D.slc a1 a2 a0,D.slc a4 a5 a3,D.slc a7 a8 a6] false))::zn 9 ((1,some (Ob.map r z false))::zn 67 [])))
theorem qv(call:CL)(L:Nat)(C:Nat→Nat)(Y:Nat)(a2:Bool)(U:Nat)(i:List D)(a0:Bool)(a1:Nat)(Z:List D)(W:Bool)(z:Nat)(V:List D)(a4:Bool)(a5:Nat)(a3:List D)(a7:Bool)(a8:Nat)(a6:List D)(aa:Bool)(ab:Nat)(a9 q r:List D)(O h:Int)(K M:List D):jp call L C (Y+1) a2 U i a0 a1 Z W z V a4 a5 a3 a7 a8 a6 aa ab a9 q r O h K M=
 (bx (decide (h<O))
 (cb (decide (0≤h∧h<(U:Int)))
 (bn i (Int.toNat h*3+0) fun av=>bX av fun J=>bn i (Int.toNat h*3+1) fun aw=>bX aw fun ae=>bn i (Int.toNat h*3+2) fun ax=>bC .i64 ax fun ac=>bB (call 111 [D.str J]) fun aZ=>bR aZ fun al=>bB (call 119 [D.bool !al,D.int .i64 8]) fun b6=>bC .i64 b6 fun ad=>
 (fS (cE (D.str J) K 0)
 (bB (call 119 [D.bool false,D.int .i64 9]) fun b7=>bC .i64 b7 fun ak=>
 (fS (cE (D.str ae) q 0)
 (bB (call 119 [D.bool true,D.int .i64 10]) fun b8=>bC .i64 b8 fun bk=>bB (call 118 [D.int .i64 ac,D.int .i64 (-99),D.int .i64 99]) fun aI=>bR aI fun am=>bB (call 119 [D.bool am,D.int .i64 3]) fun aJ=>bC .i64 aJ fun bl=>bB (call 87 [D.slc true 4 [D.int .i64 ad,D.int .i64 ak,D.int .i64 bk,D.int .i64 bl]]) fun aK=>bC .i64 aK fun af=>bx (af !=0)
 (some (D.int .i64 af))
 (kE (iZ (D.str J) (D.bool true) K M) fun aE b9=>jp call L C Y a2 U i a0 a1 Z W z V a4 a5 a3 a7 a8 a6 aa ab a9 q r O (IntKind.wrap .i64 (h+1)) aE b9)) fun aB=>bn r aB fun ay=>bR ay fun an=>bB (call 119 [D.bool !an,D.int .i64 10]) fun aL=>bC .i64 aL fun bd=>bB (call 118 [D.int .i64 ac,D.int .i64 (-99),D.int .i64 99]) fun aM=>bR aM fun ao=>bB (call 119 [D.bool ao,D.int .i64 3]) fun aN=>bC .i64 aN fun be=>bB (call 87 [D.slc true 4 [D.int .i64 ad,D.int .i64 ak,D.int .i64 bd,D.int .i64 be]]) fun aO=>bC .i64 aO fun ag=>bx (ag !=0)
 (some (D.int .i64 ag))
 (kE (iZ (D.str J) (D.bool true) K M) fun aF ba=>jp call L C Y a2 U i a0 a1 Z W z V a4 a5 a3 a7 a8 a6 aa ab a9 q r O (IntKind.wrap .i64 (h+1)) aF ba))) fun aC=>bn M aC fun az=>bR az fun ap=>bB (call 119 [D.bool ap,D.int .i64 9]) fun aP=>bC .i64 aP fun ah=>
 (fS (cE (D.str ae) q 0)
 (bB (call 119 [D.bool true,D.int .i64 10]) fun aQ=>bC .i64 aQ fun bf=>bB (call 118 [D.int .i64 ac,D.int .i64 (-99),D.int .i64 99]) fun aR=>bR aR fun aq=>bB (call 119 [D.bool aq,D.int .i64 3]) fun aS=>bC .i64 aS fun bg=>bB (call 87 [D.slc true 4 [D.int .i64 ad,D.int .i64 ah,D.int .i64 bf,D.int .i64 bg]]) fun aT=>bC .i64 aT fun ai=>bx (ai !=0)
 (some (D.int .i64 ai))
 (kE (iZ (D.str J) (D.bool true) K M) fun aG bb=>jp call L C Y a2 U i a0 a1 Z W z V a4 a5 a3 a7 a8 a6 aa ab a9 q r O (IntKind.wrap .i64 (h+1)) aG bb)) fun aD=>bn r aD fun aA=>bR aA fun ar=>bB (call 119 [D.bool !ar,D.int .i64 10]) fun aU=>bC .i64 aU fun bh=>bB (call 118 [D.int .i64 ac,D.int .i64 (-99),D.int .i64 99]) fun aV=>bR aV fun au=>bB (call 119 [D.bool au,D.int .i64 3]) fun aW=>bC .i64 aW fun bi=>bB (call 87 [D.slc true 4 [D.int .i64 ad,D.int .i64 ah,D.int .i64 bh,D.int .i64 bi]]) fun aX=>bC .i64 aX fun aj=>bx (aj !=0)
 (some (D.int .i64 aj))
 (kE (iZ (D.str J) (D.bool true) K M) fun aH bc=>jp call L C Y a2 U i a0 a1 Z W z V a4 a5 a3 a7 a8 a6 aa ab a9 q r O (IntKind.wrap .i64 (h+1)) aH bc)))))
 (bx ((z:Int)==0)
 (some (D.int .i64 0))
 (bB (call 109 [D.slc W z V]) fun aY=>bC .i64 aY fun bj=>some (D.int .i64 bj)))):=by kernel_rfl
theorem sF(call:CL)(L:Nat)(C:Nat→Nat)(n:Nat)(O:Bool)(K:Nat)(J:List D)(V:Bool)(M:Nat)(U:List D)(Y:Bool)(Z:Nat)(W:List D)(a1:Bool)(a2:Nat)(a0:List D)(a4:Bool)(a5:Nat)(a3:List D)(a7:Bool)(a8:Nat)(a6:List D)(t14 h:Int)(q z:List D):qu call L C (n+1) O K J V M U Y Z W a1 a2 a0 a4 a5 a3 a7 a8 a6 t14 h q z=
 (bx (decide (h<t14))
 (cb (decide (0≤h∧h<(K:Int)))
 (bn J (Int.toNat h*1) fun d=>bX d fun s=>bB (call 111 [D.str s]) fun r=>bR r fun b=>bB (call 119 [D.bool !b,D.int .i64 8]) fun ae=>bC .i64 ae fun x=>
 (fS (cE (D.str s) q 0)
 (bB (call 119 [D.bool false,D.int .i64 9]) fun af=>bC .i64 af fun ak=>bB (call 87 [D.slc true 2 [D.int .i64 x,D.int .i64 ak]]) fun ag=>bC .i64 ag fun a9=>bx (a9 !=0)
 (some (D.int .i64 a9))
 (kE (iZ (D.str s) (D.bool true) q z) fun ks vs=>qu call L C n O K J V M U Y Z W a1 a2 a0 a4 a5 a3 a7 a8 a6 t14 (IntKind.wrap .i64 (h+1)) ks vs)) fun i=>bn z i fun ac=>bR ac fun ab=>bB (call 119 [D.bool ab,D.int .i64 9]) fun ah=>bC .i64 ah fun al=>bB (call 87 [D.slc true 2 [D.int .i64 x,D.int .i64 al]]) fun ai=>bC .i64 ai fun aa=>bx (aa !=0)
 (some (D.int .i64 aa))
 (kE (iZ (D.str s) (D.bool true) q z) fun ad aj=>qu call L C n O K J V M U Y Z W a1 a2 a0 a4 a5 a3 a7 a8 a6 t14 (IntKind.wrap .i64 (h+1)) ad aj))))
 (jp call L C L V M U O K J Y Z W a1 a2 a0 a4 a5 a3 a7 a8 a6 q z ((M:Int)) 0 ([]) ([]))):=by kernel_rfl
theorem Hk(call:CL)(L:Nat)(C:Nat→Nat)(q:Bool)(h:Nat)(i:List D)(z:Bool)(J:Nat)(r:List D)(M:Bool)(O:Nat)(K:List D)(V:Bool)(W:Nat)(U:List D)(Z:Bool)(a0:Nat)(Y:List D)(a2:Bool)(a3:Nat)(a1:List D):bS (cz call L C) O0 Lp FinM.canon Tryz.f86 [D.agg [D.slc q h i,D.slc z J r,D.slc M O K,D.slc V W U,D.slc Z a0 Y,D.slc a2 a3 a1]]=
 (qu call L C L q h i z J r M O K V W U Z a0 Y a2 a3 a1 ((h:Int)) 0 ([]) ([])):=by kernel_rfl
def J7:bK:=fun p=>match p with
 |58=>nm [1,3,14,15,16] [5,6] [1,5,6,12]
 |122=>nm [1,65,66,67] [5,6,12] [1,5,6,12]
 |14951=>nm [1,3,5,6,7,14,15,16] [] [1,5,6,12]
 |_=>none
def J8:il:=fun id=>match id with
 |5=>some {l:=some [0,1,2,3,4,5,6,7,8],ks:=[6]}
 |_=>none
noncomputable def gx(call:CL)(L:Nat)(C:Nat→Nat)(n:Nat)(i:Bool)(q:Nat)(h:List D)(K M:Int)(a5:Bool)(a6:Nat)(a4:List D)(a8:Bool)(a9:Nat)(a7:List D)(ab:Bool)(ac:Nat)(aa:List D)(ae:Bool)(af:Nat)(ad:List D)(ah:Bool)(ai:Nat)(ag r z:List D)(a3:Bool)(W Y:ByteArray)(a0 a1:Int)(a2 O:ByteArray)(U:Int)(V:Bool):Option D:=
 eY (cz call L C) J8 J7 FinM.canon Tryz.f88 (bt 13 7371) [n] (C 14951) (St.mk (J::D.loc 1 0 0::J::D.mloc 12 0::J::D.loc 5 0 0::D.loc 6 0 0::D.bool a3::jn 6 (D.slc i q h::D.int .i64 K::D.int .i64 M::jn 76 [])) (Z::(1,some (Ob.box [D.slc a5 a6 a4,D.slc a8 a9 a7,D.slc ab ac aa,D.slc i q h,D.slc ae af ad,D.slc ah ai ag] false))::Z::Z::Z::(1,some (Ob.box [D.str W,D.str Y,D.int .i64 a0,D.int .i64 a1,D.str a2] false))::(1,some (Ob.box [D.str O,D.int .i64 U,D.bool V] false))::zn 5 ((1,some (Ob.map r z false))::zn 80 [])))
noncomputable def mH(call:CL)(L:Nat)(C:Nat→Nat)(r:Nat)(i:Bool)(q:Nat)(h:List D)(O:Bool)(U:Nat)(M:List D)(W:Bool)(Y:Nat)(V:List D)(a1:Bool)(a2:Nat)(a0:List D)(a4:Bool)(a5:Nat)(a3:List D)(a7:Bool)(a8:Nat)(a6:List D)(z K:Int):Option D:=
 ch (cz call L C) J8 J7 FinM.canon Tryz.f88 (bt 6 23) [] r (St.mk (J::D.loc 1 0 0::jn 63 (D.slc i q h::D.int .i64 z::D.int .i64 K::jn 25 [])) (Z::(1,some (Ob.box [D.slc O U M,D.slc W Y V,D.slc a1 a2 a0,D.slc a4 a5 a3,D.slc i q h,D.slc a7 a8 a6] false))::zn 91 []))
noncomputable def qw(call:CL)(L:Nat)(C:Nat→Nat)(n:Nat)(i:Bool)(q:Nat)(h:List D)(U:Bool)(V:Nat)(O:List D)(Y:Bool)(a0:Nat)(W:List D)(a2:Bool)(a3:Nat)(a1:List D)(a5:Bool)(a6:Nat)(a4:List D)(a8:Bool)(a9:Nat)(a7:List D)(K M:Int)(r z:List D):Option D:=
 ch (cz call L C) J8 J7 FinM.canon Tryz.f88 (bt 5 11) [] n (St.mk (J::D.loc 1 0 0::J::D.mloc 12 0::jn 10 (D.slc i q h::D.int .i64 K::D.int .i64 M::jn 76 [])) (Z::(1,some (Ob.box [D.slc U V O,D.slc Y a0 W,D.slc a2 a3 a1,D.slc i q h,D.slc a5 a6 a4,D.slc a8 a9 a7] false))::zn 10 ((1,some (Ob.map r z false))::zn 80 [])))
theorem tU(call:CL)(L:Nat)(C:Nat→Nat)(n:Nat)(a4:Bool)(a5:Nat)(a3:List D)(K M:Int)(U:Bool)(V:Nat)(O:List D)(Y:Bool)(Z:Nat)(W:List D)(a1:Bool)(a2:Nat)(a0:List D)(a7:Bool)(a8:Nat)(a6:List D)(aa:Bool)(ab:Nat)(a9 h q:List D)(ae:Bool)(vm av:ByteArray)(aw ac:Int)(ad r:ByteArray)(z:Int)(J:Bool)(hC:∀t,C t=1):gx call L C n a4 a5 a3 K M U V O Y Z W a1 a2 a0 a7 a8 a6 aa ab a9 h q ae vm av aw ac ad r z J=
 (bB (call 119 [D.bool ae,D.int .i64 10]) fun am=>bC .i64 am fun af=>bB (call 147 [D.agg [D.int .i64 ac,D.str ad]]) fun an=>bC .i64 an fun ag=>
 (fS (cE (D.agg [D.str r,D.int .i64 z,D.bool J]) h 0)
 (bB (call 119 [D.bool false,D.int .i64 9]) fun ao=>bC .i64 ao fun ay=>bB (call 87 [D.slc true 3 [D.int .i64 af,D.int .i64 ag,D.int .i64 ay]]) fun ap=>bC .i64 ap fun ah=>bx (ah !=0)
 (some (D.int .i64 ah))
 (kE (iZ (D.agg [D.str r,D.int .i64 z,D.bool J]) (D.bool true) h q) fun ks vs=>qw call L C n a4 a5 a3 U V O Y Z W a1 a2 a0 a7 a8 a6 aa ab a9 K (IntKind.wrap .i64 (M+1)) ks vs)) fun i=>bn q i fun ak=>bR ak fun aj=>bB (call 119 [D.bool aj,D.int .i64 9]) fun aq=>bC .i64 aq fun az=>bB (call 87 [D.slc true 3 [D.int .i64 af,D.int .i64 ag,D.int .i64 az]]) fun ar=>bC .i64 ar fun ai=>bx (ai !=0)
 (some (D.int .i64 ai))
 (kE (iZ (D.agg [D.str r,D.int .i64 z,D.bool J]) (D.bool true) h q) fun al ax=>qw call L C n a4 a5 a3 U V O Y Z W a1 a2 a0 a7 a8 a6 aa ab a9 K (IntKind.wrap .i64 (M+1)) al ax))):=by
 unfold gx;rw[hC]
 kernel_rfl
theorem qx(call:CL)(L:Nat)(C:Nat→Nat)(a7:Nat)(r:Bool)(i:Nat)(q:List D)(J:Bool)(K:Nat)(z:List D)(O:Bool)(U:Nat)(M:List D)(W:Bool)(Y:Nat)(V:List D)(a0:Bool)(a1:Nat)(Z:List D)(a3:Bool)(a4:Nat)(a2:List D)(a6 h:Int):mH call L C (a7+1) r i q J K z O U M W Y V a0 a1 Z a3 a4 a2 a6 h=
 (bx (decide (h<a6))
 (cb (decide (0≤h∧h<(i:Int)))
 (bn q (Int.toNat h*1) fun aa=>bX aa fun a5=>bB (call 154 [D.agg [D.slc J K z,D.slc O U M,D.slc W Y V,D.slc a0 a1 Z,D.slc r i q,D.slc a3 a4 a2],D.str a5]) fun ab=>bC .i64 ab fun ah=>bB (call 119 [D.bool (decide (ah<0)),D.int .i64 10]) fun ac=>bC .i64 ac fun ai=>cb (decide (0≤(0:Int)∧(0:Int)≤h∧h≤(i:Int)))
 (bB (call 155 [D.slc (r&&decide (h=(i:Int))) (Int.toNat (h-(0:Int))) (List.take (Int.toNat (h-(0:Int))*1) q),D.str a5]) fun ad=>bR ad fun a9=>bB (call 119 [D.bool a9,D.int .i64 9]) fun ae=>bC .i64 ae fun aj=>bB (call 94 [D.agg [D.slc J K z,D.slc O U M,D.slc W Y V,D.slc a0 a1 Z,D.slc r i q,D.slc a3 a4 a2],D.str a5]) fun af=>bC .i64 af fun ak=>bB (call 87 [D.slc true 3 [D.int .i64 ai,D.int .i64 aj,D.int .i64 ak]]) fun ag=>bC .i64 ag fun a8=>bx (a8 !=0)
 (some (D.int .i64 a8))
 (mH call L C a7 r i q J K z O U M W Y V a0 a1 Z a3 a4 a2 a6 (IntKind.wrap .i64 (h+1))))))
 (some (D.int .i64 0))):=by kernel_rfl
theorem sG(call:CL)(L:Nat)(C:Nat→Nat)(n:Nat)(a0:Bool)(z:Nat)(i:List D)(M:Bool)(O:Nat)(K:List D)(V:Bool)(W:Nat)(U:List D)(Z:Bool)(q:Nat)(Y:List D)(a2:Bool)(J:Nat)(a1:List D)(a4:Bool)(a5:Nat)(a3:List D)(a7 h:Int)(a9 aa:List D):qw call L C (n+1) a0 z i M O K V W U Z q Y a2 J a1 a4 a5 a3 a7 h a9 aa=
 (bx (decide (h<a7))
 (cb (decide (0≤h∧h<(z:Int)))
 (bn i (Int.toNat h*5+0) fun d=>bX d fun s=>bn i (Int.toNat h*5+1) fun ad=>bX ad fun a6=>bn i (Int.toNat h*5+2) fun ae=>bC .i64 ae fun x=>bn i (Int.toNat h*5+3) fun af=>bC .i64 af fun ab=>bn i (Int.toNat h*5+4) fun ag=>bX ag fun a8=>bB (call 153 [D.agg [D.str s,D.str a6,D.int .i64 x,D.int .i64 ab,D.str a8]]) fun r=>bR r fun b=>bB (call 154 [D.agg [D.slc M O K,D.slc V W U,D.slc Z q Y,D.slc a0 z i,D.slc a2 J a1,D.slc a4 a5 a3],D.str s]) fun ah=>bC .i64 ah fun ak=>bx (decide (ak<0))
 (gx call L C n a0 z i a7 h M O K V W U Z q Y a2 J a1 a4 a5 a3 a9 aa true s a6 x ab a8 s x b)
 (bB (call 154 [D.agg [D.slc M O K,D.slc V W U,D.slc Z q Y,D.slc a0 z i,D.slc a2 J a1,D.slc a4 a5 a3],D.str a6]) fun ai=>bC .i64 ai fun al=>bx (decide (al<0))
 (gx call L C n a0 z i a7 h M O K V W U Z q Y a2 J a1 a4 a5 a3 a9 aa true s a6 x ab a8 s x b)
 (bB (call 118 [D.int .i64 x,D.int .i64 1,D.int .i64 (q:Int)]) fun aj=>bR aj fun ac=>gx call L C n a0 z i a7 h M O K V W U Z q Y a2 J a1 a4 a5 a3 a9 aa ac s a6 x ab a8 s x b))))
 (mH call L C L a2 J a1 M O K V W U Z q Y a0 z i a4 a5 a3 ((J:Int)) 0)):=by kernel_rfl
theorem Hl(call:CL)(L:Nat)(C:Nat→Nat)(q:Bool)(r:Nat)(i:List D)(J:Bool)(K:Nat)(z:List D)(O:Bool)(U:Nat)(M:List D)(W:Bool)(h:Nat)(V:List D)(Z:Bool)(a0:Nat)(Y:List D)(a2:Bool)(a3:Nat)(a1:List D):bS (cz call L C) J8 J7 FinM.canon Tryz.f88 [D.agg [D.slc q r i,D.slc J K z,D.slc O U M,D.slc W h V,D.slc Z a0 Y,D.slc a2 a3 a1]]=
 (qw call L C L W h V q r i J K z O U M Z a0 Y a2 a3 a1 ((h:Int)) 0 ([]) ([])):=by kernel_rfl
def J9:bK:=fun p=>match p with
 |58=>nm [3,12,13,14] [1,5,8] [1,5,8,10]
 |7475=>nm [3,5,12,13,14] [1,8] [1,5,8,10]
 |59806=>nm [3,5,12,13,14,45,46,47] [1,8] [1,5,8,10]
 |_=>none
noncomputable def kr(call:CL)(L:Nat)(C:Nat→Nat)(n r:Nat)(a1:Bool)(a2:Nat)(a0:List D)(t13 t14:Int)(i:Bool)(q:Nat)(h:List D)(U:ByteArray)(W:Bool)(Y:Nat)(V:List D)(M O:Int)(z K:List D):Option D:=
 ch (cz call L C) O0 J9 FinM.canon Tryz.f89 (bt 15 15563) [n] r (St.mk (J::J::J::D.mloc 10 0::J::D.loc 5 0 0::jn 6 (D.slc a1 a2 a0::D.int .i64 t13::D.int .i64 t14::jn 30 (D.slc i q h::D.int .i64 M::D.int .i64 O::jn 12 []))) (zn 5 ((1,some (Ob.box [D.str U,D.slc W Y V,D.slc i q h] false))::Z::Z::Z::Z::(1,some (Ob.map z K false))::zn 49 [])))
noncomputable def mI(call:CL)(L:Nat)(C:Nat→Nat)(n:Nat)(W:Bool)(Y:Nat)(V:List D)(t13 t14:Int)(h i:List D)(q:ByteArray)(z:Bool)(K:Nat)(r:List D)(O:Bool)(U:Nat)(M:List D):Option D:=
 eY (cz call L C) O0 J9 FinM.canon Tryz.f89 (bt 12 3275) [n] (C 7475) (St.mk (J::J::J::D.mloc 10 0::J::D.loc 5 0 0::jn 6 (D.slc W Y V::D.int .i64 t13::D.int .i64 t14::jn 45 [])) (zn 5 ((1,some (Ob.box [D.str q,D.slc z K r,D.slc O U M] false))::Z::Z::Z::Z::(1,some (Ob.map h i false))::zn 49 [])))
noncomputable def qy(call:CL)(L:Nat)(C:Nat→Nat)(n:Nat)(r:Bool)(z:Nat)(q:List D)(t13 t14:Int)(h i:List D):Option D:=
 ch (cz call L C) O0 J9 FinM.canon Tryz.f89 (bt 5 11) [] n (St.mk (J::J::J::D.mloc 10 0::jn 8 (D.slc r z q::D.int .i64 t13::D.int .i64 t14::jn 45 [])) (zn 10 ((1,some (Ob.map h i false))::zn 49 [])))
theorem mJ(call:CL)(L:Nat)(C:Nat→Nat)(n Y:Nat)(V:Bool)(W:Nat)(U:List D)(t13 t14:Int)(a0:Bool)(O:Nat)(i:List D)(Z:ByteArray)(K:Bool)(M:Nat)(J:List D)(z h:Int)(q r:List D):kr call L C n (Y+1) V W U t13 t14 a0 O i Z K M J z h q r=
 (bx (decide (h<z))
 (cb (decide (0≤h∧h<(O:Int)))
 (bn i (Int.toNat h*2+0) fun a3=>bX a3 fun a8=>bn i (Int.toNat h*2+1) fun a4=>cU a4 fun a5 a6 a2=>bB (call 41 [D.slc K M J,D.agg [D.str a8,D.slc a5 a6 a2]]) fun a7=>bC .i64 a7 fun a1=>bx (a1 !=0)
 (some (D.int .i64 a1))
 (kr call L C n Y V W U t13 t14 a0 O i Z K M J z (IntKind.wrap .i64 (h+1)) q r)))
 (qy call L C n V W U t13 (IntKind.wrap .i64 (t14+1)) q r)):=by kernel_rfl
theorem vV(call:CL)(L:Nat)(C:Nat→Nat)(n:Nat)(V:Bool)(W:Nat)(U:List D)(t13 t14:Int)(q r:List D)(h:ByteArray)(J:Bool)(K:Nat)(z:List D)(O:Bool)(i:Nat)(M:List D)(hC:∀t,C t=1):mI call L C n V W U t13 t14 q r h J K z O i M=
 (kE (iZ (D.str h) (D.bool true) q r) fun ks vs=>kr call L C n L V W U t13 t14 O i M h J K z ((i:Int)) 0 ks vs):=by
 unfold mI;rw[hC]
 kernel_rfl
theorem sH(call:CL)(L:Nat)(C:Nat→Nat)(n:Nat)(O:Bool)(M:Nat)(h:List D)(t13 t14:Int)(J K:List D):qy call L C (n+1) O M h t13 t14 J K=
 (bx (decide (t14<t13))
 (cb (decide (0≤t14∧t14<(M:Int)))
 (bn h (Int.toNat t14*3+0) fun d=>bX d fun s=>bn h (Int.toNat t14*3+1) fun a0=>cU a0 fun f q c=>bn h (Int.toNat t14*3+2) fun a1=>cU a1 fun V z U=>bB (call 111 [D.str s]) fun r=>bR r fun b=>bB (call 119 [D.bool !b,D.int .i64 8]) fun a3=>bC .i64 a3 fun x=>
 (fS (cE (D.str s) J 0)
 (bB (call 119 [D.bool false,D.int .i64 9]) fun a5=>bC .i64 a5 fun ac=>bB (call 109 [D.slc f q c]) fun a6=>bC .i64 a6 fun ad=>bB (call 119 [D.bool (decide ((z:Int)>200)),D.int .i64 5]) fun a7=>bC .i64 a7 fun ae=>bB (call 87 [D.slc true 4 [D.int .i64 x,D.int .i64 ac,D.int .i64 ad,D.int .i64 ae]]) fun a8=>bC .i64 a8 fun W=>bx (W !=0)
 (some (D.int .i64 W))
 (mI call L C n O M h t13 t14 J K s f q c V z U)) fun i=>bn K i fun a2=>bR a2 fun Z=>bB (call 119 [D.bool Z,D.int .i64 9]) fun a9=>bC .i64 a9 fun af=>bB (call 109 [D.slc f q c]) fun aa=>bC .i64 aa fun ag=>bB (call 119 [D.bool (decide ((z:Int)>200)),D.int .i64 5]) fun ab=>bC .i64 ab fun ah=>bB (call 87 [D.slc true 4 [D.int .i64 x,D.int .i64 af,D.int .i64 ag,D.int .i64 ah]]) fun a4=>bC .i64 a4 fun Y=>bx (Y !=0)
 (some (D.int .i64 Y))
 (mI call L C n O M h t13 t14 J K s f q c V z U))))
 (some (D.int .i64 0))):=by kernel_rfl
theorem Hm(call:CL)(L:Nat)(C:Nat→Nat)(z:Bool)(J:Nat)(r:List D)(M:Bool)(O:Nat)(K:List D)(V:Bool)(W:Nat)(U:List D)(Z:Bool)(a0:Nat)(Y:List D)(a2:Bool)(a3:Nat)(a1:List D)(q:Bool)(h:Nat)(i:List D):bS (cz call L C) O0 J9 FinM.canon Tryz.f89 [D.agg [D.slc z J r,D.slc M O K,D.slc V W U,D.slc Z a0 Y,D.slc a2 a3 a1,D.slc q h i]]=
 (qy call L C L q h i ((h:Int)) 0 ([]) ([])):=by kernel_rfl
def CA:bK:=fun p=>match p with
 |7=>nm [1] [] [1]
 |58=>nm [1,3] [] [1]
 |127=>nm [1,4] [] [1]
 |250=>nm [1,4,5] [] [1]
 |1018=>nm [1,4,6] [] [1]
 |2042=>nm [1,4,7] [] [1]
 |4090=>nm [1,4,8] [] [1]
 |8169=>nm [1,7] [] [1]
 |_=>none
noncomputable def qz(call:CL)(L:Nat)(C:Nat→Nat)(h:Nat)(i:Int)(r:Bool)(z:Nat)(q:List D)(M:Bool)(O:Nat)(K:List D)(V:Bool)(W:Nat)(U:List D)(a0:Bool)(a1:Nat)(Y:List D)(a3:Bool)(a4:Nat)(a2:List D)(a6:Bool)(a7:Nat)(a5:List D):Option D:=
 eY (cz call L C) O0 CA FinM.canon Tryz.f16 (bt 12 2431) [h] (C 8169) (St.mk (J::D.loc 1 0 0::jn 5 (D.int .i64 i::jn 143 [])) (Z::(1,some (Ob.box [D.slc r z q,D.slc M O K,D.slc V W U,D.slc a0 a1 Y,D.slc a3 a4 a2,D.slc a6 a7 a5] false))::zn 149 []))
noncomputable def iE(call:CL)(L:Nat)(C:Nat→Nat)(h:Nat)(z:Bool)(K:Nat)(r:List D)(O:Bool)(U:Nat)(M:List D)(W:Bool)(Y:Nat)(V:List D)(a1:Bool)(a2:Nat)(a0:List D)(a4:Bool)(a5:Nat)(a3:List D)(a7:Bool)(a8:Nat)(a6:List D)(i q:Int):Option D:=
 ch (cz call L C) O0 CA FinM.canon Tryz.f16 (bt 11 767) [] h (St.mk (J::D.loc 1 0 0::J::J::D.int .i64 i::J::J::J::D.int .i64 q::jn 142 []) (Z::(1,some (Ob.box [D.slc z K r,D.slc O U M,D.slc W Y V,D.slc a1 a2 a0,D.slc a4 a5 a3,D.slc a7 a8 a6] false))::zn 149 []))
noncomputable def fw(call:CL)(L:Nat)(C:Nat→Nat)(h:Nat)(z:Bool)(K:Nat)(r:List D)(O:Bool)(U:Nat)(M:List D)(W:Bool)(Y:Nat)(V:List D)(a1:Bool)(a2:Nat)(a0:List D)(a4:Bool)(a5:Nat)(a3:List D)(a7:Bool)(a8:Nat)(a6:List D)(i q:Int):Option D:=
 ch (cz call L C) O0 CA FinM.canon Tryz.f16 (bt 10 383) [] h (St.mk (J::D.loc 1 0 0::J::J::D.int .i64 i::J::J::D.int .i64 q::jn 143 []) (Z::(1,some (Ob.box [D.slc z K r,D.slc O U M,D.slc W Y V,D.slc a1 a2 a0,D.slc a4 a5 a3,D.slc a7 a8 a6] false))::zn 149 []))
noncomputable def mK(call:CL)(L:Nat)(C:Nat→Nat)(h:Nat)(z:Bool)(K:Nat)(r:List D)(O:Bool)(U:Nat)(M:List D)(W:Bool)(Y:Nat)(V:List D)(a1:Bool)(a2:Nat)(a0:List D)(a4:Bool)(a5:Nat)(a3:List D)(a7:Bool)(a8:Nat)(a6:List D)(i q:Int):Option D:=
 ch (cz call L C) O0 CA FinM.canon Tryz.f16 (bt 9 191) [] h (St.mk (J::D.loc 1 0 0::J::J::D.int .i64 i::J::D.int .i64 q::jn 144 []) (Z::(1,some (Ob.box [D.slc z K r,D.slc O U M,D.slc W Y V,D.slc a1 a2 a0,D.slc a4 a5 a3,D.slc a7 a8 a6] false))::zn 149 []))
noncomputable def fQ(call:CL)(L:Nat)(C:Nat→Nat)(q:Bool)(r:Nat)(i:List D)(K:Bool)(M:Nat)(z:List D)(U:Bool)(V:Nat)(O:List D)(Y:Bool)(a0:Nat)(W:List D)(a2:Bool)(a3:Nat)(a1:List D)(a5:Bool)(a6:Nat)(a4:List D)(h:Int):Option D:=
 eY (cz call L C) O0 CA FinM.canon Tryz.f16 (bt 6 63) [] (C 127) (St.mk (J::D.loc 1 0 0::J::J::D.int .i64 h::jn 146 []) (Z::(1,some (Ob.box [D.slc q r i,D.slc K M z,D.slc U V O,D.slc Y a0 W,D.slc a2 a3 a1,D.slc a5 a6 a4] false))::zn 149 []))
noncomputable def ku(call:CL)(L:Nat)(C:Nat→Nat)(h:Nat)(z:Bool)(K:Nat)(r:List D)(O:Bool)(U:Nat)(M:List D)(W:Bool)(Y:Nat)(V:List D)(a1:Bool)(a2:Nat)(a0:List D)(a4:Bool)(a5:Nat)(a3:List D)(a7:Bool)(a8:Nat)(a6:List D)(i q:Int):Option D:=
 ch (cz call L C) O0 CA FinM.canon Tryz.f16 (bt 7 47) [] h (St.mk (J::D.loc 1 0 0::J::J::D.int .i64 i::D.int .i64 q::jn 145 []) (Z::(1,some (Ob.box [D.slc z K r,D.slc O U M,D.slc W Y V,D.slc a1 a2 a0,D.slc a4 a5 a3,D.slc a7 a8 a6] false))::zn 149 []))
noncomputable def tV(call:CL)(L:Nat)(C:Nat→Nat)(h:Nat)(r:Bool)(z:Nat)(q:List D)(M:Bool)(O:Nat)(K:List D)(V:Bool)(W:Nat)(U:List D)(a0:Bool)(a1:Nat)(Y:List D)(a3:Bool)(a4:Nat)(a2:List D)(a6:Bool)(a7:Nat)(a5:List D)(i:Int):Option D:=
 ch (cz call L C) O0 CA FinM.canon Tryz.f16 (bt 5 11) [] h (St.mk (J::D.loc 1 0 0::J::D.int .i64 i::jn 147 []) (Z::(1,some (Ob.box [D.slc r z q,D.slc M O K,D.slc V W U,D.slc a0 a1 Y,D.slc a3 a4 a2,D.slc a6 a7 a5] false))::zn 149 []))
noncomputable def yJ(call:CL)(L:Nat)(C:Nat→Nat)(i:Bool)(q:Nat)(h:List D)(z:Bool)(K:Nat)(r:List D)(O:Bool)(U:Nat)(M:List D)(W:Bool)(Y:Nat)(V:List D)(a1:Bool)(a2:Nat)(a0:List D)(a4:Bool)(a5:Nat)(a3:List D):Option D:=
 eY (cz call L C) O0 CA FinM.canon Tryz.f16 [true,true] [] (C 7) (St.mk (J::D.loc 1 0 0::jn 149 []) (Z::(1,some (Ob.box [D.slc i q h,D.slc z K r,D.slc O U M,D.slc W Y V,D.slc a1 a2 a0,D.slc a4 a5 a3] false))::zn 149 []))
theorem vW(call:CL)(L:Nat)(C:Nat→Nat)(a5:Nat)(h:Int)(J:Bool)(K:Nat)(z:List D)(O:Bool)(U:Nat)(M:List D)(W:Bool)(Y:Nat)(V:List D)(a0:Bool)(a1:Nat)(Z:List D)(r:Bool)(i:Nat)(q:List D)(a3:Bool)(a4:Nat)(a2:List D)(hC:∀t,C t=1):qz call L C a5 h J K z O U M W Y V a0 a1 Z r i q a3 a4 a2=
 (cb (decide (0≤h∧h<(i:Int)))
 (bn q (Int.toNat h*1) fun a7=>bX a7 fun ad=>bB (call 23 [D.agg [D.slc J K z,D.slc O U M,D.slc W Y V,D.slc a0 a1 Z,D.slc r i q,D.slc a3 a4 a2],D.str ad]) fun aa=>bC .i64 aa fun ag=>bx (decide (ag<0))
 (fw call L C a5 J K z O U M W Y V a0 a1 Z r i q a3 a4 a2 10 (IntKind.wrap .i64 (h+1)))
 (cb (decide (0≤(0:Int)∧(0:Int)≤h∧h≤(i:Int)))
 (cb (decide (0≤h∧h<(i:Int)))
 (bn q (Int.toNat h*1) fun a8=>bX a8 fun ae=>bB (call 81 [D.slc (r&&decide (h=(i:Int))) (Int.toNat (h-(0:Int))) (List.take (Int.toNat (h-(0:Int))*1) q),D.str ae]) fun ab=>bR ab fun a6=>bx a6
 (fw call L C a5 J K z O U M W Y V a0 a1 Z r i q a3 a4 a2 9 (IntKind.wrap .i64 (h+1)))
 (cb (decide (0≤h∧h<(i:Int)))
 (bn q (Int.toNat h*1) fun a9=>bX a9 fun af=>bB (call 29 [D.agg [D.slc J K z,D.slc O U M,D.slc W Y V,D.slc a0 a1 Z,D.slc r i q,D.slc a3 a4 a2],D.str af]) fun ac=>bC .i64 ac fun ah=>fw call L C a5 J K z O U M W Y V a0 a1 Z r i q a3 a4 a2 ah (IntKind.wrap .i64 (h+1))))))))):=by
 unfold qz;rw[hC]
 kernel_rfl
theorem n9(call:CL)(L:Nat)(C:Nat→Nat)(a6:Nat)(z:Bool)(J:Nat)(r:List D)(M:Bool)(O:Nat)(K:List D)(V:Bool)(W:Nat)(U:List D)(Z:Bool)(a0:Nat)(Y:List D)(a2:Bool)(a3:Nat)(a1:List D)(a5:Bool)(q:Nat)(a4:List D)(h i:Int):iE call L C (a6+1) z J r M O K V W U Z a0 Y a2 a3 a1 a5 q a4 h i=
 (bx (decide (i<(q:Int)))
 (bx (h==0)
 (bB (call 85 [D.agg [D.slc z J r,D.slc M O K,D.slc V W U,D.slc Z a0 Y,D.slc a2 a3 a1,D.slc a5 q a4],D.int .i64 i]) fun a7=>bC .i64 a7 fun a8=>iE call L C a6 z J r M O K V W U Z a0 Y a2 a3 a1 a5 q a4 a8 (IntKind.wrap .i64 (i+1)))
 (some (D.int .i64 h)))
 (some (D.int .i64 h))):=by kernel_rfl
theorem oa(call:CL)(L:Nat)(C:Nat→Nat)(a6:Nat)(r:Bool)(z:Nat)(q:List D)(K:Bool)(M:Nat)(J:List D)(U:Bool)(V:Nat)(O:List D)(Y:Bool)(Z:Nat)(W:List D)(a1:Bool)(h:Nat)(a0:List D)(a3:Bool)(a4:Nat)(a2:List D)(i a5:Int):fw call L C (a6+1) r z q K M J U V O Y Z W a1 h a0 a3 a4 a2 i a5=
 (bx (decide (a5<(h:Int)))
 (bx (i==0)
 (qz call L C a6 a5 r z q K M J U V O Y Z W a1 h a0 a3 a4 a2)
 (iE call L C L r z q K M J U V O Y Z W a1 h a0 a3 a4 a2 i 0))
 (iE call L C L r z q K M J U V O Y Z W a1 h a0 a3 a4 a2 i 0)):=by kernel_rfl
theorem oe(call:CL)(L:Nat)(C:Nat→Nat)(a6:Nat)(q:Bool)(r:Nat)(i:List D)(J:Bool)(K:Nat)(z:List D)(O:Bool)(U:Nat)(M:List D)(W:Bool)(h:Nat)(V:List D)(Z:Bool)(a0:Nat)(Y:List D)(a2:Bool)(a3:Nat)(a1:List D)(a4 a5:Int):mK call L C (a6+1) q r i J K z O U M W h V Z a0 Y a2 a3 a1 a4 a5=
 (bx (decide (a5<(h:Int)))
 (bx (a4==0)
 (bB (call 84 [D.agg [D.slc q r i,D.slc J K z,D.slc O U M,D.slc W h V,D.slc Z a0 Y,D.slc a2 a3 a1],D.int .i64 a5]) fun a7=>bC .i64 a7 fun a8=>mK call L C a6 q r i J K z O U M W h V Z a0 Y a2 a3 a1 a8 (IntKind.wrap .i64 (a5+1)))
 (fw call L C L q r i J K z O U M W h V Z a0 Y a2 a3 a1 a4 0))
 (fw call L C L q r i J K z O U M W h V Z a0 Y a2 a3 a1 a4 0)):=by kernel_rfl
theorem xJ(call:CL)(L:Nat)(C:Nat→Nat)(q:Bool)(r:Nat)(i:List D)(J:Bool)(K:Nat)(z:List D)(O:Bool)(U:Nat)(M:List D)(W:Bool)(Y:Nat)(V:List D)(a0:Bool)(a1:Nat)(Z:List D)(a3:Bool)(a4:Nat)(a2:List D)(h:Int)(hC:∀t,C t=1):fQ call L C q r i J K z O U M W Y V a0 a1 Z a3 a4 a2 h=
 (mK call L C L q r i J K z O U M W Y V a0 a1 Z a3 a4 a2 h 0):=by
 unfold fQ;rw[hC]
 kernel_rfl
theorem qA(call:CL)(L:Nat)(C:Nat→Nat)(a6:Nat)(J:Bool)(K:Nat)(z:List D)(O:Bool)(r:Nat)(M:List D)(q:Bool)(h:Nat)(i:List D)(V:Bool)(W:Nat)(U:List D)(Z:Bool)(a0:Nat)(Y:List D)(a2:Bool)(a3:Nat)(a1:List D)(ve a5:Int):ku call L C (a6+1) J K z O r M q h i V W U Z a0 Y a2 a3 a1 ve a5=
 (bx (decide (a5<(r:Int)))
 (bx (ve==0)
 (bB (call 82 [D.agg [D.slc J K z,D.slc O r M,D.slc q h i,D.slc V W U,D.slc Z a0 Y,D.slc a2 a3 a1],D.int .i64 a5]) fun a7=>bC .i64 a7 fun x=>ku call L C a6 J K z O r M q h i V W U Z a0 Y a2 a3 a1 x (IntKind.wrap .i64 (a5+1)))
 (bx (ve==0)
 (bx (decide ((h:Int)>0))
 (bB (call 83 [D.slc q h i]) fun a8=>bC .i64 a8 fun aa=>fQ call L C J K z O r M q h i V W U Z a0 Y a2 a3 a1 aa)
 (fQ call L C J K z O r M q h i V W U Z a0 Y a2 a3 a1 ve))
 (fQ call L C J K z O r M q h i V W U Z a0 Y a2 a3 a1 ve)))
 (bx (ve==0)
 (bx (decide ((h:Int)>0))
 (bB (call 83 [D.slc q h i]) fun a9=>bC .i64 a9 fun ab=>fQ call L C J K z O r M q h i V W U Z a0 Y a2 a3 a1 ab)
 (fQ call L C J K z O r M q h i V W U Z a0 Y a2 a3 a1 ve))
 (fQ call L C J K z O r M q h i V W U Z a0 Y a2 a3 a1 ve))):=by kernel_rfl
theorem sI(call:CL)(L:Nat)(C:Nat→Nat)(a6:Nat)(z:Bool)(i:Nat)(q:List D)(K:Bool)(M:Nat)(J:List D)(U:Bool)(V:Nat)(O:List D)(Y:Bool)(Z:Nat)(W:List D)(a1:Bool)(a2:Nat)(a0:List D)(a4:Bool)(a5:Nat)(a3:List D)(h:Int):tV call L C (a6+1) z i q K M J U V O Y Z W a1 a2 a0 a4 a5 a3 h=
 (bx (decide (h<(i:Int)))
 (cb (decide (0≤h∧h<(i:Int)))
 (bn q (Int.toNat h*1) fun d=>bX d fun s=>bB (call 80 [D.str s]) fun r=>bR r fun b=>bx (!b)
 (some (D.int .i64 8))
 (cb (decide (0≤(0:Int)∧(0:Int)≤h∧h≤(i:Int)))
 (cb (decide (0≤h∧h<(i:Int)))
 (bn q (Int.toNat h*1) fun a8=>bX a8 fun aa=>bB (call 81 [D.slc (z&&decide (h=(i:Int))) (Int.toNat (h-(0:Int))) (List.take (Int.toNat (h-(0:Int))*1) q),D.str aa]) fun a9=>bR a9 fun a7=>bx a7
 (some (D.int .i64 9))
 (tV call L C a6 z i q K M J U V O Y Z W a1 a2 a0 a4 a5 a3 (IntKind.wrap .i64 (h+1))))))))
 (ku call L C L z i q K M J U V O Y Z W a1 a2 a0 a4 a5 a3 0 0)):=by kernel_rfl
theorem B4(call:CL)(L:Nat)(C:Nat→Nat)(i:Bool)(q:Nat)(h:List D)(z:Bool)(J:Nat)(r:List D)(M:Bool)(O:Nat)(K:List D)(V:Bool)(W:Nat)(U:List D)(Z:Bool)(a0:Nat)(Y:List D)(a2:Bool)(a3:Nat)(a1:List D)(hC:∀t,C t=1):yJ call L C i q h z J r M O K V W U Z a0 Y a2 a3 a1=
 (tV call L C L i q h z J r M O K V W U Z a0 Y a2 a3 a1 0):=by
 unfold yJ;rw[hC]
 kernel_rfl
theorem Hn(call:CL)(L:Nat)(C:Nat→Nat)(K:Bool)(h:Nat)(J:List D)(O:Bool)(i:Nat)(M:List D)(V:Bool)(W:Nat)(U:List D)(Z:Bool)(q:Nat)(Y:List D)(a1:Bool)(r:Nat)(a0:List D)(a3:Bool)(z:Nat)(a2:List D):bS (cz call L C) O0 CA FinM.canon Tryz.f16 [D.agg [D.slc K h J,D.slc O i M,D.slc V W U,D.slc Z q Y,D.slc a1 r a0,D.slc a3 z a2]]=
 (bx (decide ((h:Int)>256))
 (some (D.int .i64 5))
 (bx (decide ((i:Int)>200))
 (some (D.int .i64 5))
 (bx (decide ((q:Int)>1000))
 (some (D.int .i64 5))
 (bx (decide ((r:Int)>200))
 (some (D.int .i64 5))
 (bx (decide ((z:Int)>256))
 (some (D.int .i64 5))
 (yJ call L C K h J O i M V W U Z q Y a1 r a0 a3 z a2)))))):=by kernel_rfl
theorem Ho(call:CL)(L:Nat)(C:Nat→Nat)(z:Bool)(J:Nat)(q:List D)(M:Bool)(K:Nat)(i:List D)(U:Bool)(V:Nat)(O:List D)(Y:Bool)(Z:Nat)(W:List D)(a1:Bool)(a2:Nat)(a0:List D)(a4:Bool)(a5:Nat)(a3:List D)(h:Int):bS (cz call L C) O0 N0 FinM.canon Tryz.f82 [D.agg [D.slc z J q,D.slc M K i,D.slc U V O,D.slc Y Z W,D.slc a1 a2 a0,D.slc a4 a5 a3],D.int .i64 h]=
 (cb (decide (0≤h∧h<(K:Int)))
 (bn i (Int.toNat h*3+0) fun d=>bX d fun s=>bn i (Int.toNat h*3+1) fun a7=>bX a7 fun ab=>bn i (Int.toNat h*3+2) fun a8=>bC .i64 a8 fun x=>bB (call 80 [D.str s]) fun r=>bR r fun b=>bx (!b)
 (some (D.int .i64 8))
 (bB (call 23 [D.agg [D.slc z J q,D.slc M K i,D.slc U V O,D.slc Y Z W,D.slc a1 a2 a0,D.slc a4 a5 a3],D.str s]) fun a9=>bC .i64 a9 fun ac=>bx (decide (ac<h))
 (some (D.int .i64 9))
 (bB (call 81 [D.slc z J q,D.str ab]) fun aa=>bR aa fun a6=>bx (!a6)
 (some (D.int .i64 10))
 (bx (decide (x< -99))
 (some (D.int .i64 3))
 (bx (decide (x>99))
 (some (D.int .i64 3))
 (some (D.int .i64 0)))))))):=by kernel_rfl
def Ml:bK:=fun p=>match p with
 |15=>nm [1,2,5] [] [2,5]
 |_=>none
noncomputable def xK(call:CL)(L:Nat)(C:Nat→Nat)(h:Int)(O:Bool)(U:Nat)(M:List D)(W:Bool)(Y:Nat)(V:List D)(a1:Bool)(a2:Nat)(a0:List D)(a4:Bool)(a5:Nat)(a3:List D)(a7:Bool)(a8:Nat)(a6:List D)(aa:Bool)(ab:Nat)(a9:List D)(i q:ByteArray)(r z:Int)(K:ByteArray):Option D:=
 eY (cz call L C) O0 Ml FinM.canon Tryz.f84 [true,true,true] [] (C 15) (St.mk (J::D.int .i64 h::D.loc 2 0 0::J::J::D.loc 5 0 0::jn 52 []) (Z::Z::(1,some (Ob.box [D.slc O U M,D.slc W Y V,D.slc a1 a2 a0,D.slc a4 a5 a3,D.slc a7 a8 a6,D.slc aa ab a9] false))::Z::Z::(1,some (Ob.box [D.str i,D.str q,D.int .i64 r,D.int .i64 z,D.str K] false))::zn 52 []))
theorem zF(call:CL)(L:Nat)(C:Nat→Nat)(q:Int)(O:Bool)(U:Nat)(M:List D)(W:Bool)(Y:Nat)(V:List D)(a0:Bool)(a1:Nat)(Z:List D)(a3:Bool)(a4:Nat)(a2:List D)(a6:Bool)(a7:Nat)(a5:List D)(a9:Bool)(aa:Nat)(a8:List D)(h r:ByteArray)(z J:Int)(K:ByteArray)(hC:∀t,C t=1):xK call L C q O U M W Y V a0 a1 Z a3 a4 a2 a6 a7 a5 a9 aa a8 h r z J K=
 (bB (call 145 [D.agg [D.int .i64 J,D.str K]]) fun ab=>bC .i64 ab fun i=>bx (i==0)
 (bB (call 95 [D.agg [D.slc O U M,D.slc W Y V,D.slc a0 a1 Z,D.slc a3 a4 a2,D.slc a6 a7 a5,D.slc a9 aa a8],D.str h,D.int .i64 z,D.bool (ByteArray.toList r==ByteArray.toList h)]) fun ac=>bC .i64 ac fun ad=>bx (decide (ad<q))
 (some (D.int .i64 9))
 (some (D.int .i64 i)))
 (some (D.int .i64 i))):=by
 unfold xK;rw[hC]
 kernel_rfl
theorem Hp(call:CL)(L:Nat)(C:Nat→Nat)(K:Bool)(M:Nat)(J:List D)(U:Bool)(V:Nat)(O:List D)(Y:Bool)(q:Nat)(W:List D)(Z:Bool)(z:Nat)(i:List D)(a1:Bool)(a2:Nat)(a0:List D)(a4:Bool)(a5:Nat)(a3:List D)(h:Int):bS (cz call L C) O0 Ml FinM.canon Tryz.f84 [D.agg [D.slc K M J,D.slc U V O,D.slc Y q W,D.slc Z z i,D.slc a1 a2 a0,D.slc a4 a5 a3],D.int .i64 h]=
 (cb (decide (0≤h∧h<(z:Int)))
 (bn i (Int.toNat h*5+0) fun d=>bX d fun s=>bn i (Int.toNat h*5+1) fun a7=>bX a7 fun a6=>bn i (Int.toNat h*5+2) fun a8=>bC .i64 a8 fun x=>bn i (Int.toNat h*5+3) fun a9=>bC .i64 a9 fun ad=>bn i (Int.toNat h*5+4) fun aa=>bX aa fun ac=>bB (call 23 [D.agg [D.slc K M J,D.slc U V O,D.slc Y q W,D.slc Z z i,D.slc a1 a2 a0,D.slc a4 a5 a3],D.str s]) fun r=>bC .i64 r fun ae=>bx (decide (ae<0))
 (some (D.int .i64 10))
 (bB (call 23 [D.agg [D.slc K M J,D.slc U V O,D.slc Y q W,D.slc Z z i,D.slc a1 a2 a0,D.slc a4 a5 a3],D.str a6]) fun ab=>bC .i64 ab fun af=>bx (decide (af<0))
 (some (D.int .i64 10))
 (bx (decide (x<1))
 (some (D.int .i64 10))
 (bx (decide (x>(q:Int)))
 (some (D.int .i64 10))
 (xK call L C h K M J U V O Y q W Z z i a1 a2 a0 a4 a5 a3 s a6 x ad ac)))))):=by kernel_rfl
def Lq:bK:=fun p=>match p with
 |127=>nm [5,6] [2] [2,5]
 |1018=>nm [5,6,7] [2] [2,5]
 |_=>none
noncomputable def mL(call:CL)(L:Nat)(C:Nat→Nat)(h:Nat)(q:ByteArray)(z:Bool)(J:Nat)(r:List D)(M:Bool)(O:Nat)(K:List D)(i U:Int):Option D:=
 ch (cz call L C) O0 Lq FinM.canon Tryz.f85 (bt 9 191) [] h (St.mk (jn 5 (D.loc 5 0 0::D.int .i64 i::D.int .i64 U::jn 46 [])) (zn 5 ((1,some (Ob.box [D.str q,D.slc z J r,D.slc M O K] false))::zn 48 [])))
noncomputable def kv(call:CL)(L:Nat)(C:Nat→Nat)(h:Int)(i:ByteArray)(r:Bool)(z:Nat)(q:List D)(K:Bool)(M:Nat)(J:List D):Option D:=
 eY (cz call L C) O0 Lq FinM.canon Tryz.f85 (bt 6 63) [] (C 127) (St.mk (jn 5 (D.loc 5 0 0::D.int .i64 h::jn 47 [])) (zn 5 ((1,some (Ob.box [D.str i,D.slc r z q,D.slc K M J] false))::zn 48 [])))
theorem og(call:CL)(L:Nat)(C:Nat→Nat)(M:Nat)(O:ByteArray)(J:Bool)(K:Nat)(z:List D)(U:Bool)(r:Nat)(q:List D)(i h:Int):mL call L C (M+1) O J K z U r q i h=
 (bx (decide (h<(r:Int)))
 (bx (i==0)
 (cb (decide (0≤h∧h<(r:Int)))
 (bn q (Int.toNat h*2+0) fun W=>bX W fun a2=>bn q (Int.toNat h*2+1) fun Y=>cU Y fun Z a0 V=>bB (call 152 [D.slc J K z,D.agg [D.str a2,D.slc Z a0 V]]) fun a1=>bC .i64 a1 fun a3=>mL call L C M O J K z U r q a3 (IntKind.wrap .i64 (h+1))))
 (some (D.int .i64 i)))
 (some (D.int .i64 i))):=by kernel_rfl
theorem xL(call:CL)(L:Nat)(C:Nat→Nat)(h:Int)(i:ByteArray)(r:Bool)(z:Nat)(q:List D)(K:Bool)(M:Nat)(J:List D)(hC:∀t,C t=1):kv call L C h i r z q K M J=
 (mL call L C L i r z q K M J h 0):=by
 unfold kv;rw[hC]
 kernel_rfl
theorem Hq(call:CL)(L:Nat)(C:Nat→Nat)(U:Bool)(V:Nat)(O:List D)(Y:Bool)(Z:Nat)(W:List D)(a1:Bool)(a2:Nat)(a0:List D)(a4:Bool)(a5:Nat)(a3:List D)(a7:Bool)(a8:Nat)(a6:List D)(a9:Bool)(K:Nat)(i:List D)(h:Int):bS (cz call L C) O0 Lq FinM.canon Tryz.f85 [D.agg [D.slc U V O,D.slc Y Z W,D.slc a1 a2 a0,D.slc a4 a5 a3,D.slc a7 a8 a6,D.slc a9 K i],D.int .i64 h]=
 (cb (decide (0≤h∧h<(K:Int)))
 (bn i (Int.toNat h*3+0) fun d=>bX d fun s=>bn i (Int.toNat h*3+1) fun aa=>cU aa fun f n c=>bn i (Int.toNat h*3+2) fun ab=>cU ab fun J q z=>bB (call 80 [D.str s]) fun r=>bR r fun b=>bx (!b)
 (some (D.int .i64 8))
 (bB (call 151 [D.agg [D.slc U V O,D.slc Y Z W,D.slc a1 a2 a0,D.slc a4 a5 a3,D.slc a7 a8 a6,D.slc a9 K i],D.str s]) fun ac=>bC .i64 ac fun x=>bx (decide (x<h))
 (some (D.int .i64 9))
 (bB (call 83 [D.slc f n c]) fun ad=>bC .i64 ad fun M=>bx (M==0)
 (bx (decide ((q:Int)>200))
 (kv call L C 5 s f n c J q z)
 (kv call L C M s f n c J q z))
 (kv call L C M s f n c J q z))))):=by kernel_rfl
def Ka:bK:=fun p=>match p with
 |58=>nm [1,2,3,18,19,20] [5,7,9] [1,2,3,5,7,9,28,42,56]
 |122=>nm [1,2,3,32,33,34] [5,7,9] [1,2,3,5,7,9,28,42,56]
 |250=>nm [2,3,46,47,48] [1,5,7,9] [1,2,3,5,7,9,28,42,56]
 |_=>none
noncomputable def cT(call:CL)(L:Nat)(C:Nat→Nat)(r:Nat)(a4:Bool)(a5:Nat)(a3:List D)(O:Bool)(U:Nat)(M:List D)(W:Bool)(Y:Nat)(V:List D)(a1:Bool)(a2:Nat)(a0:List D)(z K:Int)(h:Ow)(i:Ow)(q:Ow):Option D:=
 ch (cz call L C) O0 Ka FinM.canon Tryz.f13 (bt 7 47) [] r (St.mk (J::J::D.loc 2 0 0::D.loc 3 0 0::jn 42 (D.slc a4 a5 a3::D.int .i64 z::D.int .i64 K::jn 11 [])) (Z::Z::(1,some (Ob.box [D.nils,D.nils,D.nils,D.nils,D.nils,D.nils] false))::(1,some (Ob.box [D.slc O U M,ou 28 h,D.slc W Y V,ou 42 i,D.slc a1 a2 a0,ou 56 q] false))::zn 24 (ov 155 3 h::zn 13 (ov 156 5 i::zn 13 [ov 160 3 q,Z,Z,Z]))))
noncomputable def eP(call:CL)(L:Nat)(C:Nat→Nat)(a2:Nat)(V:Bool)(W:Nat)(U:List D)(r:Bool)(z:Nat)(q:List D)(a6:Bool)(a7:Nat)(a5:List D)(M:Bool)(O:Nat)(K:List D)(a0:Bool)(a1:Nat)(Y:List D)(a9:Bool)(aa:Nat)(a8:List D)(a3 a4:Int)(h:Ow)(i:Ow):Option D:=
 ch (cz call L C) O0 Ka FinM.canon Tryz.f13 (bt 6 23) [] a2 (St.mk (J::D.loc 1 0 0::D.loc 2 0 0::D.loc 3 0 0::jn 28 (D.slc V W U::D.int .i64 a3::D.int .i64 a4::jn 25 [])) (Z::(1,some (Ob.box [D.slc r z q,D.slc a6 a7 a5,D.slc M O K,D.slc V W U,D.slc a0 a1 Y,D.slc a9 aa a8] false))::(1,some (Ob.box [D.nils,D.nils,D.nils,D.nils,D.nils,D.nils] false))::(1,some (Ob.box [D.slc r z q,ou 28 h,D.slc M O K,ou 42 i,D.slc a0 a1 Y,D.nils] false))::zn 24 (ov 155 3 h::zn 13 (ov 156 5 i::zn 17 []))))
noncomputable def lL(call:CL)(L:Nat)(C:Nat→Nat)(n:Nat)(K:Bool)(M:Nat)(z:List D)(q:Bool)(r:Nat)(i:List D)(U:Bool)(V:Nat)(O:List D)(a4:Bool)(a5:Nat)(a3:List D)(Y:Bool)(a0:Nat)(W:List D)(a7:Bool)(a8:Nat)(a6:List D)(a1 a2:Int)(h:Ow):Option D:=
 ch (cz call L C) O0 Ka FinM.canon Tryz.f13 (bt 5 11) [] n (St.mk (J::D.loc 1 0 0::D.loc 2 0 0::D.loc 3 0 0::jn 14 (D.slc K M z::D.int .i64 a1::D.int .i64 a2::jn 39 [])) (Z::(1,some (Ob.box [D.slc q r i,D.slc K M z,D.slc U V O,D.slc a4 a5 a3,D.slc Y a0 W,D.slc a7 a8 a6] false))::(1,some (Ob.box [D.nils,D.nils,D.nils,D.nils,D.nils,D.nils] false))::(1,some (Ob.box [D.slc q r i,ou 28 h,D.slc U V O,D.nils,D.slc Y a0 W,D.nils] false))::zn 24 (ov 155 3 h::zn 31 [])))
theorem kX(call:CL)(L:Nat)(C:Nat→Nat)(Z:Nat)(a0:Bool)(Y:Nat)(i:List D)(z:Bool)(J:Nat)(r:List D)(M:Bool)(O:Nat)(K:List D)(V:Bool)(W:Nat)(U:List D)(q h:Int):cT call L C (Z+1) a0 Y i z J r M O K V W U q h (Ow.nil) (Ow.nil) (Ow.nil)=
 (bx (decide (h<q))
 (cb (decide (0≤h∧h<(Y:Int)))
 (bn i (Int.toNat h*3+0) fun a3=>bX a3 fun a8=>bn i (Int.toNat h*3+1) fun a4=>cU a4 fun f a6 c=>bn i (Int.toNat h*3+2) fun a2=>cU a2 fun a5 a7 a1=>cT call L C Z a0 Y i z J r M O K V W U q (IntKind.wrap .i64 (h+1)) (Ow.nil) (Ow.nil) (Ow.own 1 [D.str a8,D.slc f a6 c,D.slc a5 a7 a1])))
 (some (D.agg [D.slc z J r,D.slc true 0 [],D.slc M O K,D.slc true 0 [],D.slc V W U,D.slc true 0 []]))):=by kernel_rfl
theorem kY(call:CL)(L:Nat)(C:Nat→Nat)(a1:Nat)(a2:Bool)(a0:Nat)(q:List D)(K:Bool)(M:Nat)(J:List D)(U:Bool)(V:Nat)(O:List D)(Y:Bool)(Z:Nat)(W:List D)(r h:Int)(i:Nat)(z:List D):cT call L C (a1+1) a2 a0 q K M J U V O Y Z W r h (Ow.nil) (Ow.nil) (Ow.own i z)=
 (bx (decide (h<r))
 (cb (decide (0≤h∧h<(a0:Int)))
 (bn q (Int.toNat h*3+0) fun a5=>bX a5 fun ac=>bn q (Int.toNat h*3+1) fun a6=>cU a6 fun a8 aa a3=>bn q (Int.toNat h*3+2) fun a7=>cU a7 fun a9 ab a4=>cb (decide ((i+1)*64≤cu∧i+1≤9223372036854775807))
 (cT call L C a1 a2 a0 q K M J U V O Y Z W r (IntKind.wrap .i64 (h+1)) (Ow.nil) (Ow.nil) (Ow.own (i+1) (z++[D.str ac,D.slc a8 aa a3,D.slc a9 ab a4])))))
 (some (D.agg [D.slc K M J,D.slc true 0 [],D.slc U V O,D.slc true 0 [],D.slc Y Z W,D.slc false i z]))):=by kernel_rfl
theorem kZ(call:CL)(L:Nat)(C:Nat→Nat)(a1:Nat)(a2:Bool)(a0:Nat)(i:List D)(K:Bool)(M:Nat)(J:List D)(U:Bool)(V:Nat)(O:List D)(Y:Bool)(Z:Nat)(W:List D)(q h:Int)(z:Nat)(r:List D):cT call L C (a1+1) a2 a0 i K M J U V O Y Z W q h (Ow.nil) (Ow.own z r) (Ow.nil)=
 (bx (decide (h<q))
 (cb (decide (0≤h∧h<(a0:Int)))
 (bn i (Int.toNat h*3+0) fun a5=>bX a5 fun ac=>bn i (Int.toNat h*3+1) fun a6=>cU a6 fun a8 aa a3=>bn i (Int.toNat h*3+2) fun a7=>cU a7 fun a9 ab a4=>cT call L C a1 a2 a0 i K M J U V O Y Z W q (IntKind.wrap .i64 (h+1)) (Ow.nil) (Ow.own z r) (Ow.own 1 [D.str ac,D.slc a8 aa a3,D.slc a9 ab a4])))
 (some (D.agg [D.slc K M J,D.slc true 0 [],D.slc U V O,D.slc false z r,D.slc Y Z W,D.slc true 0 []]))):=by kernel_rfl
theorem k9(call:CL)(L:Nat)(C:Nat→Nat)(a3:Nat)(a4:Bool)(a2:Nat)(q:List D)(O:Bool)(U:Nat)(M:List D)(W:Bool)(Y:Nat)(V:List D)(a0:Bool)(a1:Nat)(Z:List D)(r h:Int)(J:Nat)(z:List D)(i:Nat)(K:List D):cT call L C (a3+1) a4 a2 q O U M W Y V a0 a1 Z r h (Ow.nil) (Ow.own J z) (Ow.own i K)=
 (bx (decide (h<r))
 (cb (decide (0≤h∧h<(a2:Int)))
 (bn q (Int.toNat h*3+0) fun a7=>bX a7 fun ae=>bn q (Int.toNat h*3+1) fun a8=>cU a8 fun aa ad a5=>bn q (Int.toNat h*3+2) fun a9=>cU a9 fun ab ac a6=>cb (decide ((i+1)*64≤cu∧i+1≤9223372036854775807))
 (cT call L C a3 a4 a2 q O U M W Y V a0 a1 Z r (IntKind.wrap .i64 (h+1)) (Ow.nil) (Ow.own J z) (Ow.own (i+1) (K++[D.str ae,D.slc aa ad a5,D.slc ab ac a6])))))
 (some (D.agg [D.slc O U M,D.slc true 0 [],D.slc W Y V,D.slc false J z,D.slc a0 a1 Z,D.slc false i K]))):=by kernel_rfl
theorem la(call:CL)(L:Nat)(C:Nat→Nat)(a1:Nat)(a2:Bool)(a0:Nat)(i:List D)(K:Bool)(M:Nat)(J:List D)(U:Bool)(V:Nat)(O:List D)(Y:Bool)(Z:Nat)(W:List D)(q h:Int)(z:Nat)(r:List D):cT call L C (a1+1) a2 a0 i K M J U V O Y Z W q h (Ow.own z r) (Ow.nil) (Ow.nil)=
 (bx (decide (h<q))
 (cb (decide (0≤h∧h<(a0:Int)))
 (bn i (Int.toNat h*3+0) fun a5=>bX a5 fun ac=>bn i (Int.toNat h*3+1) fun a6=>cU a6 fun a8 aa a3=>bn i (Int.toNat h*3+2) fun a7=>cU a7 fun a9 ab a4=>cT call L C a1 a2 a0 i K M J U V O Y Z W q (IntKind.wrap .i64 (h+1)) (Ow.own z r) (Ow.nil) (Ow.own 1 [D.str ac,D.slc a8 aa a3,D.slc a9 ab a4])))
 (some (D.agg [D.slc K M J,D.slc false z r,D.slc U V O,D.slc true 0 [],D.slc Y Z W,D.slc true 0 []]))):=by kernel_rfl
theorem lb(call:CL)(L:Nat)(C:Nat→Nat)(a3:Nat)(a4:Bool)(a2:Nat)(q:List D)(O:Bool)(U:Nat)(M:List D)(W:Bool)(Y:Nat)(V:List D)(a0:Bool)(a1:Nat)(Z:List D)(r h:Int)(J:Nat)(z:List D)(i:Nat)(K:List D):cT call L C (a3+1) a4 a2 q O U M W Y V a0 a1 Z r h (Ow.own J z) (Ow.nil) (Ow.own i K)=
 (bx (decide (h<r))
 (cb (decide (0≤h∧h<(a2:Int)))
 (bn q (Int.toNat h*3+0) fun a7=>bX a7 fun ae=>bn q (Int.toNat h*3+1) fun a8=>cU a8 fun aa ac a5=>bn q (Int.toNat h*3+2) fun a9=>cU a9 fun ab ad a6=>cb (decide ((i+1)*64≤cu∧i+1≤9223372036854775807))
 (cT call L C a3 a4 a2 q O U M W Y V a0 a1 Z r (IntKind.wrap .i64 (h+1)) (Ow.own J z) (Ow.nil) (Ow.own (i+1) (K++[D.str ae,D.slc aa ac a5,D.slc ab ad a6])))))
 (some (D.agg [D.slc O U M,D.slc false J z,D.slc W Y V,D.slc true 0 [],D.slc a0 a1 Z,D.slc false i K]))):=by kernel_rfl
theorem lc(call:CL)(L:Nat)(C:Nat→Nat)(a3:Nat)(a4:Bool)(a2:Nat)(i:List D)(O:Bool)(U:Nat)(M:List D)(W:Bool)(Y:Nat)(V:List D)(a0:Bool)(a1:Nat)(Z:List D)(q h:Int)(z:Nat)(r:List D)(K:Nat)(J:List D):cT call L C (a3+1) a4 a2 i O U M W Y V a0 a1 Z q h (Ow.own z r) (Ow.own K J) (Ow.nil)=
 (bx (decide (h<q))
 (cb (decide (0≤h∧h<(a2:Int)))
 (bn i (Int.toNat h*3+0) fun a7=>bX a7 fun ae=>bn i (Int.toNat h*3+1) fun a8=>cU a8 fun aa ac a5=>bn i (Int.toNat h*3+2) fun a9=>cU a9 fun ab ad a6=>cT call L C a3 a4 a2 i O U M W Y V a0 a1 Z q (IntKind.wrap .i64 (h+1)) (Ow.own z r) (Ow.own K J) (Ow.own 1 [D.str ae,D.slc aa ac a5,D.slc ab ad a6])))
 (some (D.agg [D.slc O U M,D.slc false z r,D.slc W Y V,D.slc false K J,D.slc a0 a1 Z,D.slc true 0 []]))):=by kernel_rfl
theorem ld(call:CL)(L:Nat)(C:Nat→Nat)(a5:Nat)(a6:Bool)(a4:Nat)(q:List D)(V:Bool)(W:Nat)(U:List D)(Z:Bool)(a0:Nat)(Y:List D)(a2:Bool)(a3:Nat)(a1:List D)(r h:Int)(J:Nat)(z:List D)(M:Nat)(K:List D)(i:Nat)(O:List D):cT call L C (a5+1) a6 a4 q V W U Z a0 Y a2 a3 a1 r h (Ow.own J z) (Ow.own M K) (Ow.own i O)=
 (bx (decide (h<r))
 (cb (decide (0≤h∧h<(a4:Int)))
 (bn q (Int.toNat h*3+0) fun a9=>bX a9 fun ag=>bn q (Int.toNat h*3+1) fun aa=>cU aa fun ac ae a7=>bn q (Int.toNat h*3+2) fun ab=>cU ab fun ad af a8=>cb (decide ((i+1)*64≤cu∧i+1≤9223372036854775807))
 (cT call L C a5 a6 a4 q V W U Z a0 Y a2 a3 a1 r (IntKind.wrap .i64 (h+1)) (Ow.own J z) (Ow.own M K) (Ow.own (i+1) (O++[D.str ag,D.slc ac ae a7,D.slc ad af a8])))))
 (some (D.agg [D.slc V W U,D.slc false J z,D.slc Z a0 Y,D.slc false M K,D.slc a2 a3 a1,D.slc false i O]))):=by kernel_rfl
theorem mM(call:CL)(L:Nat)(C:Nat→Nat)(a2:Nat)(a6:Bool)(V:Nat)(i:List D)(J:Bool)(K:Nat)(z:List D)(a4:Bool)(a5:Nat)(a3:List D)(O:Bool)(U:Nat)(M:List D)(Y:Bool)(Z:Nat)(W:List D)(a1:Bool)(q:Nat)(a0:List D)(r h:Int):eP call L C (a2+1) a6 V i J K z a4 a5 a3 O U M Y Z W a1 q a0 r h (Ow.nil) (Ow.nil)=
 (bx (decide (h<r))
 (cb (decide (0≤h∧h<(V:Int)))
 (bn i (Int.toNat h*5+0) fun a7=>bX a7 fun ac=>bn i (Int.toNat h*5+1) fun a8=>bX a8 fun ad=>bn i (Int.toNat h*5+2) fun a9=>bC .i64 a9 fun af=>bn i (Int.toNat h*5+3) fun aa=>bC .i64 aa fun ag=>bn i (Int.toNat h*5+4) fun ab=>bX ab fun ae=>eP call L C a2 a6 V i J K z a4 a5 a3 O U M Y Z W a1 q a0 r (IntKind.wrap .i64 (h+1)) (Ow.nil) (Ow.own 1 [D.str ac,D.str ad,D.int .i64 af,D.int .i64 ag,D.str ae])))
 (cT call L C L a1 q a0 J K z O U M Y Z W ((q:Int)) 0 (Ow.nil) (Ow.nil) (Ow.nil))):=by kernel_rfl
theorem mN(call:CL)(L:Nat)(C:Nat→Nat)(a4:Nat)(a8:Bool)(Y:Nat)(i:List D)(M:Bool)(O:Nat)(K:List D)(a6:Bool)(a7:Nat)(a5:List D)(V:Bool)(W:Nat)(U:List D)(a0:Bool)(a1:Nat)(Z:List D)(a3:Bool)(r:Nat)(a2:List D)(z h:Int)(q:Nat)(J:List D):eP call L C (a4+1) a8 Y i M O K a6 a7 a5 V W U a0 a1 Z a3 r a2 z h (Ow.nil) (Ow.own q J)=
 (bx (decide (h<z))
 (cb (decide (0≤h∧h<(Y:Int)))
 (bn i (Int.toNat h*5+0) fun a9=>bX a9 fun ae=>bn i (Int.toNat h*5+1) fun aa=>bX aa fun af=>bn i (Int.toNat h*5+2) fun ab=>bC .i64 ab fun ah=>bn i (Int.toNat h*5+3) fun ac=>bC .i64 ac fun ai=>bn i (Int.toNat h*5+4) fun ad=>bX ad fun ag=>cb (decide ((q+1)*64≤cu∧q+1≤9223372036854775807))
 (eP call L C a4 a8 Y i M O K a6 a7 a5 V W U a0 a1 Z a3 r a2 z (IntKind.wrap .i64 (h+1)) (Ow.nil) (Ow.own (q+1) (J++[D.str ae,D.str af,D.int .i64 ah,D.int .i64 ai,D.str ag])))))
 (cT call L C L a3 r a2 M O K V W U a0 a1 Z ((r:Int)) 0 (Ow.nil) (Ow.own q J) (Ow.nil))):=by kernel_rfl
theorem mO(call:CL)(L:Nat)(C:Nat→Nat)(a4:Nat)(a8:Bool)(Y:Nat)(i:List D)(M:Bool)(O:Nat)(K:List D)(a6:Bool)(a7:Nat)(a5:List D)(V:Bool)(W:Nat)(U:List D)(a0:Bool)(a1:Nat)(Z:List D)(a3:Bool)(q:Nat)(a2:List D)(r h:Int)(J:Nat)(z:List D):eP call L C (a4+1) a8 Y i M O K a6 a7 a5 V W U a0 a1 Z a3 q a2 r h (Ow.own J z) (Ow.nil)=
 (bx (decide (h<r))
 (cb (decide (0≤h∧h<(Y:Int)))
 (bn i (Int.toNat h*5+0) fun a9=>bX a9 fun ae=>bn i (Int.toNat h*5+1) fun aa=>bX aa fun af=>bn i (Int.toNat h*5+2) fun ab=>bC .i64 ab fun ah=>bn i (Int.toNat h*5+3) fun ac=>bC .i64 ac fun ai=>bn i (Int.toNat h*5+4) fun ad=>bX ad fun ag=>eP call L C a4 a8 Y i M O K a6 a7 a5 V W U a0 a1 Z a3 q a2 r (IntKind.wrap .i64 (h+1)) (Ow.own J z) (Ow.own 1 [D.str ae,D.str af,D.int .i64 ah,D.int .i64 ai,D.str ag])))
 (cT call L C L a3 q a2 M O K V W U a0 a1 Z ((q:Int)) 0 (Ow.own J z) (Ow.nil) (Ow.nil))):=by kernel_rfl
theorem mP(call:CL)(L:Nat)(C:Nat→Nat)(a6:Nat)(aa:Bool)(a0:Nat)(i:List D)(U:Bool)(V:Nat)(O:List D)(a8:Bool)(a9:Nat)(a7:List D)(Y:Bool)(Z:Nat)(W:List D)(a2:Bool)(a3:Nat)(a1:List D)(a5:Bool)(r:Nat)(a4:List D)(z h:Int)(K:Nat)(J:List D)(q:Nat)(M:List D):eP call L C (a6+1) aa a0 i U V O a8 a9 a7 Y Z W a2 a3 a1 a5 r a4 z h (Ow.own K J) (Ow.own q M)=
 (bx (decide (h<z))
 (cb (decide (0≤h∧h<(a0:Int)))
 (bn i (Int.toNat h*5+0) fun ab=>bX ab fun ag=>bn i (Int.toNat h*5+1) fun ac=>bX ac fun ah=>bn i (Int.toNat h*5+2) fun ad=>bC .i64 ad fun aj=>bn i (Int.toNat h*5+3) fun ae=>bC .i64 ae fun ak=>bn i (Int.toNat h*5+4) fun af=>bX af fun ai=>cb (decide ((q+1)*64≤cu∧q+1≤9223372036854775807))
 (eP call L C a6 aa a0 i U V O a8 a9 a7 Y Z W a2 a3 a1 a5 r a4 z (IntKind.wrap .i64 (h+1)) (Ow.own K J) (Ow.own (q+1) (M++[D.str ag,D.str ah,D.int .i64 aj,D.int .i64 ak,D.str ai])))))
 (cT call L C L a5 r a4 U V O Y Z W a2 a3 a1 ((r:Int)) 0 (Ow.own K J) (Ow.own q M) (Ow.nil))):=by kernel_rfl
theorem qB(call:CL)(L:Nat)(C:Nat→Nat)(n:Nat)(O:Bool)(q:Nat)(i:List D)(K:Bool)(M:Nat)(J:List D)(V:Bool)(W:Nat)(U:List D)(Z:Bool)(r:Nat)(Y:List D)(a1:Bool)(a2:Nat)(a0:List D)(a4:Bool)(a5:Nat)(a3:List D)(z h:Int):lL call L C (n+1) O q i K M J V W U Z r Y a1 a2 a0 a4 a5 a3 z h (Ow.nil)=
 (bx (decide (h<z))
 (cb (decide (0≤h∧h<(q:Int)))
 (bn i (Int.toNat h*3+0) fun d=>bX d fun s=>bn i (Int.toNat h*3+1) fun a6=>bX a6 fun a8=>bn i (Int.toNat h*3+2) fun a7=>bC .i64 a7 fun x=>lL call L C n O q i K M J V W U Z r Y a1 a2 a0 a4 a5 a3 z (IntKind.wrap .i64 (h+1)) (Ow.own 1 [D.str s,D.str a8,D.int .i64 x])))
 (eP call L C L Z r Y K M J O q i V W U a1 a2 a0 a4 a5 a3 ((r:Int)) 0 (Ow.nil) (Ow.nil))):=by kernel_rfl
theorem qC(call:CL)(L:Nat)(C:Nat→Nat)(n:Nat)(V:Bool)(r:Nat)(i:List D)(O:Bool)(U:Nat)(M:List D)(Y:Bool)(Z:Nat)(W:List D)(a1:Bool)(z:Nat)(a0:List D)(a3:Bool)(a4:Nat)(a2:List D)(a6:Bool)(a7:Nat)(a5:List D)(J h:Int)(q:Nat)(K:List D):lL call L C (n+1) V r i O U M Y Z W a1 z a0 a3 a4 a2 a6 a7 a5 J h (Ow.own q K)=
 (bx (decide (h<J))
 (cb (decide (0≤h∧h<(r:Int)))
 (bn i (Int.toNat h*3+0) fun a8=>bX a8 fun ab=>bn i (Int.toNat h*3+1) fun a9=>bX a9 fun ac=>bn i (Int.toNat h*3+2) fun aa=>bC .i64 aa fun ad=>cb (decide ((q+1)*40≤cu∧q+1≤9223372036854775807))
 (lL call L C n V r i O U M Y Z W a1 z a0 a3 a4 a2 a6 a7 a5 J (IntKind.wrap .i64 (h+1)) (Ow.own (q+1) (K++[D.str ab,D.str ac,D.int .i64 ad])))))
 (eP call L C L a1 z a0 O U M V r i Y Z W a3 a4 a2 a6 a7 a5 ((z:Int)) 0 (Ow.own q K) (Ow.nil))):=by kernel_rfl
theorem Hr(call:CL)(L:Nat)(C:Nat→Nat)(q:Bool)(r:Nat)(i:List D)(J:Bool)(h:Nat)(z:List D)(M:Bool)(O:Nat)(K:List D)(V:Bool)(W:Nat)(U:List D)(Z:Bool)(a0:Nat)(Y:List D)(a2:Bool)(a3:Nat)(a1:List D):bS (cz call L C) O0 Ka FinM.canon Tryz.f13 [D.agg [D.slc q r i,D.slc J h z,D.slc M O K,D.slc V W U,D.slc Z a0 Y,D.slc a2 a3 a1]]=
 (lL call L C L J h z q r i M O K V W U Z a0 Y a2 a3 a1 ((h:Int)) 0 (Ow.nil)):=by kernel_rfl
def E0:bK:=fun p=>match p with
 |7=>nm [1] [] [1]
 |58=>nm [1,3] [] [1]
 |122=>nm [1,4] [] [1]
 |250=>nm [1,5] [] [1]
 |506=>nm [1,6] [] [1]
 |1018=>nm [1,7] [] [1]
 |_=>none
noncomputable def iF(call:CL)(L:Nat)(C:Nat→Nat)(h:Nat)(r:Bool)(z:Nat)(q:List D)(M:Bool)(O:Nat)(K:List D)(V:Bool)(W:Nat)(U:List D)(a0:Bool)(a1:Nat)(Y:List D)(a3:Bool)(a4:Nat)(a2:List D)(a6:Bool)(a7:Nat)(a5:List D)(i:Int):Option D:=
 ch (cz call L C) O0 E0 FinM.canon Tryz.f14 (bt 9 191) [] h (St.mk (J::D.loc 1 0 0::jn 5 (D.int .i64 i::jn 142 [])) (Z::(1,some (Ob.box [D.slc r z q,D.slc M O K,D.slc V W U,D.slc a0 a1 Y,D.slc a3 a4 a2,D.slc a6 a7 a5] false))::zn 148 []))
noncomputable def kw(call:CL)(L:Nat)(C:Nat→Nat)(h:Nat)(r:Bool)(z:Nat)(q:List D)(M:Bool)(O:Nat)(K:List D)(V:Bool)(W:Nat)(U:List D)(a0:Bool)(a1:Nat)(Y:List D)(a3:Bool)(a4:Nat)(a2:List D)(a6:Bool)(a7:Nat)(a5:List D)(i:Int):Option D:=
 ch (cz call L C) O0 E0 FinM.canon Tryz.f14 (bt 8 95) [] h (St.mk (J::D.loc 1 0 0::J::J::J::J::D.int .i64 i::jn 143 []) (Z::(1,some (Ob.box [D.slc r z q,D.slc M O K,D.slc V W U,D.slc a0 a1 Y,D.slc a3 a4 a2,D.slc a6 a7 a5] false))::zn 148 []))
noncomputable def kx(call:CL)(L:Nat)(C:Nat→Nat)(h:Nat)(r:Bool)(z:Nat)(q:List D)(M:Bool)(O:Nat)(K:List D)(V:Bool)(W:Nat)(U:List D)(a0:Bool)(a1:Nat)(Y:List D)(a3:Bool)(a4:Nat)(a2:List D)(a6:Bool)(a7:Nat)(a5:List D)(i:Int):Option D:=
 ch (cz call L C) O0 E0 FinM.canon Tryz.f14 (bt 7 47) [] h (St.mk (J::D.loc 1 0 0::J::J::J::D.int .i64 i::jn 144 []) (Z::(1,some (Ob.box [D.slc r z q,D.slc M O K,D.slc V W U,D.slc a0 a1 Y,D.slc a3 a4 a2,D.slc a6 a7 a5] false))::zn 148 []))
noncomputable def ky(call:CL)(L:Nat)(C:Nat→Nat)(h:Nat)(r:Bool)(z:Nat)(q:List D)(M:Bool)(O:Nat)(K:List D)(V:Bool)(W:Nat)(U:List D)(a0:Bool)(a1:Nat)(Y:List D)(a3:Bool)(a4:Nat)(a2:List D)(a6:Bool)(a7:Nat)(a5:List D)(i:Int):Option D:=
 ch (cz call L C) O0 E0 FinM.canon Tryz.f14 (bt 6 23) [] h (St.mk (J::D.loc 1 0 0::J::J::D.int .i64 i::jn 145 []) (Z::(1,some (Ob.box [D.slc r z q,D.slc M O K,D.slc V W U,D.slc a0 a1 Y,D.slc a3 a4 a2,D.slc a6 a7 a5] false))::zn 148 []))
noncomputable def tW(call:CL)(L:Nat)(C:Nat→Nat)(h:Nat)(r:Bool)(z:Nat)(q:List D)(M:Bool)(O:Nat)(K:List D)(V:Bool)(W:Nat)(U:List D)(a0:Bool)(a1:Nat)(Y:List D)(a3:Bool)(a4:Nat)(a2:List D)(a6:Bool)(a7:Nat)(a5:List D)(i:Int):Option D:=
 ch (cz call L C) O0 E0 FinM.canon Tryz.f14 (bt 5 11) [] h (St.mk (J::D.loc 1 0 0::J::D.int .i64 i::jn 146 []) (Z::(1,some (Ob.box [D.slc r z q,D.slc M O K,D.slc V W U,D.slc a0 a1 Y,D.slc a3 a4 a2,D.slc a6 a7 a5] false))::zn 148 []))
noncomputable def yK(call:CL)(L:Nat)(C:Nat→Nat)(i:Bool)(q:Nat)(h:List D)(z:Bool)(K:Nat)(r:List D)(O:Bool)(U:Nat)(M:List D)(W:Bool)(Y:Nat)(V:List D)(a1:Bool)(a2:Nat)(a0:List D)(a4:Bool)(a5:Nat)(a3:List D):Option D:=
 eY (cz call L C) O0 E0 FinM.canon Tryz.f14 [true,true] [] (C 7) (St.mk (J::D.loc 1 0 0::jn 148 []) (Z::(1,some (Ob.box [D.slc i q h,D.slc z K r,D.slc O U M,D.slc W Y V,D.slc a1 a2 a0,D.slc a4 a5 a3] false))::zn 148 []))
theorem oh(call:CL)(L:Nat)(C:Nat→Nat)(r:Nat)(J:Bool)(K:Nat)(z:List D)(O:Bool)(U:Nat)(M:List D)(W:Bool)(Y:Nat)(V:List D)(a0:Bool)(a1:Nat)(Z:List D)(a3:Bool)(a4:Nat)(a2:List D)(a5:Bool)(q:Nat)(i:List D)(h:Int):iF call L C (r+1) J K z O U M W Y V a0 a1 Z a3 a4 a2 a5 q i h=
 (bx (decide (h<(q:Int)))
 (cb (decide (0≤h∧h<(q:Int)))
 (bn i (Int.toNat h*3+0) fun a8=>bX a8 fun af=>bn i (Int.toNat h*3+1) fun a9=>cU a9 fun f ac c=>bn i (Int.toNat h*3+2) fun aa=>cU aa fun ab ad a7=>bB (call 76 [D.agg [D.str af,D.slc f ac c,D.slc ab ad a7]]) fun ae=>bR ae fun a6=>bx (!a6)
 (some (D.bool false))
 (iF call L C r J K z O U M W Y V a0 a1 Z a3 a4 a2 a5 q i (IntKind.wrap .i64 (h+1)))))
 (some (D.bool true))):=by kernel_rfl
theorem qD(call:CL)(L:Nat)(C:Nat→Nat)(a5:Nat)(z:Bool)(J:Nat)(r:List D)(M:Bool)(O:Nat)(K:List D)(V:Bool)(W:Nat)(U:List D)(Z:Bool)(a0:Nat)(Y:List D)(a1:Bool)(i:Nat)(q:List D)(a3:Bool)(a4:Nat)(a2:List D)(h:Int):kw call L C (a5+1) z J r M O K V W U Z a0 Y a1 i q a3 a4 a2 h=
 (bx (decide (h<(i:Int)))
 (cb (decide (0≤h∧h<(i:Int)))
 (bn q (Int.toNat h*1) fun a6=>bX a6 fun a7=>bx (decide (((ByteArray.size a7):Int)>60))
 (some (D.bool false))
 (kw call L C a5 z J r M O K V W U Z a0 Y a1 i q a3 a4 a2 (IntKind.wrap .i64 (h+1)))))
 (iF call L C L z J r M O K V W U Z a0 Y a1 i q a3 a4 a2 0)):=by kernel_rfl
theorem qE(call:CL)(L:Nat)(C:Nat→Nat)(a5:Nat)(z:Bool)(J:Nat)(r:List D)(M:Bool)(O:Nat)(K:List D)(V:Bool)(W:Nat)(U:List D)(Y:Bool)(i:Nat)(q:List D)(a0:Bool)(a1:Nat)(Z:List D)(a3:Bool)(a4:Nat)(a2:List D)(h:Int):kx call L C (a5+1) z J r M O K V W U Y i q a0 a1 Z a3 a4 a2 h=
 (bx (decide (h<(i:Int)))
 (cb (decide (0≤h∧h<(i:Int)))
 (bn q (Int.toNat h*5+0) fun a6=>bX a6 fun a9=>bx (decide (((ByteArray.size a9):Int)>60))
 (some (D.bool false))
 (cb (decide (0≤h∧h<(i:Int)))
 (bn q (Int.toNat h*5+1) fun a7=>bX a7 fun aa=>bx (decide (((ByteArray.size aa):Int)>60))
 (some (D.bool false))
 (cb (decide (0≤h∧h<(i:Int)))
 (bn q (Int.toNat h*5+3+1) fun a8=>bX a8 fun ab=>bx (decide (((ByteArray.size ab):Int)>60))
 (some (D.bool false))
 (kx call L C a5 z J r M O K V W U Y i q a0 a1 Z a3 a4 a2 (IntKind.wrap .i64 (h+1)))))))))
 (kw call L C L z J r M O K V W U Y i q a0 a1 Z a3 a4 a2 0)):=by kernel_rfl
theorem qF(call:CL)(L:Nat)(C:Nat→Nat)(a5:Nat)(z:Bool)(J:Nat)(r:List D)(K:Bool)(i:Nat)(q:List D)(O:Bool)(U:Nat)(M:List D)(W:Bool)(Y:Nat)(V:List D)(a0:Bool)(a1:Nat)(Z:List D)(a3:Bool)(a4:Nat)(a2:List D)(h:Int):ky call L C (a5+1) z J r K i q O U M W Y V a0 a1 Z a3 a4 a2 h=
 (bx (decide (h<(i:Int)))
 (cb (decide (0≤h∧h<(i:Int)))
 (bn q (Int.toNat h*3+0) fun a6=>bX a6 fun a8=>bx (decide (((ByteArray.size a8):Int)>60))
 (some (D.bool false))
 (cb (decide (0≤h∧h<(i:Int)))
 (bn q (Int.toNat h*3+1) fun a7=>bX a7 fun a9=>bx (decide (((ByteArray.size a9):Int)>60))
 (some (D.bool false))
 (ky call L C a5 z J r K i q O U M W Y V a0 a1 Z a3 a4 a2 (IntKind.wrap .i64 (h+1)))))))
 (kx call L C L z J r K i q O U M W Y V a0 a1 Z a3 a4 a2 0)):=by kernel_rfl
theorem sJ(call:CL)(L:Nat)(C:Nat→Nat)(a5:Nat)(r:Bool)(i:Nat)(q:List D)(J:Bool)(K:Nat)(z:List D)(O:Bool)(U:Nat)(M:List D)(W:Bool)(Y:Nat)(V:List D)(a0:Bool)(a1:Nat)(Z:List D)(a3:Bool)(a4:Nat)(a2:List D)(h:Int):tW call L C (a5+1) r i q J K z O U M W Y V a0 a1 Z a3 a4 a2 h=
 (bx (decide (h<(i:Int)))
 (cb (decide (0≤h∧h<(i:Int)))
 (bn q (Int.toNat h*1) fun d=>bX d fun s=>bx (decide (((ByteArray.size s):Int)>60))
 (some (D.bool false))
 (tW call L C a5 r i q J K z O U M W Y V a0 a1 Z a3 a4 a2 (IntKind.wrap .i64 (h+1)))))
 (ky call L C L r i q J K z O U M W Y V a0 a1 Z a3 a4 a2 0)):=by kernel_rfl
theorem B5(call:CL)(L:Nat)(C:Nat→Nat)(i:Bool)(q:Nat)(h:List D)(z:Bool)(J:Nat)(r:List D)(M:Bool)(O:Nat)(K:List D)(V:Bool)(W:Nat)(U:List D)(Z:Bool)(a0:Nat)(Y:List D)(a2:Bool)(a3:Nat)(a1:List D)(hC:∀t,C t=1):yK call L C i q h z J r M O K V W U Z a0 Y a2 a3 a1=
 (tW call L C L i q h z J r M O K V W U Z a0 Y a2 a3 a1 0):=by
 unfold yK;rw[hC]
 kernel_rfl
theorem Hs(call:CL)(L:Nat)(C:Nat→Nat)(O:Bool)(h:Nat)(M:List D)(V:Bool)(i:Nat)(U:List D)(Y:Bool)(q:Nat)(W:List D)(a0:Bool)(z:Nat)(Z:List D)(a2:Bool)(J:Nat)(a1:List D)(a4:Bool)(K:Nat)(a3:List D):bS (cz call L C) O0 E0 FinM.canon Tryz.f14 [D.agg [D.slc O h M,D.slc V i U,D.slc Y q W,D.slc a0 z Z,D.slc a2 J a1,D.slc a4 K a3]]=
 (bB (call 75 [D.int .i64 (h:Int),D.int .i64 6,D.int .i64 256]) fun r=>bR r fun b=>bx (!b)
 (some (D.bool false))
 (bB (call 75 [D.int .i64 (i:Int),D.int .i64 6,D.int .i64 200]) fun a9=>bR a9 fun a5=>bx (!a5)
 (some (D.bool false))
 (bx (decide ((q:Int)>39))
 (some (D.bool false))
 (bB (call 75 [D.int .i64 (z:Int),D.int .i64 30,D.int .i64 1000]) fun aa=>bR aa fun a6=>bx (!a6)
 (some (D.bool false))
 (bB (call 75 [D.int .i64 (J:Int),D.int .i64 8,D.int .i64 200]) fun ab=>bR ab fun a7=>bx (!a7)
 (some (D.bool false))
 (bB (call 75 [D.int .i64 (K:Int),D.int .i64 4,D.int .i64 256]) fun ac=>bR ac fun a8=>bx (!a8)
 (some (D.bool false))
 (yK call L C O h M V i U Y q W a0 z Z a2 J a1 a4 K a3))))))):=by kernel_rfl
def N3:bK:=fun p=>match p with
 |15=>nm [1,2,5] [7,14] [2,5,7,14]
 |2047=>nm [1,5,6,7,8,9,10,11,12,13] [2,14] [2,5,7,14]
 |_=>none
noncomputable def kz(call:CL)(L:Nat)(C:Nat→Nat)(a3:ByteArray)(ak:Bool)(al:Nat)(aj:List D)(a5:Bool)(a6:Nat)(a4:List D)(a8:Bool)(a9:Nat)(a7:List D)(ab:Bool)(ac:Nat)(aa:List D)(ae:Bool)(af:Nat)(ad:List D)(ah:Bool)(ai:Nat)(ag:List D)(h U:Int)(a1:Bool)(a2:Nat)(a0:List D)(V:Int)(M:Bool)(O:Nat)(K:List D)(W Y:Int)(i:ByteArray)(r:Bool)(z:Nat)(q:List D):Option D:=
 eY (cz call L C) O0 N3 FinM.canon Tryz.f3 (bt 10 1023) [] (C 2047) (St.mk (J::D.str a3::J::J::J::D.loc 5 0 0::D.int .i64 h::D.loc 7 0 0::D.int .i64 U::D.slc a1 a2 a0::D.int .i64 V::D.slc M O K::D.int .i64 W::D.int .i64 Y::jn 136 []) (zn 5 ((1,some (Ob.box [D.slc ak al aj,D.slc a5 a6 a4,D.slc a8 a9 a7,D.slc ab ac aa,D.slc ae af ad,D.slc ah ai ag] false))::Z::(1,some (Ob.box [D.str i,D.slc r z q] false))::zn 142 [])))
noncomputable def vX(call:CL)(L:Nat)(C:Nat→Nat)(h:ByteArray)(q:Bool)(r:Nat)(i:List D)(K:Bool)(M:Nat)(z:List D)(U:Bool)(V:Nat)(O:List D)(Y:Bool)(a0:Nat)(W:List D)(a2:Bool)(a3:Nat)(a1:List D)(a5:Bool)(a6:Nat)(a4:List D)(an:Bool)(ao:Nat)(am:List D)(a8:Bool)(a9:Nat)(a7:List D)(ab:Bool)(ac:Nat)(aa:List D)(ae:Bool)(af:Nat)(ad:List D)(ah:Bool)(ai:Nat)(ag:List D)(ak:Bool)(al:Nat)(aj:List D):Option D:=
 eY (cz call L C) O0 N3 FinM.canon Tryz.f3 [true,true,true] [] (C 15) (St.mk (J::D.str h::D.loc 2 0 0::J::J::D.loc 5 0 0::jn 144 []) (Z::Z::(1,some (Ob.box [D.slc q r i,D.slc K M z,D.slc U V O,D.slc Y a0 W,D.slc a2 a3 a1,D.slc a5 a6 a4] false))::Z::Z::(1,some (Ob.box [D.slc an ao am,D.slc a8 a9 a7,D.slc ab ac aa,D.slc ae af ad,D.slc ah ai ag,D.slc ak al aj] false))::zn 144 []))
theorem qG(call:CL)(L:Nat)(C:Nat→Nat)(i:ByteArray)(a4:Bool)(a5:Nat)(a3:List D)(r:Bool)(z:Nat)(q:List D)(K:Bool)(M:Nat)(J:List D)(U:Bool)(V:Nat)(O:List D)(Y:Bool)(Z:Nat)(W:List D)(a1:Bool)(a2:Nat)(a0:List D)(h a9:Int)(ak:Bool)(ad:Nat)(aj:List D)(aa:Int)(ai:Bool)(a8:Nat)(ah:List D)(ab ac:Int)(vc:ByteArray)(ag:Bool)(a7:Nat)(af:List D)(hC:∀t,C t=1):kz call L C i a4 a5 a3 r z q K M J U V O Y Z W a1 a2 a0 h a9 ak ad aj aa ai a8 ah ab ac vc ag a7 af=
 (bx (h !=0)
 (bx (a9==h)
 (bx (ByteArray.toList vc==ByteArray.toList (ByteArray.mk #[]))
 (bx (IntKind.wrap .i64 (IntKind.wrap .i64 ((a7:Int)+(ad:Int))+(a8:Int))==0)
 (bx (aa==h)
 (bx (ab==h)
 (bx (ac==h)
 (bB (call 15 []) fun aD=>bR aD fun al=>some (D.bool al))
 (some (D.bool false)))
 (some (D.bool false)))
 (some (D.bool false)))
 (some (D.bool false)))
 (some (D.bool false)))
 (some (D.bool false)))
 (bB (call 24 [D.agg [D.slc a4 a5 a3,D.slc r z q,D.slc K M J,D.slc U V O,D.slc Y Z W,D.slc a1 a2 a0],D.str i]) fun aE=>gy aE 2 fun ae=>bn ae 0 fun av=>bX av fun _s_1=>bn ae 1 fun aw=>cU aw fun az aA aq=>bx (a9==0)
 (bx (ByteArray.toList vc==ByteArray.toList i)
 (bB (call 25 [D.slc ag a7 af,D.slc az aA aq]) fun aF=>bR aF fun am=>bx am
 (bx (aa==0)
 (bB (call 27 [D.agg [D.slc a4 a5 a3,D.slc r z q,D.slc K M J,D.slc U V O,D.slc Y Z W,D.slc a1 a2 a0],D.str i]) fun aG=>cU aG fun ax aB ar=>bB (call 26 [D.slc ak ad aj,D.slc ax aB ar]) fun aH=>bR aH fun an=>bx an
 (bx (ab==0)
 (bB (call 28 [D.agg [D.slc a4 a5 a3,D.slc r z q,D.slc K M J,D.slc U V O,D.slc Y Z W,D.slc a1 a2 a0],D.str i]) fun aI=>cU aI fun ay aC au=>bB (call 26 [D.slc ai a8 ah,D.slc ay aC au]) fun aJ=>bR aJ fun ao=>bx ao
 (bB (call 29 [D.agg [D.slc a4 a5 a3,D.slc r z q,D.slc K M J,D.slc U V O,D.slc Y Z W,D.slc a1 a2 a0],D.str i]) fun aK=>bC .i64 aK fun aM=>bx (ac==aM)
 (bB (call 15 []) fun aL=>bR aL fun ap=>some (D.bool ap))
 (some (D.bool false)))
 (some (D.bool false)))
 (some (D.bool false)))
 (some (D.bool false)))
 (some (D.bool false)))
 (some (D.bool false)))
 (some (D.bool false)))
 (some (D.bool false)))):=by
 unfold kz;rw[hC]
 kernel_rfl
theorem B6(call:CL)(L:Nat)(C:Nat→Nat)(h:ByteArray)(q:Bool)(r:Nat)(i:List D)(J:Bool)(K:Nat)(z:List D)(O:Bool)(U:Nat)(M:List D)(W:Bool)(Y:Nat)(V:List D)(a0:Bool)(a1:Nat)(Z:List D)(a3:Bool)(a4:Nat)(a2:List D)(al:Bool)(am:Nat)(ak:List D)(a6:Bool)(a7:Nat)(a5:List D)(a9:Bool)(aa:Nat)(a8:List D)(ac:Bool)(ad:Nat)(ab:List D)(af:Bool)(ag:Nat)(ae:List D)(ai:Bool)(aj:Nat)(ah:List D)(hC:∀t,C t=1):vX call L C h q r i J K z O U M W Y V a0 a1 Z a3 a4 a2 al am ak a6 a7 a5 a9 aa a8 ac ad ab af ag ae ai aj ah=
 (bB (call 16 [D.agg [D.slc al am ak,D.slc a6 a7 a5,D.slc a9 aa a8,D.slc ac ad ab,D.slc af ag ae,D.slc ai aj ah]]) fun aQ=>bC .i64 aQ fun x=>bB (call 17 [D.agg [D.slc q r i,D.slc J K z,D.slc O U M,D.slc W Y V,D.slc a0 a1 Z,D.slc a3 a4 a2]]) fun aR=>bC .i64 aR fun aW=>bx (aW !=x)
 (some (D.bool false))
 (bB (call 18 [D.agg [D.slc q r i,D.slc J K z,D.slc O U M,D.slc W Y V,D.slc a0 a1 Z,D.slc a3 a4 a2],D.str h]) fun aS=>gd aS 2 fun ar=>bn ar 0 fun aK=>gy aK 2 fun au=>bn au 0 fun aL=>bX aL fun s=>bn au 1 fun aM=>cU aM fun aw az av=>bn ar 1 fun aN=>bC .i64 aN fun aC=>bB (call 19 [D.agg [D.slc q r i,D.slc J K z,D.slc O U M,D.slc W Y V,D.slc a0 a1 Z,D.slc a3 a4 a2],D.str h]) fun aT=>gd aT 2 fun an=>bn an 0 fun aG=>cU aG fun ax aA ao=>bn an 1 fun aH=>bC .i64 aH fun aD=>bB (call 20 [D.agg [D.slc q r i,D.slc J K z,D.slc O U M,D.slc W Y V,D.slc a0 a1 Z,D.slc a3 a4 a2],D.str h]) fun aU=>gd aU 2 fun ap=>bn ap 0 fun aI=>cU aI fun ay aB aq=>bn ap 1 fun aJ=>bC .i64 aJ fun aE=>bB (call 21 [D.agg [D.slc q r i,D.slc J K z,D.slc O U M,D.slc W Y V,D.slc a0 a1 Z,D.slc a3 a4 a2],D.str h]) fun aV=>bC .i64 aV fun aF=>bx (x==0)
 (bB (call 23 [D.agg [D.slc al am ak,D.slc a6 a7 a5,D.slc a9 aa a8,D.slc ac ad ab,D.slc af ag ae,D.slc ai aj ah],D.str h]) fun aO=>bC .i64 aO fun aX=>bB (call 22 [D.bool (decide (aX<0)),D.int .i64 10]) fun aP=>bC .i64 aP fun aY=>kz call L C h al am ak a6 a7 a5 a9 aa a8 ac ad ab af ag ae ai aj ah aY aC ax aA ao aD ay aB aq aE aF s aw az av)
 (kz call L C h al am ak a6 a7 a5 a9 aa a8 ac ad ab af ag ae ai aj ah x aC ax aA ao aD ay aB aq aE aF s aw az av))):=by
 unfold vX;rw[hC]
 kernel_rfl
theorem Kb(call:CL)(L:Nat)(C:Nat→Nat)(q:Bool)(z:Nat)(i:List D)(K:Bool)(M:Nat)(J:List D)(U:Bool)(V:Nat)(O:List D)(Y:Bool)(Z:Nat)(W:List D)(a1:Bool)(a2:Nat)(a0:List D)(a4:Bool)(a5:Nat)(a3:List D)(h:ByteArray):bS (cz call L C) O0 N3 FinM.canon Tryz.f3 [D.agg [D.slc q z i,D.slc K M J,D.slc U V O,D.slc Y Z W,D.slc a1 a2 a0,D.slc a4 a5 a3],D.str h]=
 (bB (call 13 [D.agg [D.slc q z i,D.slc K M J,D.slc U V O,D.slc Y Z W,D.slc a1 a2 a0,D.slc a4 a5 a3]]) fun r=>gy r 6 fun c=>bn c 0 fun d=>cU d fun f n a6=>bn c 1 fun ao=>cU ao fun ac ah a7=>bn c 2 fun ap=>cU ap fun ad ai a8=>bn c 3 fun aq=>cU aq fun ae aj a9=>bn c 4 fun ar=>cU ar fun af ak aa=>bn c 5 fun au=>cU au fun ag al ab=>bB (call 14 [D.agg [D.slc f n a6,D.slc ac ah a7,D.slc ad ai a8,D.slc ae aj a9,D.slc af ak aa,D.slc ag al ab]]) fun av=>bR av fun b=>bx (!b)
 (bB (call 15 []) fun aw=>bR aw fun am=>some (D.bool am))
 (bx (decide (((ByteArray.size h):Int)>60))
 (bB (call 15 []) fun ax=>bR ax fun an=>some (D.bool an))
 (vX call L C h q z i K M J U V O Y Z W a1 a2 a0 a4 a5 a3 f n a6 ac ah a7 ad ai a8 ae aj a9 af ak aa ag al ab))):=by kernel_rfl
end Go.Pd
end
