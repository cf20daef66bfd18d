import Derived.Test.YtjhoaknnmfifgaaGreatDoorUnA
import Derived.KernelRfl
section
namespace Go.Pd
open Go Go.Proofs Go.RowKit Go.Shelf
theorem c1:∀t,C1 t=1:=fun _=>rfl
theorem cA:ep (fun _ _=>none):=fun _ _ _ h=>by cases h
theorem Ps{base:FuncId→List D→Option D}(hb:ep base){L:Nat}:EnvOK (cD base L C1).E:=⟨Br hb,(fun _ _ h=>nomatch h),(fun _ _ _ h=>nomatch h),(fun _ _ hi=>nomatch hi)⟩
theorem ed{base:FuncId→List D→Option D}(hb:ep base){f:FuncId}{fn:Func}(hf:Tryz.prog.funcs[f]?=some fn){ord:iG}{N:bP}(hok:jN Tryz.prog ord fn=true){ds:List D}{r:D}
  (he:bS (cD base LL C1) ord N .canon fn ds=some r):ct f ds r:=
 m8 (Te:=cD base LL C1) j0 (Ps hb) (fun _ _ _ h=>by cases h) rfl (fun _ _ _ h=>by cases h) hf (by simp) hok he
theorem co{x:Int}(h: -9223372036854775808≤x∧x≤9223372036854775807):IntKind.wrap .i64 x=x:=IntWalk.i64_in x h
structure Fam where
 f:FuncId
 ι:Type
 a:ι→List D
 r:ι→D
def Fam.Good(F:Fam):Prop:=(∀i,ct F.f (F.a i) (F.r i))∧∀i j,F.a i=F.a j→F.r i=F.r j
def pZ:List Fam→Prop
 |[]=>True
 |F::l=>F.Good∧pZ l
def JG(B:FuncId→List D→Option D):List Fam→Prop
 |[]=>True
 |F::l=>(∀i,B F.f (F.a i)=some (F.r i))∧JG B l
theorem kO:∀{l:List Fam},pZ l→∀F∈l,F.Good
 |[],_,F,hF=>by cases hF
 |F0::l,h,F,hF=>by
  rcases List.mem_cons.1 hF with rfl|hF
  ·exact h.1
  ·exact kO h.2 F hF
theorem AE{B:FuncId→List D→Option D}:∀{l:List Fam},(∀F∈l,∀i,B F.f (F.a i)=some (F.r i))→JG B l
 |[],_=>trivial
 |F::_,h=>⟨h F (za4 ..),AE fun e he=>h e (za5 _ he)⟩
open Classical in
noncomputable def FZ(l:List Fam):FuncId→List D→Option D:=fun k ds=>
 if h:∃r,∃F∈l,∃i:F.ι,F.f=k∧F.a i=ds∧F.r i=r then some h.choose else none
theorem F1{l:List Fam}(h:pZ l):ep (FZ l):=by
 intro k ds r hr;unfold FZ at hr;split at hr
 ·rename_i hx;cases hr;obtain⟨F,hF,i,rfl,rfl,h3⟩:=hx.choose_spec;rw[←h3];exact(kO h F hF).1 i
 ·cases hr
def F2:List FuncId→Bool
 |[]=>true
 |x::l=>l.all (fun y=>x !=y)&&F2 l
theorem AF:∀{l:List Fam},F2 (l.map Fam.f)=true→∀F∈l,∀F'∈l,F.f=F'.f→F=F'
 |[],_,F,hF,_,_,_=>by cases hF
 |F0::l,h,F,hF,F',hF',he=>by
  simp only[List.map_cons,F2,zc2,zd5,ze2,ne_eq] at h;have key:∀G∈l,F0.f≠G.f:=fun G hG=>h.1 G.f (zd4.2 ⟨G,hG,rfl⟩);rcases List.mem_cons.1 hF with h1|h1
  ·rcases List.mem_cons.1 hF' with h2|h2
   ·rw[h1,h2]
   ·exact absurd (h1▸he) (key F' h2)
  ·rcases List.mem_cons.1 hF' with h2|h2
   ·exact absurd (h2▸he).symm (key F h1)
   ·exact AF h.2 F h1 F' h2 he
theorem iz(l:List Fam)(h:pZ l)(hn:F2 (l.map Fam.f)=true):∃B,ep B∧JG B l:=by
 refine⟨FZ l,F1 h,AE fun F hF i=> ?_⟩;obtain⟨_,h2⟩:=kO h F hF;have hx:∃r,∃F'∈l,∃j:F'.ι,F'.f=F.f∧F'.a j=F.a i∧F'.r j=r:=⟨F.r i,F,hF,i,rfl,rfl,rfl⟩;unfold FZ;rw[dif_pos hx];obtain⟨F',hF',j,h4,h5,h6⟩:=hx.choose_spec;obtain rfl:=AF hn F' hF' F hF h4;rw[←h6,h2 j i h5]
def one(f:FuncId)(ds:List D)(r:D):Fam:=⟨f,Unit,fun _=>ds,fun _=>r⟩
theorem bN{f:FuncId}{ds:List D}{r:D}(h:ct f ds r):(one f ds r).Good:=⟨fun _=>h,fun _ _ _=>rfl⟩
end Go.Pd
end
section
namespace Go.Pd
open Go Go.Proofs
set_option maxRecDepth 100000
theorem JH(call:CL)(L:Nat)(C:Nat→Nat)(q J z:Int):bS (cD call L C) O0 N0 FinM.canon Tryz.f75 [D.int .i64 q,D.int .i64 J,D.int .i64 z]=
 (bC (decide (q≤J))
 (some (D.bool true))
 (bC (decide (q>z))
 (some (D.bool (decide (q≤IntKind.wrap .i64 (z+3)))))
 (some (D.bool false)))):=by kernel_rfl
def OA:bP:=fun p=>match p with
 |7=>nm [1] [] [1]
 |58=>nm [1,3] [] [1]
 |_=>none
noncomputable def vt(call:CL)(L:Nat)(C:Nat→Nat)(q:Nat)(z:ByteArray)(M:Bool)(O:Nat)(K:List D)(V:Bool)(W:Nat)(U:List D)(vi:Int):Option D:=
 ch (cD call L C) O0 OA FinM.canon Tryz.f76 (bt 5 11) [] q (St.mk (J::D.loc 1 0 0::J::D.int .i64 vi::jn 32 []) (Z::(1,some (Ob.box [D.str z,D.slc M O K,D.slc V W U] false))::zn 34 []))
noncomputable def DP(call:CL)(L:Nat)(C:Nat→Nat)(q:ByteArray)(K:Bool)(M:Nat)(z:List D)(U:Bool)(V:Nat)(O:List D):Option D:=
 eM (cD call L C) O0 OA FinM.canon Tryz.f76 [true,true] [] (C 7) (St.mk (J::D.loc 1 0 0::jn 34 []) (Z::(1,some (Ob.box [D.str q,D.slc K M z,D.slc U V O] false))::zn 34 []))
theorem tV(call:CL)(L:Nat)(C:Nat→Nat)(J:Nat)(K:ByteArray)(O:Bool)(U:Nat)(M:List D)(V:Bool)(z:Nat)(q:List D)(vi:Int):vt call L C (J+1) K O U M V z q vi=
 (bC (decide (vi<(z:Int)))
 (bL (decide (0≤vi∧vi<(z:Int)))
 (bu q (Int.toNat vi*2+0) fun d=>bY d fun s=>bu q (Int.toNat vi*2+1) fun Y=>cV Y fun f Z c=>bG (call 150 [D.agg [D.str s,D.slc f Z c,D.int .i64 0]]) fun a0=>bW a0 fun W=>bC (!W)
 (some (D.bool false))
 (vt call L C J K O U M V z q (IntKind.wrap .i64 (vi+1)))))
 (some (D.bool true))):=by kernel_rfl
theorem DQ(call:CL)(L:Nat)(C:Nat→Nat)(q:ByteArray)(J:Bool)(K:Nat)(z:List D)(O:Bool)(U:Nat)(M:List D)(hC:∀t,C t=1):DP call L C q J K z O U M=
 (vt call L C L q J K z O U M 0):=by
 unfold DP;rw[hC]
 kernel_rfl
theorem JI(call:CL)(L:Nat)(C:Nat→Nat)(q:ByteArray)(M:Bool)(z:Nat)(K:List D)(U:Bool)(J:Nat)(O:List D):bS (cD call L C) O0 OA FinM.canon Tryz.f76 [D.agg [D.str q,D.slc M z K,D.slc U J O]]=
 (bC (decide (((ByteArray.size q):Int)>60))
 (some (D.bool false))
 (bC (decide ((z:Int)>39))
 (some (D.bool false))
 (bG (call 75 [D.int .i64 (J:Int),D.int .i64 5,D.int .i64 200]) fun r=>bW r fun b=>bC (!b)
 (some (D.bool false))
 (DP call L C q M z K U J O)))):=by kernel_rfl
def KY:bP:=fun p=>match p with
 |7=>nm [0] [] []
 |58=>nm [0,3] [] []
 |467=>nm [0,3] [] []
 |3731=>nm [0,3,4,5] [] []
 |_=>none
noncomputable def j1(call:CL)(L:Nat)(C:Nat→Nat)(q:Nat)(vs:ByteArray)(vi:Int):Option D:=
 eM (cD call L C) O0 KY FinM.canon Tryz.f80 (bt 8 203) [q] (C 467) (St.mk (D.str vs::J::J::D.int .i64 vi::jn 52 []) (zn 56 []))
noncomputable def gD(call:CL)(L:Nat)(C:Nat→Nat)(q:Nat)(vs:ByteArray)(vi z:Int)(K:Bool):Option D:=
 eM (cD call L C) O0 KY FinM.canon Tryz.f80 (bt 11 1611) [q] (C 3731) (St.mk (D.str vs::J::J::D.int .i64 vi::D.int IntKind.u8 z::D.bool K::jn 50 []) (zn 56 []))
noncomputable def vu(call:CL)(L:Nat)(C:Nat→Nat)(q:Nat)(vs:ByteArray)(vi:Int):Option D:=
 ch (cD call L C) O0 KY FinM.canon Tryz.f80 (bt 5 11) [] q (St.mk (D.str vs::J::J::D.int .i64 vi::jn 52 []) (zn 56 []))
noncomputable def DR(call:CL)(L:Nat)(C:Nat→Nat)(vs:ByteArray):Option D:=
 eM (cD call L C) O0 KY FinM.canon Tryz.f80 [true,true] [] (C 7) (St.mk (D.str vs::jn 55 []) (zn 56 []))
theorem zl(call:CL)(L:Nat)(C:Nat→Nat)(q:Nat)(vs:ByteArray)(vi:Int)(hC:∀t,C t=1):j1 call L C q vs vi=
 (vu call L C q vs (IntKind.wrap .i64 (vi+1))):=by
 unfold j1;rw[hC]
 kernel_rfl
theorem xz(call:CL)(L:Nat)(C:Nat→Nat)(q:Nat)(vs:ByteArray)(vi z:Int)(J:Bool)(hC:∀t,C t=1):gD call L C q vs vi z J=
 (bC (!J)
 (bC (vi==0)
 (some (D.bool false))
 (bC (decide (z≥48))
 (bC (decide (z≤57))
 (j1 call L C q vs vi)
 (bC (!z==95)
 (some (D.bool false))
 (j1 call L C q vs vi)))
 (bC (!z==95)
 (some (D.bool false))
 (j1 call L C q vs vi))))
 (j1 call L C q vs vi)):=by
 unfold gD;rw[hC]
 kernel_rfl
theorem tW(call:CL)(L:Nat)(C:Nat→Nat)(q:Nat)(vs:ByteArray)(vi:Int):vu call L C (q+1) vs vi=
 (bC (decide (vi<((ByteArray.size vs):Int)))
 (bL (decide (0≤vi∧Int.toNat vi<ByteArray.size vs))
 (bC (decide (c7 vs (Int.toNat vi)≥97))
 (bC (decide (c7 vs (Int.toNat vi)≤122))
 (gD call L C q vs vi (c7 vs (Int.toNat vi)) true)
 (bC (decide (c7 vs (Int.toNat vi)≥65))
 (gD call L C q vs vi (c7 vs (Int.toNat vi)) (decide (c7 vs (Int.toNat vi)≤90)))
 (gD call L C q vs vi (c7 vs (Int.toNat vi)) false)))
 (bC (decide (c7 vs (Int.toNat vi)≥65))
 (gD call L C q vs vi (c7 vs (Int.toNat vi)) (decide (c7 vs (Int.toNat vi)≤90)))
 (gD call L C q vs vi (c7 vs (Int.toNat vi)) false))))
 (some (D.bool true))):=by kernel_rfl
theorem DS(call:CL)(L:Nat)(C:Nat→Nat)(vs:ByteArray)(hC:∀t,C t=1):DR call L C vs=
 (vu call L C L vs 0):=by
 unfold DR;rw[hC]
 kernel_rfl
theorem JJ(call:CL)(L:Nat)(C:Nat→Nat)(vs:ByteArray):bS (cD call L C) O0 KY FinM.canon Tryz.f80 [D.str vs]=
 (bC (decide (((ByteArray.size vs):Int)<1))
 (some (D.bool false))
 (bC (decide (((ByteArray.size vs):Int)>24))
 (some (D.bool false))
 (DR call L C vs))):=by kernel_rfl
def Pt:bP:=fun p=>match p with
 |26=>nm [0,1,5] [] []
 |_=>none
noncomputable def vv(call:CL)(L:Nat)(C:Nat→Nat)(n:Nat)(z:Bool)(K:Nat)(q:List D)(vs:ByteArray)(vi:Int):Option D:=
 ch (cD call L C) O0 Pt FinM.canon Tryz.f81 [true,false,true,false] [] n (St.mk (D.slc z K q::D.str vs::J::J::J::D.int .i64 vi::jn 12 []) (zn 18 []))
theorem tX(call:CL)(L:Nat)(C:Nat→Nat)(n:Nat)(J:Bool)(q:Nat)(z:List D)(vs:ByteArray)(vi:Int):vv call L C (n+1) J q z vs vi=
 (bC (decide (vi<(q:Int)))
 (bL (decide (0≤vi∧vi<(q:Int)))
 (bu z (Int.toNat vi*1) fun d=>bY d fun s=>bC (ByteArray.toList s==ByteArray.toList vs)
 (some (D.bool true))
 (vv call L C n J q z vs (IntKind.wrap .i64 (vi+1)))))
 (some (D.bool false))):=by kernel_rfl
theorem JK(call:CL)(L:Nat)(C:Nat→Nat)(z:Bool)(J:Nat)(q:List D)(vs:ByteArray):bS (cD call L C) O0 Pt FinM.canon Tryz.f81 [D.slc z J q,D.str vs]=
 (vv call L C L z J q vs 0):=by kernel_rfl
def Pu:bP:=fun p=>match p with
 |26=>nm [1,2,5] [] [2]
 |_=>none
noncomputable def vw(call:CL)(L:Nat)(C:Nat→Nat)(n:Nat)(q:ByteArray)(K:Bool)(M:Nat)(z:List D)(U:Bool)(V:Nat)(O:List D)(Y:Bool)(a0:Nat)(W:List D)(a2:Bool)(a3:Nat)(a1:List D)(a5:Bool)(a6:Nat)(a4:List D)(a8:Bool)(a9:Nat)(a7:List D)(vi:Int):Option D:=
 ch (cD call L C) O0 Pu FinM.canon Tryz.f23 [true,false,true,false] [] n (St.mk (J::D.str q::D.loc 2 0 0::J::J::D.int .i64 vi::jn 16 []) (Z::Z::(1,some (Ob.box [D.slc K M z,D.slc U V O,D.slc Y a0 W,D.slc a2 a3 a1,D.slc a5 a6 a4,D.slc a8 a9 a7] false))::zn 19 []))
theorem tY(call:CL)(L:Nat)(C:Nat→Nat)(n:Nat)(z:ByteArray)(M:Bool)(O:Nat)(K:List D)(U:Bool)(q:Nat)(J:List D)(W:Bool)(Y:Nat)(V:List D)(a0:Bool)(a1:Nat)(Z:List D)(a3:Bool)(a4:Nat)(a2:List D)(a6:Bool)(a7:Nat)(a5:List D)(vi:Int):vw call L C (n+1) z M O K U q J W Y V a0 a1 Z a3 a4 a2 a6 a7 a5 vi=
 (bC (decide (vi<(q:Int)))
 (bL (decide (0≤vi∧vi<(q:Int)))
 (bu J (Int.toNat vi*3+0) fun d=>bY d fun s=>bC (ByteArray.toList s==ByteArray.toList z)
 (some (D.int .i64 vi))
 (vw call L C n z M O K U q J W Y V a0 a1 Z a3 a4 a2 a6 a7 a5 (IntKind.wrap .i64 (vi+1)))))
 (some (D.int .i64 (-1)))):=by kernel_rfl
theorem JL(call:CL)(L:Nat)(C:Nat→Nat)(J:Bool)(K:Nat)(z:List D)(O:Bool)(U:Nat)(M:List D)(W:Bool)(Y:Nat)(V:List D)(a0:Bool)(a1:Nat)(Z:List D)(a3:Bool)(a4:Nat)(a2:List D)(a6:Bool)(a7:Nat)(a5:List D)(q:ByteArray):bS (cD call L C) O0 Pu FinM.canon Tryz.f23 [D.agg [D.slc J K z,D.slc O U M,D.slc W Y V,D.slc a0 a1 Z,D.slc a3 a4 a2,D.slc a6 a7 a5],D.str q]=
 (vw call L C L q J K z O U M W Y V a0 a1 Z a3 a4 a2 a6 a7 a5 0):=by kernel_rfl
def Pv:bP:=fun p=>match p with
 |26=>nm [5,6,7] [] []
 |_=>none
noncomputable def vA(call:CL)(L:Nat)(C:Nat→Nat)(n:Nat)(K:Bool)(M:Nat)(J:List D)(q z:Int):Option D:=
 ch (cD call L C) O0 Pv FinM.canon Tryz.f87 [true,false,true,false] [] n (St.mk (jn 5 (D.slc K M J::D.int .i64 q::D.int .i64 z::jn 7 [])) (zn 15 []))
theorem tZ(call:CL)(L:Nat)(C:Nat→Nat)(n:Nat)(M:Bool)(K:Nat)(J:List D)(z q:Int):vA call L C (n+1) M K J z q=
 (bC (decide (q<z))
 (bL (decide (0≤q∧q<(K:Int)))
 (bu J (Int.toNat q*1) fun d=>bF .i64 d fun x=>bC (x !=0)
 (some (D.int .i64 x))
 (vA call L C n M K J z (IntKind.wrap .i64 (q+1)))))
 (some (D.int .i64 0))):=by kernel_rfl
theorem JM(call:CL)(L:Nat)(C:Nat→Nat)(J:Bool)(q:Nat)(z:List D):bS (cD call L C) O0 Pv FinM.canon Tryz.f87 [D.slc J q z]=
 (vA call L C L J q z ((q:Int)) 0):=by kernel_rfl
def F3:bP:=fun p=>match p with
 |26=>nm [5,6,7] [] []
 |_=>none
noncomputable def vB(call:CL)(L:Nat)(C:Nat→Nat)(n:Nat)(K:Bool)(M:Nat)(J:List D)(q z:Int):Option D:=
 ch (cD call L C) O0 F3 FinM.canon Tryz.f108 [true,false,true,false] [] n (St.mk (jn 5 (D.slc K M J::D.int .i64 q::D.int .i64 z::jn 7 [])) (zn 15 []))
theorem eP(call:CL)(L:Nat)(C:Nat→Nat)(n:Nat)(M:Bool)(K:Nat)(J:List D)(z q:Int):vB call L C (n+1) M K J z q=
 (bC (decide (q<z))
 (bL (decide (0≤q∧q<(K:Int)))
 (bu J (Int.toNat q*1) fun d=>bF .i64 d fun x=>bC (x !=0)
 (some (D.int .i64 x))
 (vB call L C n M K J z (IntKind.wrap .i64 (q+1)))))
 (some (D.int .i64 0))):=by kernel_rfl
theorem AG(call:CL)(L:Nat)(C:Nat→Nat)(J:Bool)(q:Nat)(z:List D):bS (cD call L C) O0 F3 FinM.canon Tryz.f108 [D.slc J q z]=
 (vB call L C L J q z ((q:Int)) 0):=by kernel_rfl
theorem F4(call:CL)(L:Nat)(C:Nat→Nat)(z:Bool)(q:Int):bS (cD call L C) O0 N0 FinM.canon Tryz.f110 [D.bool z,D.int .i64 q]=
 (bC z
 (some (D.int .i64 q))
 (some (D.int .i64 0))):=by kernel_rfl
def JN:bP:=fun p=>match p with
 |26=>nm [0,6] [] [6]
 |_=>none
noncomputable def k9(call:CL)(L:Nat)(C:Nat→Nat)(n:Nat)(vs:ByteArray)(q:Nat):Option D:=
 ch (cD call L C) O0 JN FinM.canon Tryz.f111 [true,false,true,false] [] n (St.mk (D.str vs::jn 5 (D.loc 6 0 0::jn 30 [])) (zn 6 ((1,some (Ob.sit vs q))::zn 30 [])))
theorem rp(call:CL)(L:Nat)(C:Nat→Nat)(n:Nat)(vs:ByteArray)(q:Nat):k9 call L C (n+1) vs q=
 (bC (decide (q<ByteArray.size vs))
 (bG (call 167 [D.int IntKind.i32 (((Prod.fst (Utf8.decode vs q)):Nat):Int)]) fun r=>bW r fun b=>bC (!b)
 (bC ((q:Int)==0)
 (some (D.bool false))
 (bC ((((Prod.fst (Utf8.decode vs q)):Nat):Int) !=95)
 (bC (decide ((((Prod.fst (Utf8.decode vs q)):Nat):Int)<48))
 (some (D.bool false))
 (bC (decide ((((Prod.fst (Utf8.decode vs q)):Nat):Int)>57))
 (some (D.bool false))
 (k9 call L C n vs (q+Prod.snd (Utf8.decode vs q)))))
 (k9 call L C n vs (q+Prod.snd (Utf8.decode vs q)))))
 (k9 call L C n vs (q+Prod.snd (Utf8.decode vs q))))
 (bC (!ByteArray.toList vs==ByteArray.toList (ByteArray.mk #[]))
 (some (D.bool (decide (((ByteArray.size vs):Int)≤24))))
 (some (D.bool false)))):=by kernel_rfl
theorem F5(call:CL)(L:Nat)(C:Nat→Nat)(vs:ByteArray):bS (cD call L C) O0 JN FinM.canon Tryz.f111 [D.str vs]=
 (k9 call L C L vs 0):=by kernel_rfl
theorem F6(call:CL)(L:Nat)(C:Nat→Nat)(q z J:Int):bS (cD call L C) O0 N0 FinM.canon Tryz.f118 [D.int .i64 q,D.int .i64 z,D.int .i64 J]=
 (bC (decide (q<z))
 (some (D.bool true))
 (some (D.bool (decide (q>J))))):=by kernel_rfl
theorem F7(call:CL)(L:Nat)(C:Nat→Nat)(z:Bool)(q:Int):bS (cD call L C) O0 N0 FinM.canon Tryz.f119 [D.bool z,D.int .i64 q]=
 (bC z
 (some (D.int .i64 q))
 (some (D.int .i64 0))):=by kernel_rfl
theorem F8(call:CL)(L:Nat)(C:Nat→Nat)(q:Int)(z:ByteArray):bS (cD call L C) O0 N0 FinM.canon Tryz.f145 [D.agg [D.int .i64 q,D.str z]]=
 (bC (ByteArray.toList z==ByteArray.toList (ByteArray.mk #[]))
 (bC (decide (q<1))
 (some (D.int .i64 3))
 (bC (decide (q>99))
 (some (D.int .i64 3))
 (some (D.int .i64 0))))
 (bC (ByteArray.toList z==ByteArray.toList (ByteArray.mk #[99]))
 (bC (decide (q<1))
 (some (D.int .i64 3))
 (bC (decide (q>99))
 (some (D.int .i64 3))
 (some (D.int .i64 0))))
 (bC (ByteArray.toList z==ByteArray.toList (ByteArray.mk #[120]))
 (bC (q !=0)
 (some (D.int .i64 3))
 (some (D.int .i64 0)))
 (bC (ByteArray.toList z==ByteArray.toList (ByteArray.mk #[45]))
 (bC (q !=0)
 (some (D.int .i64 3))
 (some (D.int .i64 0)))
 (some (D.int .i64 13)))))):=by kernel_rfl
theorem F9(call:CL)(L:Nat)(C:Nat→Nat)(q:Int)(z:ByteArray):bS (cD call L C) O0 N0 FinM.canon Tryz.f147 [D.agg [D.int .i64 q,D.str z]]=
 (bG (call 218 [D.agg [D.int .i64 q,D.str z]]) fun r=>bW r fun b=>bC b
 (bG (call 118 [D.int .i64 q,D.int .i64 1,D.int .i64 99]) fun K=>bW K fun J=>bG (call 119 [D.bool J,D.int .i64 3]) fun M=>bF .i64 M fun x=>some (D.int .i64 x))
 (bC (ByteArray.toList z==ByteArray.toList (ByteArray.mk #[120]))
 (bG (call 119 [D.bool (q !=0),D.int .i64 3]) fun O=>bF .i64 O fun V=>some (D.int .i64 V))
 (bC (ByteArray.toList z==ByteArray.toList (ByteArray.mk #[45]))
 (bG (call 119 [D.bool (q !=0),D.int .i64 3]) fun U=>bF .i64 U fun W=>some (D.int .i64 W))
 (some (D.int .i64 13))))):=by kernel_rfl
theorem Ga(call:CL)(L:Nat)(C:Nat→Nat)(q z:ByteArray)(J K:Int)(M:ByteArray):bS (cD call L C) O0 N0 FinM.canon Tryz.f153 [D.agg [D.str q,D.str z,D.int .i64 J,D.int .i64 K,D.str M]]=
 (some (D.bool (ByteArray.toList z==ByteArray.toList q))):=by kernel_rfl
theorem Gb(call:CL)(L:Nat)(C:Nat→Nat)(O:Bool)(U:Nat)(M:List D)(J:Bool)(K:Nat)(z:List D)(W:Bool)(Y:Nat)(V:List D)(a0:Bool)(a1:Nat)(Z:List D)(a3:Bool)(a4:Nat)(a2:List D)(a6:Bool)(a7:Nat)(a5:List D)(q:ByteArray):bS (cD call L C) O0 N0 FinM.canon Tryz.f154 [D.agg [D.slc O U M,D.slc J K z,D.slc W Y V,D.slc a0 a1 Z,D.slc a3 a4 a2,D.slc a6 a7 a5],D.str q]=
 (bG (call 221 [D.slc J K z,D.fn (Fn.func 222) [] [D.snap [D.str q] 0]]) fun r=>bF .i64 r fun x=>some (D.int .i64 x)):=by kernel_rfl
theorem Gc(call:CL)(L:Nat)(C:Nat→Nat)(z:Bool)(J:Nat)(q:List D)(K:ByteArray):bS (cD call L C) O0 N0 FinM.canon Tryz.f155 [D.slc z J q,D.str K]=
 (bG (call 223 [D.slc z J q,D.str K]) fun r=>bF .i64 r fun x=>some (D.bool (decide (x≥0)))):=by kernel_rfl
theorem Gd(call:CL)(L:Nat)(C:Nat→Nat)(q:Int):bS (cD call L C) O0 N0 FinM.canon Tryz.f167 [D.int IntKind.i32 q]=
 (bC (decide (q≥97))
 (bC (decide (q≤122))
 (some (D.bool true))
 (bC (decide (q≥65))
 (some (D.bool (decide (q≤90))))
 (some (D.bool false))))
 (bC (decide (q≥65))
 (some (D.bool (decide (q≤90))))
 (some (D.bool false)))):=by kernel_rfl
def MT:iG:=fun id=>match id with
 |1=>some {l:=some [0,1,2,3,4,5,6,7,8,9],ks:=[3]}
 |_=>none
theorem Ge(call:CL)(L:Nat)(C:Nat→Nat)(q:Int)(z:ByteArray):bS (Pa call L C) MT N0 FinM.canon Tryz.f168 [D.agg [D.int .i64 q,D.str z]]=
 (bC (ByteArray.toList z==ByteArray.toList (ByteArray.mk #[]))
 (bG (call 284 [D.int .i64 q]) fun r=>bW r fun b=>bG (call 110 [D.bool !b,D.int .i64 3]) fun O=>bF .i64 O fun x=>some (D.int .i64 x))
 (bC (ByteArray.toList z==ByteArray.toList (ByteArray.mk #[99]))
 (bG (call 284 [D.int .i64 q]) fun U=>bW U fun J=>bG (call 110 [D.bool !J,D.int .i64 3]) fun V=>bF .i64 V fun a1=>some (D.int .i64 a1))
 (bC (ByteArray.toList z==ByteArray.toList (ByteArray.mk #[120]))
 (bG (call 285 [D.int .i64 q]) fun W=>bW W fun K=>bG (call 110 [D.bool !K,D.int .i64 3]) fun Y=>bF .i64 Y fun a2=>some (D.int .i64 a2))
 (bC (ByteArray.toList z==ByteArray.toList (ByteArray.mk #[45]))
 (bG (call 285 [D.int .i64 q]) fun Z=>bW Z fun M=>bG (call 110 [D.bool !M,D.int .i64 3]) fun a0=>bF .i64 a0 fun a3=>some (D.int .i64 a3))
 (some (D.int .i64 13)))))):=by kernel_rfl
theorem Gf(call:CL)(L:Nat)(C:Nat→Nat)(z:Int)(q:ByteArray):bS (cD call L C) O0 N0 FinM.canon Tryz.f218 [D.agg [D.int .i64 z,D.str q]]=
 (bC (ByteArray.toList q==ByteArray.toList (ByteArray.mk #[]))
 (some (D.bool true))
 (some (D.bool (ByteArray.toList q==ByteArray.toList (ByteArray.mk #[99]))))):=by kernel_rfl
def JO:bP:=fun p=>match p with
 |26=>nm [0,3] [] []
 |_=>none
noncomputable def p6(call:CL)(L:Nat)(C:Nat→Nat)(n:Nat)(z:Bool)(K:Nat)(q:List D)(vi:Int):Option D:=
 ch (cD call L C) O0 JO FinM.canon Tryz.f220 [true,false,true,false] [] n (St.mk (D.slc z K q::J::J::D.int .i64 vi::jn 15 []) (zn 19 []))
theorem rq(call:CL)(L:Nat)(C:Nat→Nat)(n:Nat)(J:Bool)(z:Nat)(q:List D)(vi:Int):p6 call L C (n+1) J z q vi=
 (bC (decide (vi<(z:Int)))
 (bL (decide (0≤vi∧vi<(z:Int)))
 (bu q (Int.toNat vi*2+0) fun d=>bF .i64 d fun x=>bu q (Int.toNat vi*2+1) fun M=>bY M fun s=>bG (call 145 [D.agg [D.int .i64 x,D.str s]]) fun r=>bF .i64 r fun K=>bC (K !=0)
 (some (D.int .i64 K))
 (p6 call L C n J z q (IntKind.wrap .i64 (vi+1)))))
 (some (D.int .i64 0))):=by kernel_rfl
theorem Gg(call:CL)(L:Nat)(C:Nat→Nat)(z:Bool)(J:Nat)(q:List D):bS (cD call L C) O0 JO FinM.canon Tryz.f220 [D.slc z J q]=
 (p6 call L C L z J q 0):=by kernel_rfl
def JP:bP:=fun p=>match p with
 |26=>nm [6,7,8] [4] [4]
 |_=>none
noncomputable def p7(call:CL)(L:Nat)(C:Nat→Nat)(n:Nat)(K:Bool)(M:Nat)(J:List D)(q z:Int):Option D:=
 ch (cD call L C) O0 JP FinM.canon Tryz.f112 [true,false,true,false] [] n (St.mk (jn 6 (D.slc K M J::D.int .i64 q::D.int .i64 z::jn 9 [])) (zn 18 []))
theorem rt(call:CL)(L:Nat)(C:Nat→Nat)(n:Nat)(M:Bool)(K:Nat)(z:List D)(J q:Int):p7 call L C (n+1) M K z J q=
 (bC (decide (q<J))
 (bL (decide (0≤q∧q<(K:Int)))
 (bu z (Int.toNat q*2+0) fun d=>bF .i64 d fun x=>bu z (Int.toNat q*2+1) fun U=>bY U fun s=>bG (call 168 [D.agg [D.int .i64 x,D.str s]]) fun r=>bF .i64 r fun O=>bC (O !=0)
 (some (D.int .i64 O))
 (p7 call L C n M K z J (IntKind.wrap .i64 (q+1)))))
 (some (D.int .i64 0))):=by kernel_rfl
theorem Gi(call:CL)(L:Nat)(C:Nat→Nat)(J:Bool)(q:Nat)(z:List D):bS (cD call L C) O0 JP FinM.canon Tryz.f112 [D.slc J q z]=
 (p7 call L C L J q z ((q:Int)) 0):=by kernel_rfl
def MU:bP:=fun p=>match p with
 |122=>nm [0,3] [] []
 |3913=>nm [0,3] [] []
 |15654=>nm [0,3,4] [] []
 |_=>none
noncomputable def la(call:CL)(L:Nat)(C:Nat→Nat)(n q:Nat)(K:Bool)(M:Nat)(z:List D)(vi O:Int):Option D:=
 ch (cD call L C) O0 MU FinM.canon Tryz.f83 (bt 13 3223) [n] q (St.mk (D.slc K M z::J::J::D.int .i64 vi::D.int .i64 O::jn 60 []) (zn 65 []))
noncomputable def ru(call:CL)(L:Nat)(C:Nat→Nat)(n:Nat)(z:Bool)(K:Nat)(q:List D)(vi:Int):Option D:=
 eM (cD call L C) O0 MU FinM.canon Tryz.f83 (bt 11 1175) [n] (C 3913) (St.mk (D.slc z K q::J::J::D.int .i64 vi::jn 61 []) (zn 65 []))
noncomputable def ng(call:CL)(L:Nat)(C:Nat→Nat)(n:Nat)(z:Bool)(K:Nat)(q:List D)(vi:Int):Option D:=
 ch (cD call L C) O0 MU FinM.canon Tryz.f83 (bt 6 23) [] n (St.mk (D.slc z K q::J::J::D.int .i64 vi::jn 61 []) (zn 65 []))
theorem nh(call:CL)(L:Nat)(C:Nat→Nat)(n M:Nat)(K:Bool)(J:Nat)(z:List D)(vi q:Int):la call L C n (M+1) K J z vi q=
 (bC (decide (q<vi))
 (bL (decide (0≤q∧q<(J:Int)))
 (bu z (Int.toNat q*2+1) fun O=>bF .i64 O fun V=>bL (decide (0≤vi∧vi<(J:Int)))
 (bu z (Int.toNat vi*2+1) fun U=>bF .i64 U fun W=>bC (V==W)
 (some (D.int .i64 9))
 (la call L C n M K J z vi (IntKind.wrap .i64 (q+1))))))
 (ng call L C n K J z (IntKind.wrap .i64 (vi+1)))):=by kernel_rfl
theorem xA(call:CL)(L:Nat)(C:Nat→Nat)(n:Nat)(z:Bool)(J:Nat)(q:List D)(vi:Int)(hC:∀t,C t=1):ru call L C n z J q vi=
 (la call L C n L z J q vi 0):=by
 unfold ru;rw[hC]
 kernel_rfl
theorem rv(call:CL)(L:Nat)(C:Nat→Nat)(n:Nat)(J:Bool)(q:Nat)(z:List D)(vi:Int):ng call L C (n+1) J q z vi=
 (bC (decide (vi<(q:Int)))
 (bL (decide (0≤vi∧vi<(q:Int)))
 (bu z (Int.toNat vi*2+0) fun d=>bF .i64 d fun x=>bC (decide (x<3))
 (some (D.int .i64 3))
 (bL (decide (0≤vi∧vi<(q:Int)))
 (bu z (Int.toNat vi*2+0) fun K=>bF .i64 K fun U=>bC (decide (U>6))
 (some (D.int .i64 3))
 (bL (decide (0≤vi∧vi<(q:Int)))
 (bu z (Int.toNat vi*2+1) fun M=>bF .i64 M fun V=>bC (decide (V<1))
 (some (D.int .i64 3))
 (bL (decide (0≤vi∧vi<(q:Int)))
 (bu z (Int.toNat vi*2+1) fun O=>bF .i64 O fun W=>bC (decide (W>(q:Int)))
 (some (D.int .i64 3))
 (ru call L C n J q z vi)))))))))
 (some (D.int .i64 0))):=by kernel_rfl
theorem JQ(call:CL)(L:Nat)(C:Nat→Nat)(J:Bool)(q:Nat)(z:List D):bS (cD call L C) O0 MU FinM.canon Tryz.f83 [D.slc J q z]=
 (bC ((q:Int)==0)
 (some (D.int .i64 12))
 (bC (decide ((q:Int)>36))
 (some (D.int .i64 5))
 (ng call L C L J q z 0))):=by kernel_rfl
def DT:bP:=fun p=>match p with
 |122=>nm [0,4,22,23,24] [6] [6,21]
 |15667=>nm [0,4,6,22,23,24] [] [6,21]
 |31333=>nm [0,4,6,7,22,23,24] [] [6,21]
 |_=>none
noncomputable def mq(call:CL)(L:Nat)(C:Nat→Nat)(n:Nat)(z:Bool)(K:Nat)(q:List D)(U V vx W:Int)(M O:List D):Option D:=
 eM (cD call L C) O0 DT FinM.canon Tryz.f109 (bt 13 6551) [n] (C 15667) (St.mk (D.slc z K q::J::J::J::D.mloc 21 0::J::D.loc 6 0 0::jn 15 (D.slc z K q::D.int .i64 U::D.int .i64 V::jn 38 [])) (zn 6 ((1,some (Ob.box [D.int .i64 vx,D.int .i64 W] false))::zn 14 ((1,some (Ob.map M O false))::zn 41 []))))
noncomputable def dI(call:CL)(L:Nat)(C:Nat→Nat)(n:Nat)(z:Bool)(K:Nat)(q:List D)(U V:Int)(M O:List D)(W vx Y:Int):Option D:=
 eM (cD call L C) O0 DT FinM.canon Tryz.f109 (bt 14 10647) [n] (C 31333) (St.mk (D.slc z K q::J::J::J::D.mloc 21 0::J::D.loc 6 0 0::D.int .i64 W::jn 14 (D.slc z K q::D.int .i64 U::D.int .i64 V::jn 38 [])) (zn 6 ((1,some (Ob.box [D.int .i64 vx,D.int .i64 Y] false))::zn 14 ((1,some (Ob.map M O false))::zn 41 []))))
noncomputable def kP(call:CL)(L:Nat)(C:Nat→Nat)(n:Nat)(z:Bool)(K:Nat)(q:List D)(U V:Int)(M O:List D):Option D:=
 ch (cD call L C) O0 DT FinM.canon Tryz.f109 (bt 6 23) [] n (St.mk (D.slc z K q::J::J::J::D.mloc 21 0::jn 17 (D.slc z K q::D.int .i64 U::D.int .i64 V::jn 38 [])) (zn 21 ((1,some (Ob.map M O false))::zn 41 [])))
theorem sM(call:CL)(L:Nat)(C:Nat→Nat)(n:Nat)(O:Bool)(U:Nat)(M:List D)(J K vx V:Int)(q z:List D)(hC:∀t,C t=1):mq call L C n O U M J K vx V q z=
 (kj (iA (D.int .i64 V) (D.bool true) q z) fun ks vs=>kP call L C n O U M J (IntKind.wrap .i64 (K+1)) ks vs):=by
 unfold mq;rw[hC]
 kernel_rfl
theorem sN(call:CL)(L:Nat)(C:Nat→Nat)(n:Nat)(U:Bool)(V:Nat)(O:List D)(K M:Int)(z J:List D)(q vx W:Int)(hC:∀t,C t=1):dI call L C n U V O K M z J q vx W=
 (bC (q !=0)
 (some (D.int .i64 q))
 (mq call L C n U V O K M vx W z J)):=by
 unfold dI;rw[hC]
 kernel_rfl
theorem pm(call:CL)(L:Nat)(C:Nat→Nat)(n:Nat)(W:Bool)(O:Nat)(M:List D)(U q:Int)(J K:List D):kP call L C (n+1) W O M U q J K=
 (bC (decide (q<U))
 (bL (decide (0≤q∧q<(O:Int)))
 (bu M (Int.toNat q*2+0) fun d=>bF .i64 d fun V=>bu M (Int.toNat q*2+1) fun a5=>bF .i64 a5 fun z=>bC (decide (V<3))
 (bG (call 110 [D.bool true,D.int .i64 3]) fun aq=>bF .i64 aq fun a1=>
 (fa (cx (D.int .i64 z) J 0)
 (bG (call 110 [D.bool false,D.int .i64 9]) fun ar=>bF .i64 ar fun aL=>bG (call 108 [D.slc true 2 [D.int .i64 a1,D.int .i64 aL]]) fun au=>bF .i64 au fun aM=>dI call L C n W O M U q J K aM V z) fun i=>bu K i fun a6=>bW a6 fun b=>bG (call 110 [D.bool b,D.int .i64 9]) fun av=>bF .i64 av fun aN=>bG (call 108 [D.slc true 2 [D.int .i64 a1,D.int .i64 aN]]) fun aw=>bF .i64 aw fun aO=>dI call L C n W O M U q J K aO V z))
 (bC (decide (V>6))
 (bG (call 110 [D.bool true,D.int .i64 3]) fun ax=>bF .i64 ax fun Y=>
 (fa (cx (D.int .i64 z) J 0)
 (bG (call 110 [D.bool false,D.int .i64 9]) fun ay=>bF .i64 ay fun az=>bG (call 108 [D.slc true 2 [D.int .i64 Y,D.int .i64 az]]) fun ad=>bF .i64 ad fun aA=>dI call L C n W O M U q J K aA V z) fun aa=>bu K aa fun a7=>bW a7 fun a2=>bG (call 110 [D.bool a2,D.int .i64 9]) fun ae=>bF .i64 ae fun aB=>bG (call 108 [D.slc true 2 [D.int .i64 Y,D.int .i64 aB]]) fun af=>bF .i64 af fun aC=>dI call L C n W O M U q J K aC V z))
 (bC (decide (z<1))
 (bG (call 110 [D.bool true,D.int .i64 3]) fun ag=>bF .i64 ag fun Z=>
 (fa (cx (D.int .i64 z) J 0)
 (bG (call 110 [D.bool false,D.int .i64 9]) fun ah=>bF .i64 ah fun aD=>bG (call 108 [D.slc true 2 [D.int .i64 Z,D.int .i64 aD]]) fun ai=>bF .i64 ai fun aE=>dI call L C n W O M U q J K aE V z) fun ab=>bu K ab fun a8=>bW a8 fun a3=>bG (call 110 [D.bool a3,D.int .i64 9]) fun aj=>bF .i64 aj fun aF=>bG (call 108 [D.slc true 2 [D.int .i64 Z,D.int .i64 aF]]) fun ak=>bF .i64 ak fun aG=>dI call L C n W O M U q J K aG V z))
 (bG (call 110 [D.bool (decide (z>(O:Int))),D.int .i64 3]) fun al=>bF .i64 al fun a0=>
 (fa (cx (D.int .i64 z) J 0)
 (bG (call 110 [D.bool false,D.int .i64 9]) fun am=>bF .i64 am fun aH=>bG (call 108 [D.slc true 2 [D.int .i64 a0,D.int .i64 aH]]) fun an=>bF .i64 an fun aI=>dI call L C n W O M U q J K aI V z) fun ac=>bu K ac fun a9=>bW a9 fun a4=>bG (call 110 [D.bool a4,D.int .i64 9]) fun ao=>bF .i64 ao fun aJ=>bG (call 108 [D.slc true 2 [D.int .i64 a0,D.int .i64 aJ]]) fun ap=>bF .i64 ap fun aK=>dI call L C n W O M U q J K aK V z))))))
 (some (D.int .i64 0))):=by kernel_rfl
theorem Gj(call:CL)(L:Nat)(C:Nat→Nat)(J:Bool)(q:Nat)(z:List D):bS (cD call L C) O0 DT FinM.canon Tryz.f109 [D.slc J q z]=
 (bG (call 110 [D.bool ((q:Int)==0),D.int .i64 12]) fun r=>bF .i64 r fun x=>bG (call 110 [D.bool (decide ((q:Int)>36)),D.int .i64 5]) fun M=>bF .i64 M fun U=>bG (call 108 [D.slc true 2 [D.int .i64 x,D.int .i64 U]]) fun O=>bF .i64 O fun K=>bC (K !=0)
 (some (D.int .i64 K))
 (kP call L C L J q z ((q:Int)) 0 ([]) ([]))):=by kernel_rfl
def Gk:bP:=fun p=>match p with
 |15=>nm [0,3,5] [] [3]
 |31=>nm [3,5] [] [3]
 |_=>none
noncomputable def lb(call:CL)(L:Nat)(C:Nat→Nat)(q:ByteArray)(K:Bool)(M:Nat)(z:List D)(O:Int):Option D:=
 eM (cD call L C) O0 Gk FinM.canon Tryz.f152 [true,true,true,true] [] (C 31) (St.mk (J::J::J::D.loc 3 0 0::J::D.int .i64 O::jn 26 []) (Z::Z::Z::(1,some (Ob.box [D.str q,D.slc K M z] false))::zn 28 []))
noncomputable def lc(call:CL)(L:Nat)(C:Nat→Nat)(V:Bool)(W:Nat)(U:List D)(q:ByteArray)(K:Bool)(M:Nat)(z:List D)(O:Int):Option D:=
 eM (cD call L C) O0 Gk FinM.canon Tryz.f152 [true,true,true] [] (C 15) (St.mk (D.slc V W U::J::J::D.loc 3 0 0::J::D.int .i64 O::jn 26 []) (Z::Z::Z::(1,some (Ob.box [D.str q,D.slc K M z] false))::zn 28 []))
theorem zm(call:CL)(L:Nat)(C:Nat→Nat)(O:ByteArray)(J:Bool)(K:Nat)(z:List D)(q:Int)(hC:∀t,C t=1):lb call L C O J K z q=
 (bC (q==0)
 (bG (call 220 [D.slc J K z]) fun M=>bF .i64 M fun U=>some (D.int .i64 U))
 (some (D.int .i64 q))):=by
 unfold lb;rw[hC]
 kernel_rfl
theorem zo(call:CL)(L:Nat)(C:Nat→Nat)(V:Bool)(O:Nat)(U:List D)(z:ByteArray)(K:Bool)(q:Nat)(J:List D)(M:Int)(hC:∀t,C t=1):lc call L C V O U z K q J M=
 (bC (M==0)
 (bC ((q:Int) !=(O:Int))
 (lb call L C z K q J 2)
 (lb call L C z K q J M))
 (lb call L C z K q J M)):=by
 unfold lc;rw[hC]
 kernel_rfl
theorem Gm(call:CL)(L:Nat)(C:Nat→Nat)(J:Bool)(K:Nat)(z:List D)(q:ByteArray)(O:Bool)(U:Nat)(M:List D):bS (cD call L C) O0 Gk FinM.canon Tryz.f152 [D.slc J K z,D.agg [D.str q,D.slc O U M]]=
 (bG (call 83 [D.slc J K z]) fun r=>bF .i64 r fun x=>bC (x==0)
 (bG (call 80 [D.str q]) fun V=>bW V fun b=>bC (!b)
 (lc call L C J K z q O U M 8)
 (lc call L C J K z q O U M x))
 (lc call L C J K z q O U M x)):=by kernel_rfl
theorem JR(call:CL)(L:Nat)(C:Nat→Nat)(U:Bool)(z:Nat)(O:List D)(J:ByteArray)(M:Bool)(q:Nat)(K:List D):bS (cD call L C) O0 N0 FinM.canon Tryz.f41 [D.slc U z O,D.agg [D.str J,D.slc M q K]]=
 (bG (call 109 [D.slc U z O]) fun r=>bF .i64 r fun x=>bG (call 111 [D.str J]) fun V=>bW V fun b=>bG (call 110 [D.bool !b,D.int .i64 8]) fun W=>bF .i64 W fun a1=>bG (call 110 [D.bool ((q:Int) !=(z:Int)),D.int .i64 2]) fun Y=>bF .i64 Y fun a2=>bG (call 112 [D.slc M q K]) fun Z=>bF .i64 Z fun a3=>bG (call 108 [D.slc true 4 [D.int .i64 x,D.int .i64 a1,D.int .i64 a2,D.int .i64 a3]]) fun a0=>bF .i64 a0 fun a4=>some (D.int .i64 a4)):=by kernel_rfl
def JS:bP:=fun p=>match p with
 |26=>nm [0,1,7,8] [] []
 |_=>none
noncomputable def p8(call:CL)(L:Nat)(C:Nat→Nat)(n:Nat)(K:Bool)(M:Nat)(J:List D)(O:ByteArray)(q z:Int):Option D:=
 ch (cD call L C) O0 JS FinM.canon Tryz.f223 [true,false,true,false] [] n (St.mk (D.slc K M J::D.str O::jn 5 (D.int .i64 q::D.int .i64 z::jn 10 [])) (zn 19 []))
theorem rx(call:CL)(L:Nat)(C:Nat→Nat)(n:Nat)(O:Bool)(K:Nat)(J:List D)(M:ByteArray)(z q:Int):p8 call L C (n+1) O K J M z q=
 (bC (decide (q<z))
 (bL (decide (0≤q∧q<(K:Int)))
 (bu J (Int.toNat q*1) fun d=>bY d fun s=>bC (ByteArray.toList M==ByteArray.toList s)
 (some (D.int .i64 q))
 (p8 call L C n O K J M z (IntKind.wrap .i64 (q+1)))))
 (some (D.int .i64 (-1)))):=by kernel_rfl
theorem Gn(call:CL)(L:Nat)(C:Nat→Nat)(J:Bool)(q:Nat)(z:List D)(K:ByteArray):bS (cD call L C) O0 JS FinM.canon Tryz.f223 [D.slc J q z,D.str K]=
 (p8 call L C L J q z K ((q:Int)) 0):=by kernel_rfl
def JT:bP:=fun p=>match p with
 |26=>nm [0,1,7,8] [] []
 |_=>none
noncomputable def p9(call:CL)(L:Nat)(C:Nat→Nat)(n:Nat)(M:Bool)(O:Nat)(K:List D)(J:ByteArray)(q z:Int):Option D:=
 ch (cD call L C) O0 JT FinM.canon Tryz.f221 [true,false,true,false] [] n (St.mk (D.slc M O K::D.fn (Fn.func 222) [] [D.snap [D.str J] 0]::jn 5 (D.int .i64 q::D.int .i64 z::jn 10 [])) (zn 19 []))
theorem ry(call:CL)(L:Nat)(C:Nat→Nat)(n:Nat)(O:Bool)(M:Nat)(z:List D)(K:ByteArray)(J q:Int):p9 call L C (n+1) O M z K J q=
 (bC (decide (q<J))
 (bL (decide (0≤q∧q<(M:Int)))
 (bu z (Int.toNat q*3+0) fun d=>bY d fun s=>bu z (Int.toNat q*3+1) fun U=>bY U fun W=>bu z (Int.toNat q*3+2) fun V=>bF .i64 V fun x=>bG (call 222 [D.agg [D.str s,D.str W,D.int .i64 x],D.snap [D.str K] 0]) fun r=>bW r fun b=>bC b
 (some (D.int .i64 q))
 (p9 call L C n O M z K J (IntKind.wrap .i64 (q+1)))))
 (some (D.int .i64 (-1)))):=by kernel_rfl
theorem Gp(call:CL)(L:Nat)(C:Nat→Nat)(K:Bool)(q:Nat)(J:List D)(z:ByteArray):bS (cD call L C) O0 JT FinM.canon Tryz.f221 [D.slc K q J,D.fn (Fn.func 222) [] [D.snap [D.str z] 0]]=
 (p9 call L C L K q J z ((q:Int)) 0):=by kernel_rfl
theorem Gq(call:CL)(L:Nat)(C:Nat→Nat)(z J:ByteArray)(K:Int)(q:ByteArray):bS (cD call L C) O0 N0 FinM.canon Tryz.f222 [D.agg [D.str z,D.str J,D.int .i64 K],D.snap [D.str q] 0]=
 (some (D.bool (ByteArray.toList z==ByteArray.toList q))):=by kernel_rfl
def JU:bP:=fun p=>match p with
 |26=>nm [0,1,7,8] [] []
 |_=>none
noncomputable def qa(call:CL)(L:Nat)(C:Nat→Nat)(n:Nat)(U:Bool)(V:Nat)(O:List D)(J:ByteArray)(K:Int)(M:Bool)(q z:Int):Option D:=
 ch (cD call L C) O0 JU FinM.canon Tryz.f275 [true,false,true,false] [] n (St.mk (D.slc U V O::D.fn (Fn.func 276) [] [D.snap [D.str J] 0,D.snap [D.int .i64 K] 0,D.snap [D.bool M] 0]::jn 5 (D.int .i64 q::D.int .i64 z::jn 10 [])) (zn 19 []))
theorem rz(call:CL)(L:Nat)(C:Nat→Nat)(n:Nat)(V:Bool)(U:Nat)(z:List D)(K:ByteArray)(M:Int)(O:Bool)(J q:Int):qa call L C (n+1) V U z K M O J q=
 (bC (decide (q<J))
 (bL (decide (0≤q∧q<(U:Int)))
 (bu z (Int.toNat q*5+0) fun d=>bY d fun s=>bu z (Int.toNat q*5+1) fun W=>bY W fun a1=>bu z (Int.toNat q*5+2) fun Y=>bF .i64 Y fun x=>bu z (Int.toNat q*5+3) fun Z=>bF .i64 Z fun a3=>bu z (Int.toNat q*5+4) fun a0=>bY a0 fun a2=>bG (call 276 [D.agg [D.str s,D.str a1,D.int .i64 x,D.int .i64 a3,D.str a2],D.snap [D.str K] 0,D.snap [D.int .i64 M] 0,D.snap [D.bool O] 0]) fun r=>bW r fun b=>bC b
 (some (D.int .i64 q))
 (qa call L C n V U z K M O J (IntKind.wrap .i64 (q+1)))))
 (some (D.int .i64 (-1)))):=by kernel_rfl
theorem Gr(call:CL)(L:Nat)(C:Nat→Nat)(O:Bool)(q:Nat)(M:List D)(z:ByteArray)(J:Int)(K:Bool):bS (cD call L C) O0 JU FinM.canon Tryz.f275 [D.slc O q M,D.fn (Fn.func 276) [] [D.snap [D.str z] 0,D.snap [D.int .i64 J] 0,D.snap [D.bool K] 0]]=
 (qa call L C L O q M z J K ((q:Int)) 0):=by kernel_rfl
theorem Gs(call:CL)(L:Nat)(C:Nat→Nat)(q O:ByteArray)(z U:Int)(V J:ByteArray)(K:Int)(M:Bool):bS (cD call L C) O0 N0 FinM.canon Tryz.f276 [D.agg [D.str q,D.str O,D.int .i64 z,D.int .i64 U,D.str V],D.snap [D.str J] 0,D.snap [D.int .i64 K] 0,D.snap [D.bool M] 0]=
 (bC (ByteArray.toList q==ByteArray.toList J)
 (bC (z==K)
 (bG (call 153 [D.agg [D.str q,D.str O,D.int .i64 z,D.int .i64 U,D.str V]]) fun r=>bW r fun b=>some (D.bool (b==M)))
 (some (D.bool false)))
 (some (D.bool false))):=by kernel_rfl
theorem Gt(call:CL)(L:Nat)(C:Nat→Nat)(V:Bool)(W:Nat)(U:List D)(Z:Bool)(a0:Nat)(Y:List D)(a2:Bool)(a3:Nat)(a1:List D)(M:Bool)(O:Nat)(K:List D)(a5:Bool)(a6:Nat)(a4:List D)(a8:Bool)(a9:Nat)(a7:List D)(J:ByteArray)(q:Int)(z:Bool):bS (cD call L C) O0 N0 FinM.canon Tryz.f224 [D.agg [D.slc V W U,D.slc Z a0 Y,D.slc a2 a3 a1,D.slc M O K,D.slc a5 a6 a4,D.slc a8 a9 a7],D.str J,D.int .i64 q,D.bool z]=
 (bG (call 275 [D.slc M O K,D.fn (Fn.func 276) [] [D.snap [D.str J] 0,D.snap [D.int .i64 q] 0,D.snap [D.bool z] 0]]) fun r=>bF .i64 r fun x=>some (D.int .i64 x)):=by kernel_rfl
def Pw:bP:=fun p=>match p with
 |26=>nm [1,2,3,4,9] [10] [4,10]
 |_=>none
noncomputable def oA(call:CL)(L:Nat)(C:Nat→Nat)(n:Nat)(K:ByteArray)(q:Int)(z O:Bool)(U:Nat)(M:List D)(W:Bool)(Y:Nat)(V:List D)(a1:Bool)(a2:Nat)(a0:List D)(a4:Bool)(a5:Nat)(a3:List D)(a7:Bool)(a8:Nat)(a6:List D)(aa:Bool)(ab:Nat)(a9:List D)(vi:Int):Option D:=
 ch (cD call L C) O0 Pw FinM.canon Tryz.f95 [true,false,true,false] [] n (St.mk (J::D.str K::D.int .i64 q::D.bool z::D.loc 4 0 0::J::J::J::J::D.int .i64 vi::jn 32 []) (Z::Z::Z::Z::(1,some (Ob.box [D.slc O U M,D.slc W Y V,D.slc a1 a2 a0,D.slc a4 a5 a3,D.slc a7 a8 a6,D.slc aa ab a9] false))::zn 37 []))
theorem t6(call:CL)(L:Nat)(C:Nat→Nat)(n:Nat)(z:ByteArray)(K:Int)(M U:Bool)(V:Nat)(O:List D)(Y:Bool)(Z:Nat)(W:List D)(a1:Bool)(a2:Nat)(a0:List D)(a3:Bool)(J:Nat)(q:List D)(a5:Bool)(a6:Nat)(a4:List D)(a8:Bool)(a9:Nat)(a7:List D)(vi:Int):oA call L C (n+1) z K M U V O Y Z W a1 a2 a0 a3 J q a5 a6 a4 a8 a9 a7 vi=
 (bC (decide (vi<(J:Int)))
 (bL (decide (0≤vi∧vi<(J:Int)))
 (bu q (Int.toNat vi*5+0) fun d=>bY d fun s=>bu q (Int.toNat vi*5+1) fun aa=>bY aa fun ae=>bu q (Int.toNat vi*5+2) fun ab=>bF .i64 ab fun x=>bu q (Int.toNat vi*5+3) fun ac=>bF .i64 ac fun _x_1=>bu q (Int.toNat vi*5+4) fun ad=>bY ad fun _s_2=>bC (ByteArray.toList s==ByteArray.toList z)
 (bC (x==K)
 (bC ((ByteArray.toList ae==ByteArray.toList z)==M)
 (some (D.int .i64 vi))
 (oA call L C n z K M U V O Y Z W a1 a2 a0 a3 J q a5 a6 a4 a8 a9 a7 (IntKind.wrap .i64 (vi+1))))
 (oA call L C n z K M U V O Y Z W a1 a2 a0 a3 J q a5 a6 a4 a8 a9 a7 (IntKind.wrap .i64 (vi+1))))
 (oA call L C n z K M U V O Y Z W a1 a2 a0 a3 J q a5 a6 a4 a8 a9 a7 (IntKind.wrap .i64 (vi+1)))))
 (some (D.int .i64 (-1)))):=by kernel_rfl
theorem JV(call:CL)(L:Nat)(C:Nat→Nat)(M:Bool)(O:Nat)(K:List D)(V:Bool)(W:Nat)(U:List D)(Z:Bool)(a0:Nat)(Y:List D)(a2:Bool)(a3:Nat)(a1:List D)(a5:Bool)(a6:Nat)(a4:List D)(a8:Bool)(a9:Nat)(a7:List D)(J:ByteArray)(q:Int)(z:Bool):bS (cD call L C) O0 Pw FinM.canon Tryz.f95 [D.agg [D.slc M O K,D.slc V W U,D.slc Z a0 Y,D.slc a2 a3 a1,D.slc a5 a6 a4,D.slc a8 a9 a7],D.str J,D.int .i64 q,D.bool z]=
 (oA call L C L J q z M O K V W U Z a0 Y a2 a3 a1 a5 a6 a4 a8 a9 a7 0):=by kernel_rfl
def JW:bP:=fun p=>match p with
 |58=>nm [1,3] [] [1]
 |_=>none
noncomputable def qb(call:CL)(L:Nat)(C:Nat→Nat)(n:Nat)(q:ByteArray)(K:Bool)(M:Nat)(z:List D)(O vi:Int):Option D:=
 ch (cD call L C) O0 JW FinM.canon Tryz.f150 (bt 5 11) [] n (St.mk (J::D.loc 1 0 0::J::D.int .i64 vi::jn 29 []) (Z::(1,some (Ob.box [D.str q,D.slc K M z,D.int .i64 O] false))::zn 31 []))
theorem rA(call:CL)(L:Nat)(C:Nat→Nat)(n:Nat)(J:ByteArray)(K:Bool)(q:Nat)(z:List D)(M vi:Int):qb call L C (n+1) J K q z M vi=
 (bC (decide (vi<(q:Int)))
 (bL (decide (0≤vi∧vi<(q:Int)))
 (bu z (Int.toNat vi*2+1) fun d=>bY d fun s=>bC (decide (((ByteArray.size s):Int)>60))
 (some (D.bool false))
 (qb call L C n J K q z M (IntKind.wrap .i64 (vi+1)))))
 (some (D.bool true))):=by kernel_rfl
theorem Gu(call:CL)(L:Nat)(C:Nat→Nat)(q:ByteArray)(K:Bool)(z:Nat)(J:List D)(M:Int):bS (cD call L C) O0 JW FinM.canon Tryz.f150 [D.agg [D.str q,D.slc K z J,D.int .i64 M]]=
 (bC (decide (((ByteArray.size q):Int)>60))
 (some (D.bool false))
 (bC (decide ((z:Int)>39))
 (some (D.bool false))
 (qb call L C L q K z J M 0))):=by kernel_rfl
def JX:bP:=fun p=>match p with
 |26=>nm [1,2,5] [] [2]
 |_=>none
noncomputable def qc(call:CL)(L:Nat)(C:Nat→Nat)(n:Nat)(q:ByteArray)(K:Bool)(M:Nat)(z:List D)(U:Bool)(V:Nat)(O:List D)(Y:Bool)(a0:Nat)(W:List D)(a2:Bool)(a3:Nat)(a1:List D)(a5:Bool)(a6:Nat)(a4:List D)(a8:Bool)(a9:Nat)(a7:List D)(vi:Int):Option D:=
 ch (cD call L C) O0 JX FinM.canon Tryz.f151 [true,false,true,false] [] n (St.mk (J::D.str q::D.loc 2 0 0::J::J::D.int .i64 vi::jn 16 []) (Z::Z::(1,some (Ob.box [D.slc K M z,D.slc U V O,D.slc Y a0 W,D.slc a2 a3 a1,D.slc a5 a6 a4,D.slc a8 a9 a7] false))::zn 19 []))
theorem rB(call:CL)(L:Nat)(C:Nat→Nat)(n:Nat)(z:ByteArray)(M:Bool)(O:Nat)(K:List D)(V:Bool)(W:Nat)(U:List D)(Z:Bool)(a0:Nat)(Y:List D)(a2:Bool)(a3:Nat)(a1:List D)(a5:Bool)(a6:Nat)(a4:List D)(a7:Bool)(q:Nat)(J:List D)(vi:Int):qc call L C (n+1) z M O K V W U Z a0 Y a2 a3 a1 a5 a6 a4 a7 q J vi=
 (bC (decide (vi<(q:Int)))
 (bL (decide (0≤vi∧vi<(q:Int)))
 (bu J (Int.toNat vi*3+0) fun d=>bY d fun s=>bC (ByteArray.toList s==ByteArray.toList z)
 (some (D.int .i64 vi))
 (qc call L C n z M O K V W U Z a0 Y a2 a3 a1 a5 a6 a4 a7 q J (IntKind.wrap .i64 (vi+1)))))
 (some (D.int .i64 (-1)))):=by kernel_rfl
theorem Gv(call:CL)(L:Nat)(C:Nat→Nat)(J:Bool)(K:Nat)(z:List D)(O:Bool)(U:Nat)(M:List D)(W:Bool)(Y:Nat)(V:List D)(a0:Bool)(a1:Nat)(Z:List D)(a3:Bool)(a4:Nat)(a2:List D)(a6:Bool)(a7:Nat)(a5:List D)(q:ByteArray):bS (cD call L C) O0 JX FinM.canon Tryz.f151 [D.agg [D.slc J K z,D.slc O U M,D.slc W Y V,D.slc a0 a1 Z,D.slc a3 a4 a2,D.slc a6 a7 a5],D.str q]=
 (qc call L C L q J K z O U M W Y V a0 a1 Z a3 a4 a2 a6 a7 a5 0):=by kernel_rfl
theorem Gw(call:CL)(L:Nat)(C:Nat→Nat)(q:Int):bS (cD call L C) O0 N0 FinM.canon Tryz.f284 [D.int .i64 q]=
 (bC (decide (q≥1))
 (some (D.bool (decide (q≤99))))
 (some (D.bool false))):=by kernel_rfl
theorem Gx(call:CL)(L:Nat)(C:Nat→Nat)(q:Int):bS (cD call L C) O0 N0 FinM.canon Tryz.f285 [D.int .i64 q]=
 (some (D.bool (q==0))):=by kernel_rfl
theorem Gy(call:CL)(L:Nat)(C:Nat→Nat):bS (cD call L C) O0 N0 FinM.canon Tryz.f231 []=
 (some (D.msnap ([D.str (ByteArray.mk #[])]++[D.str (ByteArray.mk #[99])]++[D.str (ByteArray.mk #[120])]++[D.str (ByteArray.mk #[45])]) ([D.agg [D.fn (Fn.func 284) [] [],D.fn (Fn.func 138) [] []]]++[D.agg [D.fn (Fn.func 284) [] [],D.fn (Fn.func 286) [] []]]++[D.agg [D.fn (Fn.func 285) [] [],D.fn (Fn.func 287) [] []]]++[D.agg [D.fn (Fn.func 285) [] [],D.fn (Fn.func 288) [] []]]))):=by kernel_rfl
theorem Gz(call:CL)(L:Nat)(C:Nat→Nat)(U:Bool)(V:Nat)(O:List D)(Y:Bool)(Z:Nat)(W:List D)(a1:Bool)(a2:Nat)(a0:List D)(a3:Bool)(z:Nat)(q:List D)(a5:Bool)(a6:Nat)(a4:List D)(a8:Bool)(a9:Nat)(a7:List D)(M:ByteArray)(J:Int)(K:Bool):bS (cD call L C) O0 N0 FinM.canon Tryz.f156 [D.agg [D.slc U V O,D.slc Y Z W,D.slc a1 a2 a0,D.slc a3 z q,D.slc a5 a6 a4,D.slc a8 a9 a7],D.str M,D.int .i64 J,D.bool K]=
 (bG (call 224 [D.agg [D.slc U V O,D.slc Y Z W,D.slc a1 a2 a0,D.slc a3 z q,D.slc a5 a6 a4,D.slc a8 a9 a7],D.str M,D.int .i64 J,D.bool K]) fun r=>bF .i64 r fun x=>bC (decide (x<0))
 (some (D.tup [D.agg [D.int .i64 0,D.str (ByteArray.mk #[45])],D.bool false]))
 (bL (decide (0≤x∧x<(z:Int)))
 (bu q (Int.toNat x*5+3+0) fun d=>bF .i64 d fun ab=>bu q (Int.toNat x*5+3+1) fun aa=>bY aa fun s=>some (D.tup [D.agg [D.int .i64 ab,D.str s],D.bool true])))):=by kernel_rfl
def BR:bP:=fun p=>match p with
 |58=>nm [1,2,3,7,15,16] [9,11] [3,9,11,47]
 |_=>none
noncomputable def dJ(call:CL)(L:Nat)(C:Nat→Nat)(n:Nat)(K:ByteArray)(O:Bool)(U:Nat)(M:List D)(W:Bool)(Y:Nat)(V:List D)(a1:Bool)(a2:Nat)(a0:List D)(a4:Bool)(a5:Nat)(a3:List D)(a7:Bool)(a8:Nat)(a6:List D)(aa:Bool)(ab:Nat)(a9:List D)(vl:Ow)(q z:Int):Option D:=
 ch (cD call L C) O0 BR FinM.canon Tryz.f157 (bt 5 11) [] n (St.mk (J::D.str K::D.fn (Fn.func 158) [] []::D.loc 3 0 0::J::J::J::ol 47 vl::jn 7 (D.int .i64 q::D.int .i64 z::jn 33 [])) (Z::Z::Z::(1,some (Ob.box [D.slc O U M,D.slc W Y V,D.slc a1 a2 a0,D.slc a4 a5 a3,D.slc a7 a8 a6,D.slc aa ab a9] false))::zn 43 [om 3 1 vl,Z,Z]))
theorem ni(call:CL)(L:Nat)(C:Nat→Nat)(n:Nat)(z:ByteArray)(K:Bool)(M:Nat)(J:List D)(U:Bool)(V:Nat)(O:List D)(Y:Bool)(Z:Nat)(W:List D)(a1:Bool)(a2:Nat)(a0:List D)(a4:Bool)(a5:Nat)(a3:List D)(a7:Bool)(a8:Nat)(a6:List D)(a9 q:Int):dJ call L C (n+1) z K M J U V O Y Z W a1 a2 a0 a4 a5 a3 a7 a8 a6 (Ow.nil) a9 q=
 (bC (decide (q<a9))
 (bG (call 156 [D.agg [D.slc K M J,D.slc U V O,D.slc Y Z W,D.slc a1 a2 a0,D.slc a4 a5 a3,D.slc a7 a8 a6],D.str z,D.int .i64 (IntKind.wrap .i64 (q+1)),D.bool false]) fun r=>fY r 2 fun c=>bu c 0 fun d=>gG d 2 fun aa=>bu aa 0 fun ai=>bF .i64 ai fun x=>bu aa 1 fun aj=>bY aj fun s=>bu c 1 fun ak=>bW ak fun b=>bG (call 156 [D.agg [D.slc K M J,D.slc U V O,D.slc Y Z W,D.slc a1 a2 a0,D.slc a4 a5 a3,D.slc a7 a8 a6],D.str z,D.int .i64 (IntKind.wrap .i64 (q+1)),D.bool true]) fun ap=>fY ap 2 fun ab=>bu ab 0 fun al=>gG al 2 fun ac=>bu ac 0 fun am=>bF .i64 am fun ae=>bu ac 1 fun an=>bY an fun ad=>bu ab 1 fun ao=>bW ao fun af=>bC b
 (bG (call 158 [D.agg [D.int .i64 x,D.str s],D.agg [D.int .i64 ae,D.str ad],D.bool af]) fun aq=>bW aq fun ag=>bC ag
 (dJ call L C n z K M J U V O Y Z W a1 a2 a0 a4 a5 a3 a7 a8 a6 (Ow.own 1 [D.int .i64 (IntKind.wrap .i64 (q+1))]) a9 (IntKind.wrap .i64 (q+1)))
 (dJ call L C n z K M J U V O Y Z W a1 a2 a0 a4 a5 a3 a7 a8 a6 (Ow.nil) a9 (IntKind.wrap .i64 (q+1))))
 (bG (call 158 [D.agg [D.int .i64 x,D.str s],D.agg [D.int .i64 ae,D.str ad],D.bool false]) fun ar=>bW ar fun ah=>bC ah
 (dJ call L C n z K M J U V O Y Z W a1 a2 a0 a4 a5 a3 a7 a8 a6 (Ow.own 1 [D.int .i64 (IntKind.wrap .i64 (q+1))]) a9 (IntKind.wrap .i64 (q+1)))
 (dJ call L C n z K M J U V O Y Z W a1 a2 a0 a4 a5 a3 a7 a8 a6 (Ow.nil) a9 (IntKind.wrap .i64 (q+1)))))
 (some (D.slc true 0 []))):=by kernel_rfl
theorem nk(call:CL)(L:Nat)(C:Nat→Nat)(n:Nat)(J:ByteArray)(M:Bool)(O:Nat)(K:List D)(V:Bool)(W:Nat)(U:List D)(Z:Bool)(a0:Nat)(Y:List D)(a2:Bool)(a3:Nat)(a1:List D)(a5:Bool)(a6:Nat)(a4:List D)(a8:Bool)(a9:Nat)(a7:List D)(z:Nat)(ab:List D)(aa q:Int):dJ call L C (n+1) J M O K V W U Z a0 Y a2 a3 a1 a5 a6 a4 a8 a9 a7 (Ow.own z ab) aa q=
 (bC (decide (q<aa))
 (bG (call 156 [D.agg [D.slc M O K,D.slc V W U,D.slc Z a0 Y,D.slc a2 a3 a1,D.slc a5 a6 a4,D.slc a8 a9 a7],D.str J,D.int .i64 (IntKind.wrap .i64 (q+1)),D.bool false]) fun ay=>fY ay 2 fun ac=>bu ac 0 fun aw=>gG aw 2 fun ad=>bu ad 0 fun ax=>bF .i64 ax fun ai=>bu ad 1 fun ao=>bY ao fun ag=>bu ac 1 fun ap=>bW ap fun ak=>bG (call 156 [D.agg [D.slc M O K,D.slc V W U,D.slc Z a0 Y,D.slc a2 a3 a1,D.slc a5 a6 a4,D.slc a8 a9 a7],D.str J,D.int .i64 (IntKind.wrap .i64 (q+1)),D.bool true]) fun az=>fY az 2 fun ae=>bu ae 0 fun aq=>gG aq 2 fun af=>bu af 0 fun ar=>bF .i64 ar fun aj=>bu af 1 fun au=>bY au fun ah=>bu ae 1 fun av=>bW av fun al=>bC ak
 (bG (call 158 [D.agg [D.int .i64 ai,D.str ag],D.agg [D.int .i64 aj,D.str ah],D.bool al]) fun aA=>bW aA fun am=>bC am
 (bL (decide ((z+1)*8≤cB∧z+1≤9223372036854775807))
 (dJ call L C n J M O K V W U Z a0 Y a2 a3 a1 a5 a6 a4 a8 a9 a7 (Ow.own (z+1) (ab++[D.int .i64 (IntKind.wrap .i64 (q+1))])) aa (IntKind.wrap .i64 (q+1))))
 (dJ call L C n J M O K V W U Z a0 Y a2 a3 a1 a5 a6 a4 a8 a9 a7 (Ow.own z ab) aa (IntKind.wrap .i64 (q+1))))
 (bG (call 158 [D.agg [D.int .i64 ai,D.str ag],D.agg [D.int .i64 aj,D.str ah],D.bool false]) fun aB=>bW aB fun an=>bC an
 (bL (decide ((z+1)*8≤cB∧z+1≤9223372036854775807))
 (dJ call L C n J M O K V W U Z a0 Y a2 a3 a1 a5 a6 a4 a8 a9 a7 (Ow.own (z+1) (ab++[D.int .i64 (IntKind.wrap .i64 (q+1))])) aa (IntKind.wrap .i64 (q+1))))
 (dJ call L C n J M O K V W U Z a0 Y a2 a3 a1 a5 a6 a4 a8 a9 a7 (Ow.own z ab) aa (IntKind.wrap .i64 (q+1)))))
 (some (D.slc false z ab))):=by kernel_rfl
theorem DU(call:CL)(L:Nat)(C:Nat→Nat)(K:Bool)(M:Nat)(J:List D)(U:Bool)(V:Nat)(O:List D)(Y:Bool)(q:Nat)(W:List D)(a0:Bool)(a1:Nat)(Z:List D)(a3:Bool)(a4:Nat)(a2:List D)(a6:Bool)(a7:Nat)(a5:List D)(z:ByteArray):bS (cD call L C) O0 BR FinM.canon Tryz.f157 [D.agg [D.slc K M J,D.slc U V O,D.slc Y q W,D.slc a0 a1 Z,D.slc a3 a4 a2,D.slc a6 a7 a5],D.str z,D.fn (Fn.func 158) [] []]=
 (dJ call L C L z K M J U V O Y q W a0 a1 Z a3 a4 a2 a6 a7 a5 (Ow.nil) ((q:Int)) 0):=by kernel_rfl
noncomputable def dK(call:CL)(L:Nat)(C:Nat→Nat)(n:Nat)(K:ByteArray)(O:Bool)(U:Nat)(M:List D)(W:Bool)(Y:Nat)(V:List D)(a1:Bool)(a2:Nat)(a0:List D)(a4:Bool)(a5:Nat)(a3:List D)(a7:Bool)(a8:Nat)(a6:List D)(aa:Bool)(ab:Nat)(a9:List D)(vl:Ow)(q z:Int):Option D:=
 ch (cD call L C) O0 BR FinM.canon Tryz.f157 (bt 5 11) [] n (St.mk (J::D.str K::D.fn (Fn.func 159) [] []::D.loc 3 0 0::J::J::J::ol 47 vl::jn 7 (D.int .i64 q::D.int .i64 z::jn 33 [])) (Z::Z::Z::(1,some (Ob.box [D.slc O U M,D.slc W Y V,D.slc a1 a2 a0,D.slc a4 a5 a3,D.slc a7 a8 a6,D.slc aa ab a9] false))::zn 43 [om 3 1 vl,Z,Z]))
theorem nl(call:CL)(L:Nat)(C:Nat→Nat)(n:Nat)(z:ByteArray)(K:Bool)(M:Nat)(J:List D)(U:Bool)(V:Nat)(O:List D)(Y:Bool)(Z:Nat)(W:List D)(a1:Bool)(a2:Nat)(a0:List D)(a4:Bool)(a5:Nat)(a3:List D)(a7:Bool)(a8:Nat)(a6:List D)(a9 q:Int):dK call L C (n+1) z K M J U V O Y Z W a1 a2 a0 a4 a5 a3 a7 a8 a6 (Ow.nil) a9 q=
 (bC (decide (q<a9))
 (bG (call 156 [D.agg [D.slc K M J,D.slc U V O,D.slc Y Z W,D.slc a1 a2 a0,D.slc a4 a5 a3,D.slc a7 a8 a6],D.str z,D.int .i64 (IntKind.wrap .i64 (q+1)),D.bool false]) fun r=>fY r 2 fun c=>bu c 0 fun d=>gG d 2 fun aa=>bu aa 0 fun ai=>bF .i64 ai fun x=>bu aa 1 fun aj=>bY aj fun s=>bu c 1 fun ak=>bW ak fun b=>bG (call 156 [D.agg [D.slc K M J,D.slc U V O,D.slc Y Z W,D.slc a1 a2 a0,D.slc a4 a5 a3,D.slc a7 a8 a6],D.str z,D.int .i64 (IntKind.wrap .i64 (q+1)),D.bool true]) fun ap=>fY ap 2 fun ab=>bu ab 0 fun al=>gG al 2 fun ac=>bu ac 0 fun am=>bF .i64 am fun ae=>bu ac 1 fun an=>bY an fun ad=>bu ab 1 fun ao=>bW ao fun af=>bC b
 (bG (call 159 [D.agg [D.int .i64 x,D.str s],D.agg [D.int .i64 ae,D.str ad],D.bool af]) fun aq=>bW aq fun ag=>bC ag
 (dK call L C n z K M J U V O Y Z W a1 a2 a0 a4 a5 a3 a7 a8 a6 (Ow.own 1 [D.int .i64 (IntKind.wrap .i64 (q+1))]) a9 (IntKind.wrap .i64 (q+1)))
 (dK call L C n z K M J U V O Y Z W a1 a2 a0 a4 a5 a3 a7 a8 a6 (Ow.nil) a9 (IntKind.wrap .i64 (q+1))))
 (bG (call 159 [D.agg [D.int .i64 x,D.str s],D.agg [D.int .i64 ae,D.str ad],D.bool false]) fun ar=>bW ar fun ah=>bC ah
 (dK call L C n z K M J U V O Y Z W a1 a2 a0 a4 a5 a3 a7 a8 a6 (Ow.own 1 [D.int .i64 (IntKind.wrap .i64 (q+1))]) a9 (IntKind.wrap .i64 (q+1)))
 (dK call L C n z K M J U V O Y Z W a1 a2 a0 a4 a5 a3 a7 a8 a6 (Ow.nil) a9 (IntKind.wrap .i64 (q+1)))))
 (some (D.slc true 0 []))):=by kernel_rfl
theorem nn(call:CL)(L:Nat)(C:Nat→Nat)(n:Nat)(J:ByteArray)(M:Bool)(O:Nat)(K:List D)(V:Bool)(W:Nat)(U:List D)(Z:Bool)(a0:Nat)(Y:List D)(a2:Bool)(a3:Nat)(a1:List D)(a5:Bool)(a6:Nat)(a4:List D)(a8:Bool)(a9:Nat)(a7:List D)(z:Nat)(ab:List D)(aa q:Int):dK call L C (n+1) J M O K V W U Z a0 Y a2 a3 a1 a5 a6 a4 a8 a9 a7 (Ow.own z ab) aa q=
 (bC (decide (q<aa))
 (bG (call 156 [D.agg [D.slc M O K,D.slc V W U,D.slc Z a0 Y,D.slc a2 a3 a1,D.slc a5 a6 a4,D.slc a8 a9 a7],D.str J,D.int .i64 (IntKind.wrap .i64 (q+1)),D.bool false]) fun ay=>fY ay 2 fun ac=>bu ac 0 fun aw=>gG aw 2 fun ad=>bu ad 0 fun ax=>bF .i64 ax fun ai=>bu ad 1 fun ao=>bY ao fun ag=>bu ac 1 fun ap=>bW ap fun ak=>bG (call 156 [D.agg [D.slc M O K,D.slc V W U,D.slc Z a0 Y,D.slc a2 a3 a1,D.slc a5 a6 a4,D.slc a8 a9 a7],D.str J,D.int .i64 (IntKind.wrap .i64 (q+1)),D.bool true]) fun az=>fY az 2 fun ae=>bu ae 0 fun aq=>gG aq 2 fun af=>bu af 0 fun ar=>bF .i64 ar fun aj=>bu af 1 fun au=>bY au fun ah=>bu ae 1 fun av=>bW av fun al=>bC ak
 (bG (call 159 [D.agg [D.int .i64 ai,D.str ag],D.agg [D.int .i64 aj,D.str ah],D.bool al]) fun aA=>bW aA fun am=>bC am
 (bL (decide ((z+1)*8≤cB∧z+1≤9223372036854775807))
 (dK call L C n J M O K V W U Z a0 Y a2 a3 a1 a5 a6 a4 a8 a9 a7 (Ow.own (z+1) (ab++[D.int .i64 (IntKind.wrap .i64 (q+1))])) aa (IntKind.wrap .i64 (q+1))))
 (dK call L C n J M O K V W U Z a0 Y a2 a3 a1 a5 a6 a4 a8 a9 a7 (Ow.own z ab) aa (IntKind.wrap .i64 (q+1))))
 (bG (call 159 [D.agg [D.int .i64 ai,D.str ag],D.agg [D.int .i64 aj,D.str ah],D.bool false]) fun aB=>bW aB fun an=>bC an
 (bL (decide ((z+1)*8≤cB∧z+1≤9223372036854775807))
 (dK call L C n J M O K V W U Z a0 Y a2 a3 a1 a5 a6 a4 a8 a9 a7 (Ow.own (z+1) (ab++[D.int .i64 (IntKind.wrap .i64 (q+1))])) aa (IntKind.wrap .i64 (q+1))))
 (dK call L C n J M O K V W U Z a0 Y a2 a3 a1 a5 a6 a4 a8 a9 a7 (Ow.own z ab) aa (IntKind.wrap .i64 (q+1)))))
 (some (D.slc false z ab))):=by kernel_rfl
theorem DV(call:CL)(L:Nat)(C:Nat→Nat)(K:Bool)(M:Nat)(J:List D)(U:Bool)(V:Nat)(O:List D)(Y:Bool)(q:Nat)(W:List D)(a0:Bool)(a1:Nat)(Z:List D)(a3:Bool)(a4:Nat)(a2:List D)(a6:Bool)(a7:Nat)(a5:List D)(z:ByteArray):bS (cD call L C) O0 BR FinM.canon Tryz.f157 [D.agg [D.slc K M J,D.slc U V O,D.slc Y q W,D.slc a0 a1 Z,D.slc a3 a4 a2,D.slc a6 a7 a5],D.str z,D.fn (Fn.func 159) [] []]=
 (dK call L C L z K M J U V O Y q W a0 a1 Z a3 a4 a2 a6 a7 a5 (Ow.nil) ((q:Int)) 0):=by kernel_rfl
theorem GA(call:CL)(L:Nat)(C:Nat→Nat)(z:Int)(J:ByteArray)(K:Int)(M:ByteArray)(q:Bool):bS (cD call L C) O0 N0 FinM.canon Tryz.f158 [D.agg [D.int .i64 z,D.str J],D.agg [D.int .i64 K,D.str M],D.bool q]=
 (some (D.bool !q)):=by kernel_rfl
theorem GB(call:CL)(L:Nat)(C:Nat→Nat)(q:Int)(z:ByteArray)(J:Int)(K:ByteArray)(M:Bool):bS (cD call L C) O0 N0 FinM.canon Tryz.f159 [D.agg [D.int .i64 q,D.str z],D.agg [D.int .i64 J,D.str K],D.bool M]=
 (bC M
 (some (D.bool !(q==J&&(ByteArray.toList z==ByteArray.toList K&&true))))
 (some (D.bool false))):=by kernel_rfl
def Px:bP:=fun p=>match p with
 |58=>nm [1,2,4,5,13,14] [7] [2,4,5,7,29]
 |_=>none
noncomputable def oB(call:CL)(L:Nat)(C:Nat→Nat)(n:Nat)(z:ByteArray)(M:Bool)(O:Nat)(K:List D)(V:Bool)(W:Nat)(U:List D)(a0:Bool)(a1:Nat)(Y:List D)(a3:Bool)(a4:Nat)(a2:List D)(a6:Bool)(a7:Nat)(a5:List D)(a9:Bool)(aa:Nat)(a8:List D)(t13 t14:Int)(q:Ow):Option D:=
 ch (cD call L C) O0 Px FinM.canon Tryz.f91 (bt 5 11) [] n (St.mk (J::D.str z::D.loc 2 0 0::J::D.loc 4 0 0::D.loc 5 0 0::jn 7 (D.int .i64 t13::D.int .i64 t14::jn 18 [])) (Z::Z::(1,some (Ob.box [D.slc M O K,D.slc V W U,D.slc a0 a1 Y,D.slc a3 a4 a2,D.slc a6 a7 a5,D.slc a9 aa a8] false))::Z::(1,some (Ob.box [D.str (ByteArray.mk #[]),D.nils] false))::(1,some (Ob.box [D.str z,ol 29 q] false))::zn 23 [om 78 2 q,Z,Z,Z]))
theorem rC(call:CL)(L:Nat)(C:Nat→Nat)(n:Nat)(q:ByteArray)(J:Bool)(K:Nat)(z:List D)(O:Bool)(U:Nat)(M:List D)(W:Bool)(Y:Nat)(V:List D)(a0:Bool)(a1:Nat)(Z:List D)(a3:Bool)(a4:Nat)(a2:List D)(a6:Bool)(a7:Nat)(a5:List D)(t13 t14:Int):oB call L C (n+1) q J K z O U M W Y V a0 a1 Z a3 a4 a2 a6 a7 a5 t13 t14 (Ow.nil)=
 (bC (decide (t14<t13))
 (bG (call 156 [D.agg [D.slc J K z,D.slc O U M,D.slc W Y V,D.slc a0 a1 Z,D.slc a3 a4 a2,D.slc a6 a7 a5],D.str q,D.int .i64 (IntKind.wrap .i64 (t14+1)),D.bool false]) fun r=>fY r 2 fun c=>bu c 0 fun d=>gG d 2 fun a8=>bu a8 0 fun a9=>bF .i64 a9 fun x=>bu a8 1 fun aa=>bY aa fun s=>bu c 1 fun ab=>bW ab fun _b=>oB call L C n q J K z O U M W Y V a0 a1 Z a3 a4 a2 a6 a7 a5 t13 (IntKind.wrap .i64 (t14+1)) (Ow.own 1 [D.int .i64 x,D.str s]))
 (some (D.agg [D.str q,D.slc true 0 []]))):=by kernel_rfl
theorem rD(call:CL)(L:Nat)(C:Nat→Nat)(n:Nat)(z:ByteArray)(M:Bool)(O:Nat)(K:List D)(V:Bool)(W:Nat)(U:List D)(Z:Bool)(a0:Nat)(Y:List D)(a2:Bool)(a3:Nat)(a1:List D)(a5:Bool)(a6:Nat)(a4:List D)(a8:Bool)(a9:Nat)(a7:List D)(t13 t14:Int)(q:Nat)(J:List D):oB call L C (n+1) z M O K V W U Z a0 Y a2 a3 a1 a5 a6 a4 a8 a9 a7 t13 t14 (Ow.own q J)=
 (bC (decide (t14<t13))
 (bG (call 156 [D.agg [D.slc M O K,D.slc V W U,D.slc Z a0 Y,D.slc a2 a3 a1,D.slc a5 a6 a4,D.slc a8 a9 a7],D.str z,D.int .i64 (IntKind.wrap .i64 (t14+1)),D.bool false]) fun ag=>fY ag 2 fun aa=>bu aa 0 fun ac=>gG ac 2 fun ab=>bu ab 0 fun ad=>bF .i64 ad fun ai=>bu ab 1 fun ae=>bY ae fun ah=>bu aa 1 fun af=>bW af fun _b_1=>bL (decide ((q+1)*24≤cB∧q+1≤9223372036854775807))
 (oB call L C n z M O K V W U Z a0 Y a2 a3 a1 a5 a6 a4 a8 a9 a7 t13 (IntKind.wrap .i64 (t14+1)) (Ow.own (q+1) (J++[D.int .i64 ai,D.str ah]))))
 (some (D.agg [D.str z,D.slc false q J]))):=by kernel_rfl
theorem JY(call:CL)(L:Nat)(C:Nat→Nat)(K:Bool)(M:Nat)(J:List D)(U:Bool)(V:Nat)(O:List D)(Y:Bool)(q:Nat)(W:List D)(a0:Bool)(a1:Nat)(Z:List D)(a3:Bool)(a4:Nat)(a2:List D)(a6:Bool)(a7:Nat)(a5:List D)(z:ByteArray):bS (cD call L C) O0 Px FinM.canon Tryz.f91 [D.agg [D.slc K M J,D.slc U V O,D.slc Y q W,D.slc a0 a1 Z,D.slc a3 a4 a2,D.slc a6 a7 a5],D.str z]=
 (oB call L C L z K M J U V O Y q W a0 a1 Z a3 a4 a2 a6 a7 a5 ((q:Int)) 0 (Ow.nil)):=by kernel_rfl
theorem JZ(call:CL)(L:Nat)(C:Nat→Nat)(J:Bool)(K:Nat)(z:List D)(O:Bool)(U:Nat)(M:List D)(W:Bool)(Y:Nat)(V:List D)(a0:Bool)(a1:Nat)(Z:List D)(a3:Bool)(a4:Nat)(a2:List D)(a6:Bool)(a7:Nat)(a5:List D)(q:ByteArray):bS (cD call L C) O0 N0 FinM.canon Tryz.f92 [D.agg [D.slc J K z,D.slc O U M,D.slc W Y V,D.slc a0 a1 Z,D.slc a3 a4 a2,D.slc a6 a7 a5],D.str q]=
 (bG (call 157 [D.agg [D.slc J K z,D.slc O U M,D.slc W Y V,D.slc a0 a1 Z,D.slc a3 a4 a2,D.slc a6 a7 a5],D.str q,D.fn (Fn.func 158) [] []]) fun r=>cV r fun f n c=>some (D.slc f n c)):=by kernel_rfl
theorem J0(call:CL)(L:Nat)(C:Nat→Nat)(J:Bool)(K:Nat)(z:List D)(O:Bool)(U:Nat)(M:List D)(W:Bool)(Y:Nat)(V:List D)(a0:Bool)(a1:Nat)(Z:List D)(a3:Bool)(a4:Nat)(a2:List D)(a6:Bool)(a7:Nat)(a5:List D)(q:ByteArray):bS (cD call L C) O0 N0 FinM.canon Tryz.f93 [D.agg [D.slc J K z,D.slc O U M,D.slc W Y V,D.slc a0 a1 Z,D.slc a3 a4 a2,D.slc a6 a7 a5],D.str q]=
 (bG (call 157 [D.agg [D.slc J K z,D.slc O U M,D.slc W Y V,D.slc a0 a1 Z,D.slc a3 a4 a2,D.slc a6 a7 a5],D.str q,D.fn (Fn.func 159) [] []]) fun r=>cV r fun f n c=>some (D.slc f n c)):=by kernel_rfl
theorem J1(call:CL)(L:Nat)(C:Nat→Nat)(K:Bool)(M:Nat)(J:List D)(U:Bool)(V:Nat)(O:List D)(Y:Bool)(q:Nat)(W:List D)(a0:Bool)(a1:Nat)(Z:List D)(a3:Bool)(a4:Nat)(a2:List D)(a6:Bool)(a7:Nat)(a5:List D)(z:ByteArray):bS (cD call L C) O0 N0 FinM.canon Tryz.f94 [D.agg [D.slc K M J,D.slc U V O,D.slc Y q W,D.slc a0 a1 Z,D.slc a3 a4 a2,D.slc a6 a7 a5],D.str z]=
 (bG (call 119 [D.bool ((q:Int)==0),D.int .i64 12]) fun r=>bF .i64 r fun x=>bG (call 92 [D.agg [D.slc K M J,D.slc U V O,D.slc Y q W,D.slc a0 a1 Z,D.slc a3 a4 a2,D.slc a6 a7 a5],D.str z]) fun a9=>cV a9 fun _f n _c=>bG (call 119 [D.bool (decide ((n:Int)>0)),D.int .i64 7]) fun aa=>bF .i64 aa fun ae=>bG (call 93 [D.agg [D.slc K M J,D.slc U V O,D.slc Y q W,D.slc a0 a1 Z,D.slc a3 a4 a2,D.slc a6 a7 a5],D.str z]) fun ab=>cV ab fun _f_1 a8 _c_1=>bG (call 119 [D.bool (decide ((a8:Int)>0)),D.int .i64 29]) fun ac=>bF .i64 ac fun af=>bG (call 87 [D.slc true 3 [D.int .i64 x,D.int .i64 ae,D.int .i64 af]]) fun ad=>bF .i64 ad fun ag=>some (D.int .i64 ag)):=by kernel_rfl
def Py:bP:=fun p=>match p with
 |58=>nm [1,2,5,6] [] [2,29]
 |_=>none
noncomputable def gk(call:CL)(L:Nat)(C:Nat→Nat)(n:Nat)(K:ByteArray)(O:Bool)(U:Nat)(M:List D)(W:Bool)(Y:Nat)(V:List D)(a1:Bool)(a2:Nat)(a0:List D)(a4:Bool)(a5:Nat)(a3:List D)(a7:Bool)(a8:Nat)(a6:List D)(aa:Bool)(ab:Nat)(a9:List D)(q:Ow)(z:Int):Option D:=
 ch (cD call L C) O0 Py FinM.canon Tryz.f27 (bt 5 11) [] n (St.mk (J::D.str K::D.loc 2 0 0::J::J::ol 29 q::D.int .i64 z::jn 24 []) (Z::Z::(1,some (Ob.box [D.slc O U M,D.slc W Y V,D.slc a1 a2 a0,D.slc a4 a5 a3,D.slc a7 a8 a6,D.slc aa ab a9] false))::zn 26 [om 3 1 q,Z]))
theorem j2(call:CL)(L:Nat)(C:Nat→Nat)(n:Nat)(J:ByteArray)(M:Bool)(O:Nat)(K:List D)(V:Bool)(W:Nat)(U:List D)(Z:Bool)(z:Nat)(Y:List D)(a1:Bool)(a2:Nat)(a0:List D)(a4:Bool)(a5:Nat)(a3:List D)(a7:Bool)(a8:Nat)(a6:List D)(q:Int):gk call L C (n+1) J M O K V W U Z z Y a1 a2 a0 a4 a5 a3 a7 a8 a6 (Ow.nil) q=
 (bC (decide (q≤(z:Int)))
 (bG (call 95 [D.agg [D.slc M O K,D.slc V W U,D.slc Z z Y,D.slc a1 a2 a0,D.slc a4 a5 a3,D.slc a7 a8 a6],D.str J,D.int .i64 q,D.bool false]) fun r=>bF .i64 r fun x=>bC (decide (x<0))
 (gk call L C n J M O K V W U Z z Y a1 a2 a0 a4 a5 a3 a7 a8 a6 (Ow.own 1 [D.int .i64 q]) (IntKind.wrap .i64 (q+1)))
 (bG (call 95 [D.agg [D.slc M O K,D.slc V W U,D.slc Z z Y,D.slc a1 a2 a0,D.slc a4 a5 a3,D.slc a7 a8 a6],D.str J,D.int .i64 q,D.bool true]) fun a9=>bF .i64 a9 fun aa=>bC (decide (aa<0))
 (gk call L C n J M O K V W U Z z Y a1 a2 a0 a4 a5 a3 a7 a8 a6 (Ow.own 1 [D.int .i64 q]) (IntKind.wrap .i64 (q+1)))
 (gk call L C n J M O K V W U Z z Y a1 a2 a0 a4 a5 a3 a7 a8 a6 (Ow.nil) (IntKind.wrap .i64 (q+1)))))
 (some (D.slc true 0 []))):=by kernel_rfl
theorem j3(call:CL)(L:Nat)(C:Nat→Nat)(n:Nat)(K:ByteArray)(O:Bool)(U:Nat)(M:List D)(W:Bool)(Y:Nat)(V:List D)(a0:Bool)(J:Nat)(Z:List D)(a2:Bool)(a3:Nat)(a1:List D)(a5:Bool)(a6:Nat)(a4:List D)(a8:Bool)(a9:Nat)(a7:List D)(z:Nat)(aa:List D)(q:Int):gk call L C (n+1) K O U M W Y V a0 J Z a2 a3 a1 a5 a6 a4 a8 a9 a7 (Ow.own z aa) q=
 (bC (decide (q≤(J:Int)))
 (bG (call 95 [D.agg [D.slc O U M,D.slc W Y V,D.slc a0 J Z,D.slc a2 a3 a1,D.slc a5 a6 a4,D.slc a8 a9 a7],D.str K,D.int .i64 q,D.bool false]) fun ab=>bF .i64 ab fun ad=>bC (decide (ad<0))
 (bL (decide ((z+1)*8≤cB∧z+1≤9223372036854775807))
 (gk call L C n K O U M W Y V a0 J Z a2 a3 a1 a5 a6 a4 a8 a9 a7 (Ow.own (z+1) (aa++[D.int .i64 q])) (IntKind.wrap .i64 (q+1))))
 (bG (call 95 [D.agg [D.slc O U M,D.slc W Y V,D.slc a0 J Z,D.slc a2 a3 a1,D.slc a5 a6 a4,D.slc a8 a9 a7],D.str K,D.int .i64 q,D.bool true]) fun ac=>bF .i64 ac fun ae=>bC (decide (ae<0))
 (bL (decide ((z+1)*8≤cB∧z+1≤9223372036854775807))
 (gk call L C n K O U M W Y V a0 J Z a2 a3 a1 a5 a6 a4 a8 a9 a7 (Ow.own (z+1) (aa++[D.int .i64 q])) (IntKind.wrap .i64 (q+1))))
 (gk call L C n K O U M W Y V a0 J Z a2 a3 a1 a5 a6 a4 a8 a9 a7 (Ow.own z aa) (IntKind.wrap .i64 (q+1)))))
 (some (D.slc false z aa))):=by kernel_rfl
theorem J2(call:CL)(L:Nat)(C:Nat→Nat)(J:Bool)(K:Nat)(z:List D)(O:Bool)(U:Nat)(M:List D)(W:Bool)(Y:Nat)(V:List D)(a0:Bool)(a1:Nat)(Z:List D)(a3:Bool)(a4:Nat)(a2:List D)(a6:Bool)(a7:Nat)(a5:List D)(q:ByteArray):bS (cD call L C) O0 Py FinM.canon Tryz.f27 [D.agg [D.slc J K z,D.slc O U M,D.slc W Y V,D.slc a0 a1 Z,D.slc a3 a4 a2,D.slc a6 a7 a5],D.str q]=
 (gk call L C L q J K z O U M W Y V a0 a1 Z a3 a4 a2 a6 a7 a5 (Ow.nil) 1):=by kernel_rfl
def Pz:bP:=fun p=>match p with
 |58=>nm [1,2,5,6] [] [2,48]
 |_=>none
noncomputable def fv(call:CL)(L:Nat)(C:Nat→Nat)(n:Nat)(K:ByteArray)(O:Bool)(U:Nat)(M:List D)(W:Bool)(Y:Nat)(V:List D)(a1:Bool)(a2:Nat)(a0:List D)(a4:Bool)(a5:Nat)(a3:List D)(a7:Bool)(a8:Nat)(a6:List D)(aa:Bool)(ab:Nat)(a9:List D)(q:Ow)(z:Int):Option D:=
 ch (cD call L C) O0 Pz FinM.canon Tryz.f28 (bt 5 11) [] n (St.mk (J::D.str K::D.loc 2 0 0::J::J::ol 48 q::D.int .i64 z::jn 43 []) (Z::Z::(1,some (Ob.box [D.slc O U M,D.slc W Y V,D.slc a1 a2 a0,D.slc a4 a5 a3,D.slc a7 a8 a6,D.slc aa ab a9] false))::zn 45 [om 3 1 q,Z]))
theorem j4(call:CL)(L:Nat)(C:Nat→Nat)(n:Nat)(M:ByteArray)(U:Bool)(V:Nat)(O:List D)(Y:Bool)(Z:Nat)(W:List D)(a1:Bool)(K:Nat)(a0:List D)(a2:Bool)(J:Nat)(q:List D)(a4:Bool)(a5:Nat)(a3:List D)(a7:Bool)(a8:Nat)(a6:List D)(z:Int):fv call L C (n+1) M U V O Y Z W a1 K a0 a2 J q a4 a5 a3 a7 a8 a6 (Ow.nil) z=
 (bC (decide (z≤(K:Int)))
 (bG (call 95 [D.agg [D.slc U V O,D.slc Y Z W,D.slc a1 K a0,D.slc a2 J q,D.slc a4 a5 a3,D.slc a7 a8 a6],D.str M,D.int .i64 z,D.bool false]) fun r=>bF .i64 r fun x=>bG (call 95 [D.agg [D.slc U V O,D.slc Y Z W,D.slc a1 K a0,D.slc a2 J q,D.slc a4 a5 a3,D.slc a7 a8 a6],D.str M,D.int .i64 z,D.bool true]) fun ad=>bF .i64 ad fun a9=>bC (decide (x≥0))
 (bC (decide (a9≥0))
 (bL (decide (0≤x∧x<(J:Int)))
 (bu q (Int.toNat x*5+3+0) fun d=>bF .i64 d fun af=>bu q (Int.toNat x*5+3+1) fun aa=>bY aa fun s=>bL (decide (0≤a9∧a9<(J:Int)))
 (bu q (Int.toNat a9*5+3+0) fun ab=>bF .i64 ab fun ag=>bu q (Int.toNat a9*5+3+1) fun ac=>bY ac fun ae=>bC (!(af==ag&&(ByteArray.toList s==ByteArray.toList ae&&true)))
 (fv call L C n M U V O Y Z W a1 K a0 a2 J q a4 a5 a3 a7 a8 a6 (Ow.own 1 [D.int .i64 z]) (IntKind.wrap .i64 (z+1)))
 (fv call L C n M U V O Y Z W a1 K a0 a2 J q a4 a5 a3 a7 a8 a6 (Ow.nil) (IntKind.wrap .i64 (z+1))))))
 (fv call L C n M U V O Y Z W a1 K a0 a2 J q a4 a5 a3 a7 a8 a6 (Ow.nil) (IntKind.wrap .i64 (z+1))))
 (fv call L C n M U V O Y Z W a1 K a0 a2 J q a4 a5 a3 a7 a8 a6 (Ow.nil) (IntKind.wrap .i64 (z+1))))
 (some (D.slc true 0 []))):=by kernel_rfl
theorem j5(call:CL)(L:Nat)(C:Nat→Nat)(n:Nat)(O:ByteArray)(V:Bool)(W:Nat)(U:List D)(Z:Bool)(a0:Nat)(Y:List D)(a2:Bool)(M:Nat)(a1:List D)(a3:Bool)(J:Nat)(q:List D)(a5:Bool)(a6:Nat)(a4:List D)(a8:Bool)(a9:Nat)(a7:List D)(K:Nat)(aa:List D)(z:Int):fv call L C (n+1) O V W U Z a0 Y a2 M a1 a3 J q a5 a6 a4 a8 a9 a7 (Ow.own K aa) z=
 (bC (decide (z≤(M:Int)))
 (bG (call 95 [D.agg [D.slc V W U,D.slc Z a0 Y,D.slc a2 M a1,D.slc a3 J q,D.slc a5 a6 a4,D.slc a8 a9 a7],D.str O,D.int .i64 z,D.bool false]) fun ah=>bF .i64 ah fun ab=>bG (call 95 [D.agg [D.slc V W U,D.slc Z a0 Y,D.slc a2 M a1,D.slc a3 J q,D.slc a5 a6 a4,D.slc a8 a9 a7],D.str O,D.int .i64 z,D.bool true]) fun ai=>bF .i64 ai fun ac=>bC (decide (ab≥0))
 (bC (decide (ac≥0))
 (bL (decide (0≤ab∧ab<(J:Int)))
 (bu q (Int.toNat ab*5+3+0) fun ad=>bF .i64 ad fun al=>bu q (Int.toNat ab*5+3+1) fun ae=>bY ae fun aj=>bL (decide (0≤ac∧ac<(J:Int)))
 (bu q (Int.toNat ac*5+3+0) fun af=>bF .i64 af fun am=>bu q (Int.toNat ac*5+3+1) fun ag=>bY ag fun ak=>bC (!(al==am&&(ByteArray.toList aj==ByteArray.toList ak&&true)))
 (bL (decide ((K+1)*8≤cB∧K+1≤9223372036854775807))
 (fv call L C n O V W U Z a0 Y a2 M a1 a3 J q a5 a6 a4 a8 a9 a7 (Ow.own (K+1) (aa++[D.int .i64 z])) (IntKind.wrap .i64 (z+1))))
 (fv call L C n O V W U Z a0 Y a2 M a1 a3 J q a5 a6 a4 a8 a9 a7 (Ow.own K aa) (IntKind.wrap .i64 (z+1))))))
 (fv call L C n O V W U Z a0 Y a2 M a1 a3 J q a5 a6 a4 a8 a9 a7 (Ow.own K aa) (IntKind.wrap .i64 (z+1))))
 (fv call L C n O V W U Z a0 Y a2 M a1 a3 J q a5 a6 a4 a8 a9 a7 (Ow.own K aa) (IntKind.wrap .i64 (z+1))))
 (some (D.slc false K aa))):=by kernel_rfl
theorem J3(call:CL)(L:Nat)(C:Nat→Nat)(J:Bool)(K:Nat)(z:List D)(O:Bool)(U:Nat)(M:List D)(W:Bool)(Y:Nat)(V:List D)(a0:Bool)(a1:Nat)(Z:List D)(a3:Bool)(a4:Nat)(a2:List D)(a6:Bool)(a7:Nat)(a5:List D)(q:ByteArray):bS (cD call L C) O0 Pz FinM.canon Tryz.f28 [D.agg [D.slc J K z,D.slc O U M,D.slc W Y V,D.slc a0 a1 Z,D.slc a3 a4 a2,D.slc a6 a7 a5],D.str q]=
 (fv call L C L q J K z O U M W Y V a0 a1 Z a3 a4 a2 a6 a7 a5 (Ow.nil) 1):=by kernel_rfl
theorem J4(call:CL)(L:Nat)(C:Nat→Nat)(K:Bool)(M:Nat)(J:List D)(U:Bool)(V:Nat)(O:List D)(Y:Bool)(q:Nat)(W:List D)(a0:Bool)(a1:Nat)(Z:List D)(a3:Bool)(a4:Nat)(a2:List D)(a6:Bool)(a7:Nat)(a5:List D)(z:ByteArray):bS (cD call L C) O0 N0 FinM.canon Tryz.f29 [D.agg [D.slc K M J,D.slc U V O,D.slc Y q W,D.slc a0 a1 Z,D.slc a3 a4 a2,D.slc a6 a7 a5],D.str z]=
 (bC ((q:Int)==0)
 (some (D.int .i64 12))
 (bG (call 27 [D.agg [D.slc K M J,D.slc U V O,D.slc Y q W,D.slc a0 a1 Z,D.slc a3 a4 a2,D.slc a6 a7 a5],D.str z]) fun r=>cV r fun _f n _c=>bC (decide ((n:Int)>0))
 (some (D.int .i64 7))
 (bG (call 28 [D.agg [D.slc K M J,D.slc U V O,D.slc Y q W,D.slc a0 a1 Z,D.slc a3 a4 a2,D.slc a6 a7 a5],D.str z]) fun a9=>cV a9 fun _f_1 a8 _c_1=>bC (decide ((a8:Int)>0))
 (some (D.int .i64 29))
 (some (D.int .i64 0))))):=by kernel_rfl
def PA:bP:=fun p=>match p with
 |7=>nm [1,3] [] [1]
 |_=>none
noncomputable def pn(call:CL)(L:Nat)(C:Nat→Nat)(K:Bool)(M:Nat)(z:List D)(U:Bool)(V:Nat)(O:List D)(Y:Bool)(a0:Nat)(W:List D)(a2:Bool)(a3:Nat)(a1:List D)(a5:Bool)(a6:Nat)(a4:List D)(a8:Bool)(a9:Nat)(a7:List D)(q:Bool):Option D:=
 eM (cD call L C) O0 PA FinM.canon Tryz.f17 [true,true] [] (C 7) (St.mk (J::D.loc 1 0 0::J::D.bool q::jn 41 []) (Z::(1,some (Ob.box [D.slc K M z,D.slc U V O,D.slc Y a0 W,D.slc a2 a3 a1,D.slc a5 a6 a4,D.slc a8 a9 a7] false))::zn 43 []))
theorem DW(call:CL)(L:Nat)(C:Nat→Nat)(z:Bool)(J:Nat)(q:List D)(M:Bool)(O:Nat)(K:List D)(V:Bool)(W:Nat)(U:List D)(Z:Bool)(a0:Nat)(Y:List D)(a2:Bool)(a3:Nat)(a1:List D)(a5:Bool)(a6:Nat)(a4:List D)(a7:Bool)(hC:∀t,C t=1):pn call L C z J q M O K V W U Z a0 Y a2 a3 a1 a5 a6 a4 a7=
 (bC a7
 (some (D.int .i64 5))
 (bG (call 86 [D.agg [D.slc z J q,D.slc M O K,D.slc V W U,D.slc Z a0 Y,D.slc a2 a3 a1,D.slc a5 a6 a4]]) fun r=>bF .i64 r fun x=>bC (x !=0)
 (some (D.int .i64 x))
 (bG (call 88 [D.agg [D.slc z J q,D.slc M O K,D.slc V W U,D.slc Z a0 Y,D.slc a2 a3 a1,D.slc a5 a6 a4]]) fun a8=>bF .i64 a8 fun ab=>bG (call 89 [D.agg [D.slc z J q,D.slc M O K,D.slc V W U,D.slc Z a0 Y,D.slc a2 a3 a1,D.slc a5 a6 a4]]) fun a9=>bF .i64 a9 fun ac=>bG (call 87 [D.slc true 2 [D.int .i64 ab,D.int .i64 ac]]) fun aa=>bF .i64 aa fun ad=>some (D.int .i64 ad)))):=by
 unfold pn;rw[hC]
 kernel_rfl
theorem J5(call:CL)(L:Nat)(C:Nat→Nat)(U:Bool)(q:Nat)(O:List D)(W:Bool)(z:Nat)(V:List D)(Z:Bool)(a0:Nat)(Y:List D)(a2:Bool)(J:Nat)(a1:List D)(a4:Bool)(K:Nat)(a3:List D)(a6:Bool)(M:Nat)(a5:List D):bS (cD call L C) O0 PA FinM.canon Tryz.f17 [D.agg [D.slc U q O,D.slc W z V,D.slc Z a0 Y,D.slc a2 J a1,D.slc a4 K a3,D.slc a6 M a5]]=
 (bC (decide ((q:Int)>256))
 (pn call L C U q O W z V Z a0 Y a2 J a1 a4 K a3 a6 M a5 true)
 (bC (decide ((z:Int)>200))
 (pn call L C U q O W z V Z a0 Y a2 J a1 a4 K a3 a6 M a5 true)
 (bC (decide ((J:Int)>1000))
 (pn call L C U q O W z V Z a0 Y a2 J a1 a4 K a3 a6 M a5 true)
 (bC (decide ((K:Int)>200))
 (pn call L C U q O W z V Z a0 Y a2 J a1 a4 K a3 a6 M a5 true)
 (pn call L C U q O W z V Z a0 Y a2 J a1 a4 K a3 a6 M a5 (decide ((M:Int)>256))))))):=by kernel_rfl
def OB:bP:=fun p=>match p with
 |58=>nm [1,3,13,14,15] [9,35] [1,9,11,35]
 |250=>nm [1,3,7,37,38,39] [9] [1,9,11,35]
 |_=>none
noncomputable def j6(call:CL)(L:Nat)(C:Nat→Nat)(M:Nat)(z:Bool)(K:Nat)(q:List D)(a2:Bool)(a3:Nat)(a1:List D)(a5:Bool)(a6:Nat)(a4:List D)(a8:Bool)(a9:Nat)(a7:List D)(ab:Bool)(ac:Nat)(aa:List D)(ae:Bool)(af:Nat)(ad O U:List D)(Y a0:Int)(V W:List D):Option D:=
 ch (cD call L C) O0 OB FinM.canon Tryz.f86 (bt 7 47) [] M (St.mk (J::D.loc 1 0 0::J::D.mloc 11 0::J::J::J::D.mloc 35 0::jn 29 (D.slc z K q::D.int .i64 Y::D.int .i64 a0::jn 39 [])) (Z::(1,some (Ob.box [D.slc a2 a3 a1,D.slc z K q,D.slc a5 a6 a4,D.slc a8 a9 a7,D.slc ab ac aa,D.slc ae af ad] false))::zn 9 ((1,some (Ob.map O U false))::zn 23 ((1,some (Ob.map V W false))::zn 43 []))))
noncomputable def rE(call:CL)(L:Nat)(C:Nat→Nat)(n:Nat)(z:Bool)(K:Nat)(q:List D)(W:Bool)(Y:Nat)(V:List D)(a1:Bool)(a2:Nat)(a0:List D)(a4:Bool)(a5:Nat)(a3:List D)(a7:Bool)(a8:Nat)(a6:List D)(aa:Bool)(ab:Nat)(a9:List D)(t14 U:Int)(M O:List D):Option D:=
 ch (cD call L C) O0 OB FinM.canon Tryz.f86 (bt 5 11) [] n (St.mk (J::D.loc 1 0 0::J::D.mloc 11 0::jn 9 (D.slc z K q::D.int .i64 t14::D.int .i64 U::jn 63 [])) (Z::(1,some (Ob.box [D.slc z K q,D.slc W Y V,D.slc a1 a2 a0,D.slc a4 a5 a3,D.slc a7 a8 a6,D.slc aa ab a9] false))::zn 9 ((1,some (Ob.map M O false))::zn 67 [])))
theorem rF(call:CL)(L:Nat)(C:Nat→Nat)(a1:Nat)(a5:Bool)(Y:Nat)(z:List D)(a3:Bool)(a4:Nat)(a2:List D)(a0:Bool)(M:Nat)(Z:List D)(a7:Bool)(a8:Nat)(a6:List D)(aa:Bool)(ab:Nat)(a9:List D)(ad:Bool)(ae:Nat)(ac J K:List D)(W q:Int)(U V:List D):j6 call L C (a1+1) a5 Y z a3 a4 a2 a0 M Z a7 a8 a6 aa ab a9 ad ae ac J K W q U V=
 (bC (decide (q<W))
 (bL (decide (0≤q∧q<(Y:Int)))
 (bu z (Int.toNat q*3+0) fun ay=>bY ay fun O=>bu z (Int.toNat q*3+1) fun az=>bY az fun ah=>bu z (Int.toNat q*3+2) fun aA=>bF .i64 aA fun af=>bG (call 111 [D.str O]) fun b8=>bW b8 fun ao=>bG (call 119 [D.bool !ao,D.int .i64 8]) fun b9=>bF .i64 b9 fun ag=>
 (fa (cx (D.str O) U 0)
 (bG (call 119 [D.bool false,D.int .i64 9]) fun ba=>bF .i64 ba fun an=>
 (fa (cx (D.str ah) J 0)
 (bG (call 119 [D.bool true,D.int .i64 10]) fun bb=>bF .i64 bb fun bo=>bG (call 118 [D.int .i64 af,D.int .i64 (-99),D.int .i64 99]) fun aL=>bW aL fun ap=>bG (call 119 [D.bool ap,D.int .i64 3]) fun aM=>bF .i64 aM fun bp=>bG (call 87 [D.slc true 4 [D.int .i64 ag,D.int .i64 an,D.int .i64 bo,D.int .i64 bp]]) fun aN=>bF .i64 aN fun ai=>bC (ai !=0)
 (some (D.int .i64 ai))
 (kj (iA (D.str O) (D.bool true) U V) fun aH bc=>j6 call L C a1 a5 Y z a3 a4 a2 a0 M Z a7 a8 a6 aa ab a9 ad ae ac J K W (IntKind.wrap .i64 (q+1)) aH bc)) fun aE=>bu K aE fun aB=>bW aB fun aq=>bG (call 119 [D.bool !aq,D.int .i64 10]) fun aO=>bF .i64 aO fun bh=>bG (call 118 [D.int .i64 af,D.int .i64 (-99),D.int .i64 99]) fun aP=>bW aP fun ar=>bG (call 119 [D.bool ar,D.int .i64 3]) fun aQ=>bF .i64 aQ fun bi=>bG (call 87 [D.slc true 4 [D.int .i64 ag,D.int .i64 an,D.int .i64 bh,D.int .i64 bi]]) fun aR=>bF .i64 aR fun aj=>bC (aj !=0)
 (some (D.int .i64 aj))
 (kj (iA (D.str O) (D.bool true) U V) fun aI bd=>j6 call L C a1 a5 Y z a3 a4 a2 a0 M Z a7 a8 a6 aa ab a9 ad ae ac J K W (IntKind.wrap .i64 (q+1)) aI bd))) fun aF=>bu V aF fun aC=>bW aC fun au=>bG (call 119 [D.bool au,D.int .i64 9]) fun aS=>bF .i64 aS fun ak=>
 (fa (cx (D.str ah) J 0)
 (bG (call 119 [D.bool true,D.int .i64 10]) fun aT=>bF .i64 aT fun bj=>bG (call 118 [D.int .i64 af,D.int .i64 (-99),D.int .i64 99]) fun aU=>bW aU fun av=>bG (call 119 [D.bool av,D.int .i64 3]) fun aV=>bF .i64 aV fun bk=>bG (call 87 [D.slc true 4 [D.int .i64 ag,D.int .i64 ak,D.int .i64 bj,D.int .i64 bk]]) fun aW=>bF .i64 aW fun al=>bC (al !=0)
 (some (D.int .i64 al))
 (kj (iA (D.str O) (D.bool true) U V) fun aJ be=>j6 call L C a1 a5 Y z a3 a4 a2 a0 M Z a7 a8 a6 aa ab a9 ad ae ac J K W (IntKind.wrap .i64 (q+1)) aJ be)) fun aG=>bu K aG fun aD=>bW aD fun aw=>bG (call 119 [D.bool !aw,D.int .i64 10]) fun aX=>bF .i64 aX fun bl=>bG (call 118 [D.int .i64 af,D.int .i64 (-99),D.int .i64 99]) fun aY=>bW aY fun ax=>bG (call 119 [D.bool ax,D.int .i64 3]) fun aZ=>bF .i64 aZ fun bm=>bG (call 87 [D.slc true 4 [D.int .i64 ag,D.int .i64 ak,D.int .i64 bl,D.int .i64 bm]]) fun b6=>bF .i64 b6 fun am=>bC (am !=0)
 (some (D.int .i64 am))
 (kj (iA (D.str O) (D.bool true) U V) fun aK bg=>j6 call L C a1 a5 Y z a3 a4 a2 a0 M Z a7 a8 a6 aa ab a9 ad ae ac J K W (IntKind.wrap .i64 (q+1)) aK bg)))))
 (bC ((M:Int)==0)
 (some (D.int .i64 0))
 (bG (call 109 [D.slc a0 M Z]) fun b7=>bF .i64 b7 fun bn=>some (D.int .i64 bn)))):=by kernel_rfl
theorem t7(call:CL)(L:Nat)(C:Nat→Nat)(n:Nat)(U:Bool)(M:Nat)(K:List D)(W:Bool)(O:Nat)(V:List D)(Z:Bool)(a0:Nat)(Y:List D)(a2:Bool)(a3:Nat)(a1:List D)(a5:Bool)(a6:Nat)(a4:List D)(a8:Bool)(a9:Nat)(a7:List D)(t14 q:Int)(z J:List D):rE call L C (n+1) U M K W O V Z a0 Y a2 a3 a1 a5 a6 a4 a8 a9 a7 t14 q z J=
 (bC (decide (q<t14))
 (bL (decide (0≤q∧q<(M:Int)))
 (bu K (Int.toNat q*1) fun d=>bY d fun s=>bG (call 111 [D.str s]) fun r=>bW r fun b=>bG (call 119 [D.bool !b,D.int .i64 8]) fun af=>bF .i64 af fun x=>
 (fa (cx (D.str s) z 0)
 (bG (call 119 [D.bool false,D.int .i64 9]) fun ag=>bF .i64 ag fun al=>bG (call 87 [D.slc true 2 [D.int .i64 x,D.int .i64 al]]) fun ah=>bF .i64 ah fun aa=>bC (aa !=0)
 (some (D.int .i64 aa))
 (kj (iA (D.str s) (D.bool true) z J) fun ks vs=>rE call L C n U M K W O V Z a0 Y a2 a3 a1 a5 a6 a4 a8 a9 a7 t14 (IntKind.wrap .i64 (q+1)) ks vs)) fun i=>bu J i fun ad=>bW ad fun ac=>bG (call 119 [D.bool ac,D.int .i64 9]) fun ai=>bF .i64 ai fun am=>bG (call 87 [D.slc true 2 [D.int .i64 x,D.int .i64 am]]) fun aj=>bF .i64 aj fun ab=>bC (ab !=0)
 (some (D.int .i64 ab))
 (kj (iA (D.str s) (D.bool true) z J) fun ae ak=>rE call L C n U M K W O V Z a0 Y a2 a3 a1 a5 a6 a4 a8 a9 a7 t14 (IntKind.wrap .i64 (q+1)) ae ak))))
 (j6 call L C L W O V U M K Z a0 Y a2 a3 a1 a5 a6 a4 a8 a9 a7 z J ((O:Int)) 0 ([]) ([]))):=by kernel_rfl
theorem J6(call:CL)(L:Nat)(C:Nat→Nat)(J:Bool)(q:Nat)(z:List D)(M:Bool)(O:Nat)(K:List D)(V:Bool)(W:Nat)(U:List D)(Z:Bool)(a0:Nat)(Y:List D)(a2:Bool)(a3:Nat)(a1:List D)(a5:Bool)(a6:Nat)(a4:List D):bS (cD call L C) O0 OB FinM.canon Tryz.f86 [D.agg [D.slc J q z,D.slc M O K,D.slc V W U,D.slc Z a0 Y,D.slc a2 a3 a1,D.slc a5 a6 a4]]=
 (rE call L C L J q z M O K V W U Z a0 Y a2 a3 a1 a5 a6 a4 ((q:Int)) 0 ([]) ([])):=by kernel_rfl
def MV:bP:=fun p=>match p with
 |58=>nm [1,3,14,15,16] [5,6] [1,5,6,12]
 |122=>nm [1,65,66,67] [5,6,12] [1,5,6,12]
 |14951=>nm [1,3,5,6,7,14,15,16] [] [1,5,6,12]
 |_=>none
def MW:iG:=fun id=>match id with
 |5=>some {l:=some [0,1,2,3,4,5,6,7,8],ks:=[6]}
 |_=>none
noncomputable def g8(call:CL)(L:Nat)(C:Nat→Nat)(n:Nat)(z:Bool)(K:Nat)(q:List D)(U V:Int)(a8:Bool)(a9:Nat)(a7:List D)(ab:Bool)(ac:Nat)(aa:List D)(ae:Bool)(af:Nat)(ad:List D)(ah:Bool)(ai:Nat)(ag:List D)(ak:Bool)(al:Nat)(aj M O:List D)(a6:Bool)(vm a2:ByteArray)(a3 a4:Int)(a5 W:ByteArray)(Y:Int)(a0:Bool):Option D:=
 eM (cD call L C) MW MV FinM.canon Tryz.f88 (bt 13 7371) [n] (C 14951) (St.mk (J::D.loc 1 0 0::J::D.mloc 12 0::J::D.loc 5 0 0::D.loc 6 0 0::D.bool a6::jn 6 (D.slc z K q::D.int .i64 U::D.int .i64 V::jn 76 [])) (Z::(1,some (Ob.box [D.slc a8 a9 a7,D.slc ab ac aa,D.slc ae af ad,D.slc z K q,D.slc ah ai ag,D.slc ak al aj] false))::Z::Z::Z::(1,some (Ob.box [D.str vm,D.str a2,D.int .i64 a3,D.int .i64 a4,D.str a5] false))::(1,some (Ob.box [D.str W,D.int .i64 Y,D.bool a0] false))::zn 5 ((1,some (Ob.map M O false))::zn 80 [])))
noncomputable def np(call:CL)(L:Nat)(C:Nat→Nat)(M:Nat)(z:Bool)(K:Nat)(q:List D)(W:Bool)(Y:Nat)(V:List D)(a1:Bool)(a2:Nat)(a0:List D)(a4:Bool)(a5:Nat)(a3:List D)(a7:Bool)(a8:Nat)(a6:List D)(aa:Bool)(ab:Nat)(a9:List D)(O U:Int):Option D:=
 ch (cD call L C) MW MV FinM.canon Tryz.f88 (bt 6 23) [] M (St.mk (J::D.loc 1 0 0::jn 63 (D.slc z K q::D.int .i64 O::D.int .i64 U::jn 25 [])) (Z::(1,some (Ob.box [D.slc W Y V,D.slc a1 a2 a0,D.slc a4 a5 a3,D.slc a7 a8 a6,D.slc z K q,D.slc aa ab a9] false))::zn 91 []))
noncomputable def rG(call:CL)(L:Nat)(C:Nat→Nat)(n:Nat)(z:Bool)(K:Nat)(q:List D)(Y:Bool)(a0:Nat)(W:List D)(a2:Bool)(a3:Nat)(a1:List D)(a5:Bool)(a6:Nat)(a4:List D)(a8:Bool)(a9:Nat)(a7:List D)(ab:Bool)(ac:Nat)(aa:List D)(U V:Int)(M O:List D):Option D:=
 ch (cD call L C) MW MV FinM.canon Tryz.f88 (bt 5 11) [] n (St.mk (J::D.loc 1 0 0::J::D.mloc 12 0::jn 10 (D.slc z K q::D.int .i64 U::D.int .i64 V::jn 76 [])) (Z::(1,some (Ob.box [D.slc Y a0 W,D.slc a2 a3 a1,D.slc a5 a6 a4,D.slc z K q,D.slc a8 a9 a7,D.slc ab ac aa] false))::zn 10 ((1,some (Ob.map M O false))::zn 80 [])))
theorem vC(call:CL)(L:Nat)(C:Nat→Nat)(n:Nat)(a6:Bool)(a7:Nat)(a5:List D)(O U:Int)(W:Bool)(Y:Nat)(V:List D)(a0:Bool)(a1:Nat)(Z:List D)(a3:Bool)(a4:Nat)(a2:List D)(a9:Bool)(aa:Nat)(a8:List D)(ac:Bool)(ad:Nat)(ab q z:List D)(ag:Bool)(vm ax:ByteArray)(ay ae:Int)(af J:ByteArray)(K:Int)(M:Bool)(hC:∀t,C t=1):g8 call L C n a6 a7 a5 O U W Y V a0 a1 Z a3 a4 a2 a9 aa a8 ac ad ab q z ag vm ax ay ae af J K M=
 (bG (call 119 [D.bool ag,D.int .i64 10]) fun ao=>bF .i64 ao fun ah=>bG (call 147 [D.agg [D.int .i64 ae,D.str af]]) fun ap=>bF .i64 ap fun ai=>
 (fa (cx (D.agg [D.str J,D.int .i64 K,D.bool M]) q 0)
 (bG (call 119 [D.bool false,D.int .i64 9]) fun aq=>bF .i64 aq fun aA=>bG (call 87 [D.slc true 3 [D.int .i64 ah,D.int .i64 ai,D.int .i64 aA]]) fun ar=>bF .i64 ar fun aj=>bC (aj !=0)
 (some (D.int .i64 aj))
 (kj (iA (D.agg [D.str J,D.int .i64 K,D.bool M]) (D.bool true) q z) fun ks vs=>rG call L C n a6 a7 a5 W Y V a0 a1 Z a3 a4 a2 a9 aa a8 ac ad ab O (IntKind.wrap .i64 (U+1)) ks vs)) fun i=>bu z i fun am=>bW am fun al=>bG (call 119 [D.bool al,D.int .i64 9]) fun au=>bF .i64 au fun aB=>bG (call 87 [D.slc true 3 [D.int .i64 ah,D.int .i64 ai,D.int .i64 aB]]) fun av=>bF .i64 av fun ak=>bC (ak !=0)
 (some (D.int .i64 ak))
 (kj (iA (D.agg [D.str J,D.int .i64 K,D.bool M]) (D.bool true) q z) fun an az=>rG call L C n a6 a7 a5 W Y V a0 a1 Z a3 a4 a2 a9 aa a8 ac ad ab O (IntKind.wrap .i64 (U+1)) an az))):=by
 unfold g8;rw[hC]
 kernel_rfl
theorem rH(call:CL)(L:Nat)(C:Nat→Nat)(aa:Nat)(K:Bool)(z:Nat)(J:List D)(O:Bool)(U:Nat)(M:List D)(W:Bool)(Y:Nat)(V:List D)(a0:Bool)(a1:Nat)(Z:List D)(a3:Bool)(a4:Nat)(a2:List D)(a6:Bool)(a7:Nat)(a5:List D)(a9 q:Int):np call L C (aa+1) K z J O U M W Y V a0 a1 Z a3 a4 a2 a6 a7 a5 a9 q=
 (bC (decide (q<a9))
 (bL (decide (0≤q∧q<(z:Int)))
 (bu J (Int.toNat q*1) fun ad=>bY ad fun a8=>bG (call 154 [D.agg [D.slc O U M,D.slc W Y V,D.slc a0 a1 Z,D.slc a3 a4 a2,D.slc K z J,D.slc a6 a7 a5],D.str a8]) fun ae=>bF .i64 ae fun ak=>bG (call 119 [D.bool (decide (ak<0)),D.int .i64 10]) fun af=>bF .i64 af fun al=>bL (decide (0≤(0:Int)∧(0:Int)≤q∧q≤(z:Int)))
 (bG (call 155 [D.slc (K&&decide (q=(z:Int))) (Int.toNat (q-(0:Int))) (List.take (Int.toNat (q-(0:Int))*1) J),D.str a8]) fun ag=>bW ag fun ac=>bG (call 119 [D.bool ac,D.int .i64 9]) fun ah=>bF .i64 ah fun am=>bG (call 94 [D.agg [D.slc O U M,D.slc W Y V,D.slc a0 a1 Z,D.slc a3 a4 a2,D.slc K z J,D.slc a6 a7 a5],D.str a8]) fun ai=>bF .i64 ai fun an=>bG (call 87 [D.slc true 3 [D.int .i64 al,D.int .i64 am,D.int .i64 an]]) fun aj=>bF .i64 aj fun ab=>bC (ab !=0)
 (some (D.int .i64 ab))
 (np call L C aa K z J O U M W Y V a0 a1 Z a3 a4 a2 a6 a7 a5 a9 (IntKind.wrap .i64 (q+1))))))
 (some (D.int .i64 0))):=by kernel_rfl
theorem t8(call:CL)(L:Nat)(C:Nat→Nat)(n:Nat)(a2:Bool)(K:Nat)(z:List D)(U:Bool)(V:Nat)(O:List D)(Y:Bool)(Z:Nat)(W:List D)(a1:Bool)(J:Nat)(a0:List D)(a4:Bool)(M:Nat)(a3:List D)(a6:Bool)(a7:Nat)(a5:List D)(a9 q:Int)(ab ac:List D):rG call L C (n+1) a2 K z U V O Y Z W a1 J a0 a4 M a3 a6 a7 a5 a9 q ab ac=
 (bC (decide (q<a9))
 (bL (decide (0≤q∧q<(K:Int)))
 (bu z (Int.toNat q*5+0) fun d=>bY d fun s=>bu z (Int.toNat q*5+1) fun af=>bY af fun a8=>bu z (Int.toNat q*5+2) fun ag=>bF .i64 ag fun x=>bu z (Int.toNat q*5+3) fun ah=>bF .i64 ah fun ad=>bu z (Int.toNat q*5+4) fun ai=>bY ai fun aa=>bG (call 153 [D.agg [D.str s,D.str a8,D.int .i64 x,D.int .i64 ad,D.str aa]]) fun r=>bW r fun b=>bG (call 154 [D.agg [D.slc U V O,D.slc Y Z W,D.slc a1 J a0,D.slc a2 K z,D.slc a4 M a3,D.slc a6 a7 a5],D.str s]) fun aj=>bF .i64 aj fun am=>bC (decide (am<0))
 (g8 call L C n a2 K z a9 q U V O Y Z W a1 J a0 a4 M a3 a6 a7 a5 ab ac true s a8 x ad aa s x b)
 (bG (call 154 [D.agg [D.slc U V O,D.slc Y Z W,D.slc a1 J a0,D.slc a2 K z,D.slc a4 M a3,D.slc a6 a7 a5],D.str a8]) fun ak=>bF .i64 ak fun an=>bC (decide (an<0))
 (g8 call L C n a2 K z a9 q U V O Y Z W a1 J a0 a4 M a3 a6 a7 a5 ab ac true s a8 x ad aa s x b)
 (bG (call 118 [D.int .i64 x,D.int .i64 1,D.int .i64 (J:Int)]) fun al=>bW al fun ae=>g8 call L C n a2 K z a9 q U V O Y Z W a1 J a0 a4 M a3 a6 a7 a5 ab ac ae s a8 x ad aa s x b))))
 (np call L C L a4 M a3 U V O Y Z W a1 J a0 a2 K z a6 a7 a5 ((M:Int)) 0)):=by kernel_rfl
theorem J7(call:CL)(L:Nat)(C:Nat→Nat)(J:Bool)(K:Nat)(z:List D)(O:Bool)(U:Nat)(M:List D)(W:Bool)(Y:Nat)(V:List D)(a0:Bool)(q:Nat)(Z:List D)(a2:Bool)(a3:Nat)(a1:List D)(a5:Bool)(a6:Nat)(a4:List D):bS (cD call L C) MW MV FinM.canon Tryz.f88 [D.agg [D.slc J K z,D.slc O U M,D.slc W Y V,D.slc a0 q Z,D.slc a2 a3 a1,D.slc a5 a6 a4]]=
 (rG call L C L a0 q Z J K z O U M W Y V a2 a3 a1 a5 a6 a4 ((q:Int)) 0 ([]) ([])):=by kernel_rfl
def MX:bP:=fun p=>match p with
 |58=>nm [3,12,13,14] [1,5,8] [1,5,8,10]
 |7475=>nm [3,5,12,13,14] [1,8] [1,5,8,10]
 |59806=>nm [3,5,12,13,14,45,46,47] [1,8] [1,5,8,10]
 |_=>none
noncomputable def ld(call:CL)(L:Nat)(C:Nat→Nat)(n M:Nat)(a4:Bool)(a5:Nat)(a3:List D)(t13 t14:Int)(z:Bool)(K:Nat)(q:List D)(Y:ByteArray)(a1:Bool)(a2:Nat)(a0:List D)(V W:Int)(O U:List D):Option D:=
 ch (cD call L C) O0 MX FinM.canon Tryz.f89 (bt 15 15563) [n] M (St.mk (J::J::J::D.mloc 10 0::J::D.loc 5 0 0::jn 6 (D.slc a4 a5 a3::D.int .i64 t13::D.int .i64 t14::jn 30 (D.slc z K q::D.int .i64 V::D.int .i64 W::jn 12 []))) (zn 5 ((1,some (Ob.box [D.str Y,D.slc a1 a2 a0,D.slc z K q] false))::Z::Z::Z::Z::(1,some (Ob.map O U false))::zn 49 [])))
noncomputable def nq(call:CL)(L:Nat)(C:Nat→Nat)(n:Nat)(a1:Bool)(a2:Nat)(a0:List D)(t13 t14:Int)(q z:List D)(K:ByteArray)(O:Bool)(U:Nat)(M:List D)(W:Bool)(Y:Nat)(V:List D):Option D:=
 eM (cD call L C) O0 MX FinM.canon Tryz.f89 (bt 12 3275) [n] (C 7475) (St.mk (J::J::J::D.mloc 10 0::J::D.loc 5 0 0::jn 6 (D.slc a1 a2 a0::D.int .i64 t13::D.int .i64 t14::jn 45 [])) (zn 5 ((1,some (Ob.box [D.str K,D.slc O U M,D.slc W Y V] false))::Z::Z::Z::Z::(1,some (Ob.map q z false))::zn 49 [])))
noncomputable def rI(call:CL)(L:Nat)(C:Nat→Nat)(n:Nat)(M:Bool)(O:Nat)(K:List D)(t13 t14:Int)(q z:List D):Option D:=
 ch (cD call L C) O0 MX FinM.canon Tryz.f89 (bt 5 11) [] n (St.mk (J::J::J::D.mloc 10 0::jn 8 (D.slc M O K::D.int .i64 t13::D.int .i64 t14::jn 45 [])) (zn 10 ((1,some (Ob.map q z false))::zn 49 [])))
theorem nt(call:CL)(L:Nat)(C:Nat→Nat)(n a1:Nat)(Z:Bool)(a0:Nat)(Y:List D)(t13 t14:Int)(a3:Bool)(W:Nat)(z:List D)(vk:ByteArray)(U:Bool)(V:Nat)(O:List D)(M q:Int)(J K:List D):ld call L C n (a1+1) Z a0 Y t13 t14 a3 W z vk U V O M q J K=
 (bC (decide (q<M))
 (bL (decide (0≤q∧q<(W:Int)))
 (bu z (Int.toNat q*2+0) fun a6=>bY a6 fun ab=>bu z (Int.toNat q*2+1) fun a7=>cV a7 fun a8 a9 a5=>bG (call 41 [D.slc U V O,D.agg [D.str ab,D.slc a8 a9 a5]]) fun aa=>bF .i64 aa fun a4=>bC (a4 !=0)
 (some (D.int .i64 a4))
 (ld call L C n a1 Z a0 Y t13 t14 a3 W z vk U V O M (IntKind.wrap .i64 (q+1)) J K)))
 (rI call L C n Z a0 Y t13 (IntKind.wrap .i64 (t14+1)) J K)):=by kernel_rfl
theorem xB(call:CL)(L:Nat)(C:Nat→Nat)(n:Nat)(Z:Bool)(a0:Nat)(Y:List D)(t13 t14:Int)(J K:List D)(q:ByteArray)(O:Bool)(U:Nat)(M:List D)(W:Bool)(z:Nat)(V:List D)(hC:∀t,C t=1):nq call L C n Z a0 Y t13 t14 J K q O U M W z V=
 (kj (iA (D.str q) (D.bool true) J K) fun ks vs=>ld call L C n L Z a0 Y t13 t14 W z V q O U M ((z:Int)) 0 ks vs):=by
 unfold nq;rw[hC]
 kernel_rfl
theorem ua(call:CL)(L:Nat)(C:Nat→Nat)(n:Nat)(U:Bool)(O:Nat)(q:List D)(t13 t14:Int)(K M:List D):rI call L C (n+1) U O q t13 t14 K M=
 (bC (decide (t14<t13))
 (bL (decide (0≤t14∧t14<(O:Int)))
 (bu q (Int.toNat t14*3+0) fun d=>bY d fun s=>bu q (Int.toNat t14*3+1) fun a1=>cV a1 fun f z c=>bu q (Int.toNat t14*3+2) fun a2=>cV a2 fun W J V=>bG (call 111 [D.str s]) fun r=>bW r fun b=>bG (call 119 [D.bool !b,D.int .i64 8]) fun a4=>bF .i64 a4 fun x=>
 (fa (cx (D.str s) K 0)
 (bG (call 119 [D.bool false,D.int .i64 9]) fun a6=>bF .i64 a6 fun ad=>bG (call 109 [D.slc f z c]) fun a7=>bF .i64 a7 fun ae=>bG (call 119 [D.bool (decide ((J:Int)>200)),D.int .i64 5]) fun a8=>bF .i64 a8 fun af=>bG (call 87 [D.slc true 4 [D.int .i64 x,D.int .i64 ad,D.int .i64 ae,D.int .i64 af]]) fun a9=>bF .i64 a9 fun Y=>bC (Y !=0)
 (some (D.int .i64 Y))
 (nq call L C n U O q t13 t14 K M s f z c W J V)) fun i=>bu M i fun a3=>bW a3 fun a0=>bG (call 119 [D.bool a0,D.int .i64 9]) fun aa=>bF .i64 aa fun ag=>bG (call 109 [D.slc f z c]) fun ab=>bF .i64 ab fun ah=>bG (call 119 [D.bool (decide ((J:Int)>200)),D.int .i64 5]) fun ac=>bF .i64 ac fun ai=>bG (call 87 [D.slc true 4 [D.int .i64 x,D.int .i64 ag,D.int .i64 ah,D.int .i64 ai]]) fun a5=>bF .i64 a5 fun Z=>bC (Z !=0)
 (some (D.int .i64 Z))
 (nq call L C n U O q t13 t14 K M s f z c W J V))))
 (some (D.int .i64 0))):=by kernel_rfl
theorem J8(call:CL)(L:Nat)(C:Nat→Nat)(M:Bool)(O:Nat)(K:List D)(V:Bool)(W:Nat)(U:List D)(Z:Bool)(a0:Nat)(Y:List D)(a2:Bool)(a3:Nat)(a1:List D)(a5:Bool)(a6:Nat)(a4:List D)(J:Bool)(q:Nat)(z:List D):bS (cD call L C) O0 MX FinM.canon Tryz.f89 [D.agg [D.slc M O K,D.slc V W U,D.slc Z a0 Y,D.slc a2 a3 a1,D.slc a5 a6 a4,D.slc J q z]]=
 (rI call L C L J q z ((q:Int)) 0 ([]) ([])):=by kernel_rfl
def EN:bP:=fun p=>match p with
 |7=>nm [1] [] [1]
 |58=>nm [1,3] [] [1]
 |127=>nm [1,4] [] [1]
 |250=>nm [1,4,5] [] [1]
 |1018=>nm [1,4,6] [] [1]
 |2042=>nm [1,4,7] [] [1]
 |4090=>nm [1,4,8] [] [1]
 |8169=>nm [1,7] [] [1]
 |_=>none
noncomputable def rJ(call:CL)(L:Nat)(C:Nat→Nat)(q:Nat)(z:Int)(M:Bool)(O:Nat)(K:List D)(V:Bool)(W:Nat)(U:List D)(a0:Bool)(a1:Nat)(Y:List D)(a3:Bool)(a4:Nat)(a2:List D)(a6:Bool)(a7:Nat)(a5:List D)(a9:Bool)(aa:Nat)(a8:List D):Option D:=
 eM (cD call L C) O0 EN FinM.canon Tryz.f16 (bt 12 2431) [q] (C 8169) (St.mk (J::D.loc 1 0 0::jn 5 (D.int .i64 z::jn 143 [])) (Z::(1,some (Ob.box [D.slc M O K,D.slc V W U,D.slc a0 a1 Y,D.slc a3 a4 a2,D.slc a6 a7 a5,D.slc a9 aa a8] false))::zn 149 []))
noncomputable def jv(call:CL)(L:Nat)(C:Nat→Nat)(q:Nat)(O:Bool)(U:Nat)(M:List D)(W:Bool)(Y:Nat)(V:List D)(a1:Bool)(a2:Nat)(a0:List D)(a4:Bool)(a5:Nat)(a3:List D)(a7:Bool)(a8:Nat)(a6:List D)(aa:Bool)(ab:Nat)(a9:List D)(z K:Int):Option D:=
 ch (cD call L C) O0 EN FinM.canon Tryz.f16 (bt 11 767) [] q (St.mk (J::D.loc 1 0 0::J::J::D.int .i64 z::J::J::J::D.int .i64 K::jn 142 []) (Z::(1,some (Ob.box [D.slc O U M,D.slc W Y V,D.slc a1 a2 a0,D.slc a4 a5 a3,D.slc a7 a8 a6,D.slc aa ab a9] false))::zn 149 []))
noncomputable def fR(call:CL)(L:Nat)(C:Nat→Nat)(q:Nat)(O:Bool)(U:Nat)(M:List D)(W:Bool)(Y:Nat)(V:List D)(a1:Bool)(a2:Nat)(a0:List D)(a4:Bool)(a5:Nat)(a3:List D)(a7:Bool)(a8:Nat)(a6:List D)(aa:Bool)(ab:Nat)(a9:List D)(z K:Int):Option D:=
 ch (cD call L C) O0 EN FinM.canon Tryz.f16 (bt 10 383) [] q (St.mk (J::D.loc 1 0 0::J::J::D.int .i64 z::J::J::D.int .i64 K::jn 143 []) (Z::(1,some (Ob.box [D.slc O U M,D.slc W Y V,D.slc a1 a2 a0,D.slc a4 a5 a3,D.slc a7 a8 a6,D.slc aa ab a9] false))::zn 149 []))
noncomputable def nu(call:CL)(L:Nat)(C:Nat→Nat)(q:Nat)(O:Bool)(U:Nat)(M:List D)(W:Bool)(Y:Nat)(V:List D)(a1:Bool)(a2:Nat)(a0:List D)(a4:Bool)(a5:Nat)(a3:List D)(a7:Bool)(a8:Nat)(a6:List D)(aa:Bool)(ab:Nat)(a9:List D)(z K:Int):Option D:=
 ch (cD call L C) O0 EN FinM.canon Tryz.f16 (bt 9 191) [] q (St.mk (J::D.loc 1 0 0::J::J::D.int .i64 z::J::D.int .i64 K::jn 144 []) (Z::(1,some (Ob.box [D.slc O U M,D.slc W Y V,D.slc a1 a2 a0,D.slc a4 a5 a3,D.slc a7 a8 a6,D.slc aa ab a9] false))::zn 149 []))
noncomputable def gr(call:CL)(L:Nat)(C:Nat→Nat)(K:Bool)(M:Nat)(z:List D)(U:Bool)(V:Nat)(O:List D)(Y:Bool)(a0:Nat)(W:List D)(a2:Bool)(a3:Nat)(a1:List D)(a5:Bool)(a6:Nat)(a4:List D)(a8:Bool)(a9:Nat)(a7:List D)(q:Int):Option D:=
 eM (cD call L C) O0 EN FinM.canon Tryz.f16 (bt 6 63) [] (C 127) (St.mk (J::D.loc 1 0 0::J::J::D.int .i64 q::jn 146 []) (Z::(1,some (Ob.box [D.slc K M z,D.slc U V O,D.slc Y a0 W,D.slc a2 a3 a1,D.slc a5 a6 a4,D.slc a8 a9 a7] false))::zn 149 []))
noncomputable def lg(call:CL)(L:Nat)(C:Nat→Nat)(q:Nat)(O:Bool)(U:Nat)(M:List D)(W:Bool)(Y:Nat)(V:List D)(a1:Bool)(a2:Nat)(a0:List D)(a4:Bool)(a5:Nat)(a3:List D)(a7:Bool)(a8:Nat)(a6:List D)(aa:Bool)(ab:Nat)(a9:List D)(z K:Int):Option D:=
 ch (cD call L C) O0 EN FinM.canon Tryz.f16 (bt 7 47) [] q (St.mk (J::D.loc 1 0 0::J::J::D.int .i64 z::D.int .i64 K::jn 145 []) (Z::(1,some (Ob.box [D.slc O U M,D.slc W Y V,D.slc a1 a2 a0,D.slc a4 a5 a3,D.slc a7 a8 a6,D.slc aa ab a9] false))::zn 149 []))
noncomputable def vD(call:CL)(L:Nat)(C:Nat→Nat)(q:Nat)(K:Bool)(M:Nat)(z:List D)(U:Bool)(V:Nat)(O:List D)(Y:Bool)(a0:Nat)(W:List D)(a2:Bool)(a3:Nat)(a1:List D)(a5:Bool)(a6:Nat)(a4:List D)(a8:Bool)(a9:Nat)(a7:List D)(vi:Int):Option D:=
 ch (cD call L C) O0 EN FinM.canon Tryz.f16 (bt 5 11) [] q (St.mk (J::D.loc 1 0 0::J::D.int .i64 vi::jn 147 []) (Z::(1,some (Ob.box [D.slc K M z,D.slc U V O,D.slc Y a0 W,D.slc a2 a3 a1,D.slc a5 a6 a4,D.slc a8 a9 a7] false))::zn 149 []))
noncomputable def AH(call:CL)(L:Nat)(C:Nat→Nat)(z:Bool)(K:Nat)(q:List D)(O:Bool)(U:Nat)(M:List D)(W:Bool)(Y:Nat)(V:List D)(a1:Bool)(a2:Nat)(a0:List D)(a4:Bool)(a5:Nat)(a3:List D)(a7:Bool)(a8:Nat)(a6:List D):Option D:=
 eM (cD call L C) O0 EN FinM.canon Tryz.f16 [true,true] [] (C 7) (St.mk (J::D.loc 1 0 0::jn 149 []) (Z::(1,some (Ob.box [D.slc z K q,D.slc O U M,D.slc W Y V,D.slc a1 a2 a0,D.slc a4 a5 a3,D.slc a7 a8 a6] false))::zn 149 []))
theorem xC(call:CL)(L:Nat)(C:Nat→Nat)(a8:Nat)(q:Int)(O:Bool)(U:Nat)(M:List D)(W:Bool)(Y:Nat)(V:List D)(a0:Bool)(a1:Nat)(Z:List D)(a3:Bool)(a4:Nat)(a2:List D)(K:Bool)(z:Nat)(J:List D)(a6:Bool)(a7:Nat)(a5:List D)(hC:∀t,C t=1):rJ call L C a8 q O U M W Y V a0 a1 Z a3 a4 a2 K z J a6 a7 a5=
 (bL (decide (0≤q∧q<(z:Int)))
 (bu J (Int.toNat q*1) fun aa=>bY aa fun ag=>bG (call 23 [D.agg [D.slc O U M,D.slc W Y V,D.slc a0 a1 Z,D.slc a3 a4 a2,D.slc K z J,D.slc a6 a7 a5],D.str ag]) fun ad=>bF .i64 ad fun aj=>bC (decide (aj<0))
 (fR call L C a8 O U M W Y V a0 a1 Z a3 a4 a2 K z J a6 a7 a5 10 (IntKind.wrap .i64 (q+1)))
 (bL (decide (0≤(0:Int)∧(0:Int)≤q∧q≤(z:Int)))
 (bL (decide (0≤q∧q<(z:Int)))
 (bu J (Int.toNat q*1) fun ab=>bY ab fun ah=>bG (call 81 [D.slc (K&&decide (q=(z:Int))) (Int.toNat (q-(0:Int))) (List.take (Int.toNat (q-(0:Int))*1) J),D.str ah]) fun ae=>bW ae fun a9=>bC a9
 (fR call L C a8 O U M W Y V a0 a1 Z a3 a4 a2 K z J a6 a7 a5 9 (IntKind.wrap .i64 (q+1)))
 (bL (decide (0≤q∧q<(z:Int)))
 (bu J (Int.toNat q*1) fun ac=>bY ac fun ai=>bG (call 29 [D.agg [D.slc O U M,D.slc W Y V,D.slc a0 a1 Z,D.slc a3 a4 a2,D.slc K z J,D.slc a6 a7 a5],D.str ai]) fun af=>bF .i64 af fun ak=>fR call L C a8 O U M W Y V a0 a1 Z a3 a4 a2 K z J a6 a7 a5 ak (IntKind.wrap .i64 (q+1))))))))):=by
 unfold rJ;rw[hC]
 kernel_rfl
theorem pp(call:CL)(L:Nat)(C:Nat→Nat)(a9:Nat)(M:Bool)(O:Nat)(K:List D)(V:Bool)(W:Nat)(U:List D)(Z:Bool)(a0:Nat)(Y:List D)(a2:Bool)(a3:Nat)(a1:List D)(a5:Bool)(a6:Nat)(a4:List D)(a8:Bool)(J:Nat)(a7:List D)(q z:Int):jv call L C (a9+1) M O K V W U Z a0 Y a2 a3 a1 a5 a6 a4 a8 J a7 q z=
 (bC (decide (z<(J:Int)))
 (bC (q==0)
 (bG (call 85 [D.agg [D.slc M O K,D.slc V W U,D.slc Z a0 Y,D.slc a2 a3 a1,D.slc a5 a6 a4,D.slc a8 J a7],D.int .i64 z]) fun aa=>bF .i64 aa fun ab=>jv call L C a9 M O K V W U Z a0 Y a2 a3 a1 a5 a6 a4 a8 J a7 ab (IntKind.wrap .i64 (z+1)))
 (some (D.int .i64 q)))
 (some (D.int .i64 q))):=by kernel_rfl
theorem pq(call:CL)(L:Nat)(C:Nat→Nat)(a9:Nat)(K:Bool)(M:Nat)(J:List D)(U:Bool)(V:Nat)(O:List D)(Y:Bool)(Z:Nat)(W:List D)(a1:Bool)(a2:Nat)(a0:List D)(a4:Bool)(q:Nat)(a3:List D)(a6:Bool)(a7:Nat)(a5:List D)(z a8:Int):fR call L C (a9+1) K M J U V O Y Z W a1 a2 a0 a4 q a3 a6 a7 a5 z a8=
 (bC (decide (a8<(q:Int)))
 (bC (z==0)
 (rJ call L C a9 a8 K M J U V O Y Z W a1 a2 a0 a4 q a3 a6 a7 a5)
 (jv call L C L K M J U V O Y Z W a1 a2 a0 a4 q a3 a6 a7 a5 z 0))
 (jv call L C L K M J U V O Y Z W a1 a2 a0 a4 q a3 a6 a7 a5 z 0)):=by kernel_rfl
theorem pt(call:CL)(L:Nat)(C:Nat→Nat)(a9:Nat)(J:Bool)(K:Nat)(z:List D)(O:Bool)(U:Nat)(M:List D)(W:Bool)(Y:Nat)(V:List D)(a0:Bool)(q:Nat)(Z:List D)(a2:Bool)(a3:Nat)(a1:List D)(a5:Bool)(a6:Nat)(a4:List D)(a7 a8:Int):nu call L C (a9+1) J K z O U M W Y V a0 q Z a2 a3 a1 a5 a6 a4 a7 a8=
 (bC (decide (a8<(q:Int)))
 (bC (a7==0)
 (bG (call 84 [D.agg [D.slc J K z,D.slc O U M,D.slc W Y V,D.slc a0 q Z,D.slc a2 a3 a1,D.slc a5 a6 a4],D.int .i64 a8]) fun aa=>bF .i64 aa fun ab=>nu call L C a9 J K z O U M W Y V a0 q Z a2 a3 a1 a5 a6 a4 ab (IntKind.wrap .i64 (a8+1)))
 (fR call L C L J K z O U M W Y V a0 q Z a2 a3 a1 a5 a6 a4 a7 0))
 (fR call L C L J K z O U M W Y V a0 q Z a2 a3 a1 a5 a6 a4 a7 0)):=by kernel_rfl
theorem zp(call:CL)(L:Nat)(C:Nat→Nat)(J:Bool)(K:Nat)(z:List D)(O:Bool)(U:Nat)(M:List D)(W:Bool)(Y:Nat)(V:List D)(a0:Bool)(a1:Nat)(Z:List D)(a3:Bool)(a4:Nat)(a2:List D)(a6:Bool)(a7:Nat)(a5:List D)(q:Int)(hC:∀t,C t=1):gr call L C J K z O U M W Y V a0 a1 Z a3 a4 a2 a6 a7 a5 q=
 (nu call L C L J K z O U M W Y V a0 a1 Z a3 a4 a2 a6 a7 a5 q 0):=by
 unfold gr;rw[hC]
 kernel_rfl
theorem rK(call:CL)(L:Nat)(C:Nat→Nat)(a9:Nat)(O:Bool)(U:Nat)(M:List D)(W:Bool)(K:Nat)(V:List D)(J:Bool)(q:Nat)(z:List D)(Z:Bool)(a0:Nat)(Y:List D)(a2:Bool)(a3:Nat)(a1:List D)(a5:Bool)(a6:Nat)(a4:List D)(ve a8:Int):lg call L C (a9+1) O U M W K V J q z Z a0 Y a2 a3 a1 a5 a6 a4 ve a8=
 (bC (decide (a8<(K:Int)))
 (bC (ve==0)
 (bG (call 82 [D.agg [D.slc O U M,D.slc W K V,D.slc J q z,D.slc Z a0 Y,D.slc a2 a3 a1,D.slc a5 a6 a4],D.int .i64 a8]) fun aa=>bF .i64 aa fun x=>lg call L C a9 O U M W K V J q z Z a0 Y a2 a3 a1 a5 a6 a4 x (IntKind.wrap .i64 (a8+1)))
 (bC (ve==0)
 (bC (decide ((q:Int)>0))
 (bG (call 83 [D.slc J q z]) fun ab=>bF .i64 ab fun ad=>gr call L C O U M W K V J q z Z a0 Y a2 a3 a1 a5 a6 a4 ad)
 (gr call L C O U M W K V J q z Z a0 Y a2 a3 a1 a5 a6 a4 ve))
 (gr call L C O U M W K V J q z Z a0 Y a2 a3 a1 a5 a6 a4 ve)))
 (bC (ve==0)
 (bC (decide ((q:Int)>0))
 (bG (call 83 [D.slc J q z]) fun ac=>bF .i64 ac fun ae=>gr call L C O U M W K V J q z Z a0 Y a2 a3 a1 a5 a6 a4 ae)
 (gr call L C O U M W K V J q z Z a0 Y a2 a3 a1 a5 a6 a4 ve))
 (gr call L C O U M W K V J q z Z a0 Y a2 a3 a1 a5 a6 a4 ve))):=by kernel_rfl
theorem ub(call:CL)(L:Nat)(C:Nat→Nat)(a7:Nat)(J:Bool)(q:Nat)(z:List D)(M:Bool)(O:Nat)(K:List D)(V:Bool)(W:Nat)(U:List D)(Z:Bool)(a0:Nat)(Y:List D)(a2:Bool)(a3:Nat)(a1:List D)(a5:Bool)(a6:Nat)(a4:List D)(vi:Int):vD call L C (a7+1) J q z M O K V W U Z a0 Y a2 a3 a1 a5 a6 a4 vi=
 (bC (decide (vi<(q:Int)))
 (bL (decide (0≤vi∧vi<(q:Int)))
 (bu z (Int.toNat vi*1) fun d=>bY d fun s=>bG (call 80 [D.str s]) fun r=>bW r fun b=>bC (!b)
 (some (D.int .i64 8))
 (bL (decide (0≤(0:Int)∧(0:Int)≤vi∧vi≤(q:Int)))
 (bL (decide (0≤vi∧vi<(q:Int)))
 (bu z (Int.toNat vi*1) fun a9=>bY a9 fun ab=>bG (call 81 [D.slc (J&&decide (vi=(q:Int))) (Int.toNat (vi-(0:Int))) (List.take (Int.toNat (vi-(0:Int))*1) z),D.str ab]) fun aa=>bW aa fun a8=>bC a8
 (some (D.int .i64 9))
 (vD call L C a7 J q z M O K V W U Z a0 Y a2 a3 a1 a5 a6 a4 (IntKind.wrap .i64 (vi+1))))))))
 (lg call L C L J q z M O K V W U Z a0 Y a2 a3 a1 a5 a6 a4 0 0)):=by kernel_rfl
theorem DX(call:CL)(L:Nat)(C:Nat→Nat)(z:Bool)(J:Nat)(q:List D)(M:Bool)(O:Nat)(K:List D)(V:Bool)(W:Nat)(U:List D)(Z:Bool)(a0:Nat)(Y:List D)(a2:Bool)(a3:Nat)(a1:List D)(a5:Bool)(a6:Nat)(a4:List D)(hC:∀t,C t=1):AH call L C z J q M O K V W U Z a0 Y a2 a3 a1 a5 a6 a4=
 (vD call L C L z J q M O K V W U Z a0 Y a2 a3 a1 a5 a6 a4 0):=by
 unfold AH;rw[hC]
 kernel_rfl
theorem J9(call:CL)(L:Nat)(C:Nat→Nat)(U:Bool)(q:Nat)(O:List D)(W:Bool)(z:Nat)(V:List D)(Z:Bool)(a0:Nat)(Y:List D)(a2:Bool)(J:Nat)(a1:List D)(a4:Bool)(K:Nat)(a3:List D)(a6:Bool)(M:Nat)(a5:List D):bS (cD call L C) O0 EN FinM.canon Tryz.f16 [D.agg [D.slc U q O,D.slc W z V,D.slc Z a0 Y,D.slc a2 J a1,D.slc a4 K a3,D.slc a6 M a5]]=
 (bC (decide ((q:Int)>256))
 (some (D.int .i64 5))
 (bC (decide ((z:Int)>200))
 (some (D.int .i64 5))
 (bC (decide ((J:Int)>1000))
 (some (D.int .i64 5))
 (bC (decide ((K:Int)>200))
 (some (D.int .i64 5))
 (bC (decide ((M:Int)>256))
 (some (D.int .i64 5))
 (AH call L C U q O W z V Z a0 Y a2 J a1 a4 K a3 a6 M a5)))))):=by kernel_rfl
theorem Ka(call:CL)(L:Nat)(C:Nat→Nat)(J:Bool)(K:Nat)(z:List D)(O:Bool)(M:Nat)(q:List D)(V:Bool)(W:Nat)(U:List D)(Z:Bool)(a0:Nat)(Y:List D)(a2:Bool)(a3:Nat)(a1:List D)(a5:Bool)(a6:Nat)(a4:List D)(vi:Int):bS (cD call L C) O0 N0 FinM.canon Tryz.f82 [D.agg [D.slc J K z,D.slc O M q,D.slc V W U,D.slc Z a0 Y,D.slc a2 a3 a1,D.slc a5 a6 a4],D.int .i64 vi]=
 (bL (decide (0≤vi∧vi<(M:Int)))
 (bu q (Int.toNat vi*3+0) fun d=>bY d fun s=>bu q (Int.toNat vi*3+1) fun a8=>bY a8 fun ac=>bu q (Int.toNat vi*3+2) fun a9=>bF .i64 a9 fun x=>bG (call 80 [D.str s]) fun r=>bW r fun b=>bC (!b)
 (some (D.int .i64 8))
 (bG (call 23 [D.agg [D.slc J K z,D.slc O M q,D.slc V W U,D.slc Z a0 Y,D.slc a2 a3 a1,D.slc a5 a6 a4],D.str s]) fun aa=>bF .i64 aa fun ad=>bC (decide (ad<vi))
 (some (D.int .i64 9))
 (bG (call 81 [D.slc J K z,D.str ac]) fun ab=>bW ab fun a7=>bC (!a7)
 (some (D.int .i64 10))
 (bC (decide (x< -99))
 (some (D.int .i64 3))
 (bC (decide (x>99))
 (some (D.int .i64 3))
 (some (D.int .i64 0)))))))):=by kernel_rfl
def PB:bP:=fun p=>match p with
 |15=>nm [1,2,5] [] [2,5]
 |_=>none
noncomputable def zq(call:CL)(L:Nat)(C:Nat→Nat)(vi:Int)(V:Bool)(W:Nat)(U:List D)(a0:Bool)(a1:Nat)(Y:List D)(a3:Bool)(a4:Nat)(a2:List D)(a6:Bool)(a7:Nat)(a5:List D)(a9:Bool)(aa:Nat)(a8:List D)(ac:Bool)(ad:Nat)(ab:List D)(q z:ByteArray)(K M:Int)(O:ByteArray):Option D:=
 eM (cD call L C) O0 PB FinM.canon Tryz.f84 [true,true,true] [] (C 15) (St.mk (J::D.int .i64 vi::D.loc 2 0 0::J::J::D.loc 5 0 0::jn 52 []) (Z::Z::(1,some (Ob.box [D.slc V W U,D.slc a0 a1 Y,D.slc a3 a4 a2,D.slc a6 a7 a5,D.slc a9 aa a8,D.slc ac ad ab] false))::Z::Z::(1,some (Ob.box [D.str q,D.str z,D.int .i64 K,D.int .i64 M,D.str O] false))::zn 52 []))
theorem BS(call:CL)(L:Nat)(C:Nat→Nat)(vi:Int)(V:Bool)(W:Nat)(U:List D)(Z:Bool)(a0:Nat)(Y:List D)(a2:Bool)(a3:Nat)(a1:List D)(a5:Bool)(a6:Nat)(a4:List D)(a8:Bool)(a9:Nat)(a7:List D)(ab:Bool)(ac:Nat)(aa:List D)(q J:ByteArray)(K M:Int)(O:ByteArray)(hC:∀t,C t=1):zq call L C vi V W U Z a0 Y a2 a3 a1 a5 a6 a4 a8 a9 a7 ab ac aa q J K M O=
 (bG (call 145 [D.agg [D.int .i64 M,D.str O]]) fun ad=>bF .i64 ad fun z=>bC (z==0)
 (bG (call 95 [D.agg [D.slc V W U,D.slc Z a0 Y,D.slc a2 a3 a1,D.slc a5 a6 a4,D.slc a8 a9 a7,D.slc ab ac aa],D.str q,D.int .i64 K,D.bool (ByteArray.toList J==ByteArray.toList q)]) fun ae=>bF .i64 ae fun af=>bC (decide (af<vi))
 (some (D.int .i64 9))
 (some (D.int .i64 z)))
 (some (D.int .i64 z))):=by
 unfold zq;rw[hC]
 kernel_rfl
theorem Kb(call:CL)(L:Nat)(C:Nat→Nat)(M:Bool)(O:Nat)(K:List D)(V:Bool)(W:Nat)(U:List D)(Z:Bool)(z:Nat)(Y:List D)(a0:Bool)(J:Nat)(q:List D)(a2:Bool)(a3:Nat)(a1:List D)(a5:Bool)(a6:Nat)(a4:List D)(vi:Int):bS (cD call L C) O0 PB FinM.canon Tryz.f84 [D.agg [D.slc M O K,D.slc V W U,D.slc Z z Y,D.slc a0 J q,D.slc a2 a3 a1,D.slc a5 a6 a4],D.int .i64 vi]=
 (bL (decide (0≤vi∧vi<(J:Int)))
 (bu q (Int.toNat vi*5+0) fun d=>bY d fun s=>bu q (Int.toNat vi*5+1) fun a8=>bY a8 fun a7=>bu q (Int.toNat vi*5+2) fun a9=>bF .i64 a9 fun x=>bu q (Int.toNat vi*5+3) fun aa=>bF .i64 aa fun ae=>bu q (Int.toNat vi*5+4) fun ab=>bY ab fun ad=>bG (call 23 [D.agg [D.slc M O K,D.slc V W U,D.slc Z z Y,D.slc a0 J q,D.slc a2 a3 a1,D.slc a5 a6 a4],D.str s]) fun r=>bF .i64 r fun af=>bC (decide (af<0))
 (some (D.int .i64 10))
 (bG (call 23 [D.agg [D.slc M O K,D.slc V W U,D.slc Z z Y,D.slc a0 J q,D.slc a2 a3 a1,D.slc a5 a6 a4],D.str a7]) fun ac=>bF .i64 ac fun ag=>bC (decide (ag<0))
 (some (D.int .i64 10))
 (bC (decide (x<1))
 (some (D.int .i64 10))
 (bC (decide (x>(z:Int)))
 (some (D.int .i64 10))
 (zq call L C vi M O K V W U Z z Y a0 J q a2 a3 a1 a5 a6 a4 s a7 x ae ad)))))):=by kernel_rfl
def OC:bP:=fun p=>match p with
 |127=>nm [5,6] [2] [2,5]
 |1018=>nm [5,6,7] [2] [2,5]
 |_=>none
noncomputable def nv(call:CL)(L:Nat)(C:Nat→Nat)(q:Nat)(J:ByteArray)(M:Bool)(O:Nat)(K:List D)(V:Bool)(W:Nat)(U:List D)(z Y:Int):Option D:=
 ch (cD call L C) O0 OC FinM.canon Tryz.f85 (bt 9 191) [] q (St.mk (jn 5 (D.loc 5 0 0::D.int .i64 z::D.int .i64 Y::jn 46 [])) (zn 5 ((1,some (Ob.box [D.str J,D.slc M O K,D.slc V W U] false))::zn 48 [])))
noncomputable def lh(call:CL)(L:Nat)(C:Nat→Nat)(q:Int)(z:ByteArray)(K:Bool)(M:Nat)(J:List D)(U:Bool)(V:Nat)(O:List D):Option D:=
 eM (cD call L C) O0 OC FinM.canon Tryz.f85 (bt 6 63) [] (C 127) (St.mk (jn 5 (D.loc 5 0 0::D.int .i64 q::jn 47 [])) (zn 5 ((1,some (Ob.box [D.str z,D.slc K M J,D.slc U V O] false))::zn 48 [])))
theorem pu(call:CL)(L:Nat)(C:Nat→Nat)(V:Nat)(W:ByteArray)(O:Bool)(U:Nat)(M:List D)(Y:Bool)(K:Nat)(J:List D)(z q:Int):nv call L C (V+1) W O U M Y K J z q=
 (bC (decide (q<(K:Int)))
 (bC (z==0)
 (bL (decide (0≤q∧q<(K:Int)))
 (bu J (Int.toNat q*2+0) fun a0=>bY a0 fun a5=>bu J (Int.toNat q*2+1) fun a1=>cV a1 fun a2 a3 Z=>bG (call 152 [D.slc O U M,D.agg [D.str a5,D.slc a2 a3 Z]]) fun a4=>bF .i64 a4 fun a6=>nv call L C V W O U M Y K J a6 (IntKind.wrap .i64 (q+1))))
 (some (D.int .i64 z)))
 (some (D.int .i64 z))):=by kernel_rfl
theorem zr(call:CL)(L:Nat)(C:Nat→Nat)(q:Int)(z:ByteArray)(K:Bool)(M:Nat)(J:List D)(U:Bool)(V:Nat)(O:List D)(hC:∀t,C t=1):lh call L C q z K M J U V O=
 (nv call L C L z K M J U V O q 0):=by
 unfold lh;rw[hC]
 kernel_rfl
theorem Kc(call:CL)(L:Nat)(C:Nat→Nat)(V:Bool)(W:Nat)(U:List D)(Z:Bool)(a0:Nat)(Y:List D)(a2:Bool)(a3:Nat)(a1:List D)(a5:Bool)(a6:Nat)(a4:List D)(a8:Bool)(a9:Nat)(a7:List D)(aa:Bool)(M:Nat)(q:List D)(vi:Int):bS (cD call L C) O0 OC FinM.canon Tryz.f85 [D.agg [D.slc V W U,D.slc Z a0 Y,D.slc a2 a3 a1,D.slc a5 a6 a4,D.slc a8 a9 a7,D.slc aa M q],D.int .i64 vi]=
 (bL (decide (0≤vi∧vi<(M:Int)))
 (bu q (Int.toNat vi*3+0) fun d=>bY d fun s=>bu q (Int.toNat vi*3+1) fun ab=>cV ab fun f n c=>bu q (Int.toNat vi*3+2) fun ac=>cV ac fun K z J=>bG (call 80 [D.str s]) fun r=>bW r fun b=>bC (!b)
 (some (D.int .i64 8))
 (bG (call 151 [D.agg [D.slc V W U,D.slc Z a0 Y,D.slc a2 a3 a1,D.slc a5 a6 a4,D.slc a8 a9 a7,D.slc aa M q],D.str s]) fun ad=>bF .i64 ad fun x=>bC (decide (x<vi))
 (some (D.int .i64 9))
 (bG (call 83 [D.slc f n c]) fun ae=>bF .i64 ae fun O=>bC (O==0)
 (bC (decide ((z:Int)>200))
 (lh call L C 5 s f n c K z J)
 (lh call L C O s f n c K z J))
 (lh call L C O s f n c K z J))))):=by kernel_rfl
def MY:bP:=fun p=>match p with
 |58=>nm [1,2,3,18,19,20] [5,7,9] [1,2,3,5,7,9,28,42,56]
 |122=>nm [1,2,3,32,33,34] [5,7,9] [1,2,3,5,7,9,28,42,56]
 |250=>nm [2,3,46,47,48] [1,5,7,9] [1,2,3,5,7,9,28,42,56]
 |_=>none
noncomputable def c8(call:CL)(L:Nat)(C:Nat→Nat)(M:Nat)(a7:Bool)(a8:Nat)(a6:List D)(W:Bool)(Y:Nat)(V:List D)(a1:Bool)(a2:Nat)(a0:List D)(a4:Bool)(a5:Nat)(a3:List D)(O U:Int)(q:Ow)(z:Ow)(K:Ow):Option D:=
 ch (cD call L C) O0 MY FinM.canon Tryz.f13 (bt 7 47) [] M (St.mk (J::J::D.loc 2 0 0::D.loc 3 0 0::jn 42 (D.slc a7 a8 a6::D.int .i64 O::D.int .i64 U::jn 11 [])) (Z::Z::(1,some (Ob.box [D.nils,D.nils,D.nils,D.nils,D.nils,D.nils] false))::(1,some (Ob.box [D.slc W Y V,ol 28 q,D.slc a1 a2 a0,ol 42 z,D.slc a4 a5 a3,ol 56 K] false))::zn 24 (om 155 3 q::zn 13 (om 156 5 z::zn 13 [om 160 3 K,Z,Z,Z]))))
noncomputable def fj(call:CL)(L:Nat)(C:Nat→Nat)(a5:Nat)(a0:Bool)(a1:Nat)(Y:List D)(M:Bool)(O:Nat)(K:List D)(a9:Bool)(aa:Nat)(a8:List D)(V:Bool)(W:Nat)(U:List D)(a3:Bool)(a4:Nat)(a2:List D)(ac:Bool)(ad:Nat)(ab:List D)(a6 a7:Int)(q:Ow)(z:Ow):Option D:=
 ch (cD call L C) O0 MY FinM.canon Tryz.f13 (bt 6 23) [] a5 (St.mk (J::D.loc 1 0 0::D.loc 2 0 0::D.loc 3 0 0::jn 28 (D.slc a0 a1 Y::D.int .i64 a6::D.int .i64 a7::jn 25 [])) (Z::(1,some (Ob.box [D.slc M O K,D.slc a9 aa a8,D.slc V W U,D.slc a0 a1 Y,D.slc a3 a4 a2,D.slc ac ad ab] false))::(1,some (Ob.box [D.nils,D.nils,D.nils,D.nils,D.nils,D.nils] false))::(1,some (Ob.box [D.slc M O K,ol 28 q,D.slc V W U,ol 42 z,D.slc a3 a4 a2,D.nils] false))::zn 24 (om 155 3 q::zn 13 (om 156 5 z::zn 17 []))))
noncomputable def ms(call:CL)(L:Nat)(C:Nat→Nat)(n:Nat)(U:Bool)(V:Nat)(O:List D)(K:Bool)(M:Nat)(z:List D)(Y:Bool)(a0:Nat)(W:List D)(a7:Bool)(a8:Nat)(a6:List D)(a2:Bool)(a3:Nat)(a1:List D)(aa:Bool)(ab:Nat)(a9:List D)(a4 a5:Int)(q:Ow):Option D:=
 ch (cD call L C) O0 MY FinM.canon Tryz.f13 (bt 5 11) [] n (St.mk (J::D.loc 1 0 0::D.loc 2 0 0::D.loc 3 0 0::jn 14 (D.slc U V O::D.int .i64 a4::D.int .i64 a5::jn 39 [])) (Z::(1,some (Ob.box [D.slc K M z,D.slc U V O,D.slc Y a0 W,D.slc a7 a8 a6,D.slc a2 a3 a1,D.slc aa ab a9] false))::(1,some (Ob.box [D.nils,D.nils,D.nils,D.nils,D.nils,D.nils] false))::(1,some (Ob.box [D.slc K M z,ol 28 q,D.slc Y a0 W,D.nils,D.slc a2 a3 a1,D.nils] false))::zn 24 (om 155 3 q::zn 31 [])))
theorem lL(call:CL)(L:Nat)(C:Nat→Nat)(a2:Nat)(a3:Bool)(a1:Nat)(z:List D)(M:Bool)(O:Nat)(K:List D)(V:Bool)(W:Nat)(U:List D)(Z:Bool)(a0:Nat)(Y:List D)(J q:Int):c8 call L C (a2+1) a3 a1 z M O K V W U Z a0 Y J q (Ow.nil) (Ow.nil) (Ow.nil)=
 (bC (decide (q<J))
 (bL (decide (0≤q∧q<(a1:Int)))
 (bu z (Int.toNat q*3+0) fun a6=>bY a6 fun ab=>bu z (Int.toNat q*3+1) fun a7=>cV a7 fun f a9 c=>bu z (Int.toNat q*3+2) fun a5=>cV a5 fun a8 aa a4=>c8 call L C a2 a3 a1 z M O K V W U Z a0 Y J (IntKind.wrap .i64 (q+1)) (Ow.nil) (Ow.nil) (Ow.own 1 [D.str ab,D.slc f a9 c,D.slc a8 aa a4])))
 (some (D.agg [D.slc M O K,D.slc true 0 [],D.slc V W U,D.slc true 0 [],D.slc Z a0 Y,D.slc true 0 []]))):=by kernel_rfl
theorem lM(call:CL)(L:Nat)(C:Nat→Nat)(a4:Nat)(a5:Bool)(a3:Nat)(J:List D)(U:Bool)(V:Nat)(O:List D)(Y:Bool)(Z:Nat)(W:List D)(a1:Bool)(a2:Nat)(a0:List D)(K q:Int)(z:Nat)(M:List D):c8 call L C (a4+1) a5 a3 J U V O Y Z W a1 a2 a0 K q (Ow.nil) (Ow.nil) (Ow.own z M)=
 (bC (decide (q<K))
 (bL (decide (0≤q∧q<(a3:Int)))
 (bu J (Int.toNat q*3+0) fun a8=>bY a8 fun af=>bu J (Int.toNat q*3+1) fun a9=>cV a9 fun ab ad a6=>bu J (Int.toNat q*3+2) fun aa=>cV aa fun ac ae a7=>bL (decide ((z+1)*64≤cB∧z+1≤9223372036854775807))
 (c8 call L C a4 a5 a3 J U V O Y Z W a1 a2 a0 K (IntKind.wrap .i64 (q+1)) (Ow.nil) (Ow.nil) (Ow.own (z+1) (M++[D.str af,D.slc ab ad a6,D.slc ac ae a7])))))
 (some (D.agg [D.slc U V O,D.slc true 0 [],D.slc Y Z W,D.slc true 0 [],D.slc a1 a2 a0,D.slc false z M]))):=by kernel_rfl
theorem lN(call:CL)(L:Nat)(C:Nat→Nat)(a4:Nat)(a5:Bool)(a3:Nat)(z:List D)(U:Bool)(V:Nat)(O:List D)(Y:Bool)(Z:Nat)(W:List D)(a1:Bool)(a2:Nat)(a0:List D)(J q:Int)(M:Nat)(K:List D):c8 call L C (a4+1) a5 a3 z U V O Y Z W a1 a2 a0 J q (Ow.nil) (Ow.own M K) (Ow.nil)=
 (bC (decide (q<J))
 (bL (decide (0≤q∧q<(a3:Int)))
 (bu z (Int.toNat q*3+0) fun a8=>bY a8 fun af=>bu z (Int.toNat q*3+1) fun a9=>cV a9 fun ab ad a6=>bu z (Int.toNat q*3+2) fun aa=>cV aa fun ac ae a7=>c8 call L C a4 a5 a3 z U V O Y Z W a1 a2 a0 J (IntKind.wrap .i64 (q+1)) (Ow.nil) (Ow.own M K) (Ow.own 1 [D.str af,D.slc ab ad a6,D.slc ac ae a7])))
 (some (D.agg [D.slc U V O,D.slc true 0 [],D.slc Y Z W,D.slc false M K,D.slc a1 a2 a0,D.slc true 0 []]))):=by kernel_rfl
theorem lO(call:CL)(L:Nat)(C:Nat→Nat)(a6:Nat)(a7:Bool)(a5:Nat)(J:List D)(W:Bool)(Y:Nat)(V:List D)(a0:Bool)(a1:Nat)(Z:List D)(a3:Bool)(a4:Nat)(a2:List D)(K q:Int)(O:Nat)(M:List D)(z:Nat)(U:List D):c8 call L C (a6+1) a7 a5 J W Y V a0 a1 Z a3 a4 a2 K q (Ow.nil) (Ow.own O M) (Ow.own z U)=
 (bC (decide (q<K))
 (bL (decide (0≤q∧q<(a5:Int)))
 (bu J (Int.toNat q*3+0) fun aa=>bY aa fun ah=>bu J (Int.toNat q*3+1) fun ab=>cV ab fun ad ag a8=>bu J (Int.toNat q*3+2) fun ac=>cV ac fun ae af a9=>bL (decide ((z+1)*64≤cB∧z+1≤9223372036854775807))
 (c8 call L C a6 a7 a5 J W Y V a0 a1 Z a3 a4 a2 K (IntKind.wrap .i64 (q+1)) (Ow.nil) (Ow.own O M) (Ow.own (z+1) (U++[D.str ah,D.slc ad ag a8,D.slc ae af a9])))))
 (some (D.agg [D.slc W Y V,D.slc true 0 [],D.slc a0 a1 Z,D.slc false O M,D.slc a3 a4 a2,D.slc false z U]))):=by kernel_rfl
theorem lP(call:CL)(L:Nat)(C:Nat→Nat)(a4:Nat)(a5:Bool)(a3:Nat)(z:List D)(U:Bool)(V:Nat)(O:List D)(Y:Bool)(Z:Nat)(W:List D)(a1:Bool)(a2:Nat)(a0:List D)(J q:Int)(M:Nat)(K:List D):c8 call L C (a4+1) a5 a3 z U V O Y Z W a1 a2 a0 J q (Ow.own M K) (Ow.nil) (Ow.nil)=
 (bC (decide (q<J))
 (bL (decide (0≤q∧q<(a3:Int)))
 (bu z (Int.toNat q*3+0) fun a8=>bY a8 fun af=>bu z (Int.toNat q*3+1) fun a9=>cV a9 fun ab ad a6=>bu z (Int.toNat q*3+2) fun aa=>cV aa fun ac ae a7=>c8 call L C a4 a5 a3 z U V O Y Z W a1 a2 a0 J (IntKind.wrap .i64 (q+1)) (Ow.own M K) (Ow.nil) (Ow.own 1 [D.str af,D.slc ab ad a6,D.slc ac ae a7])))
 (some (D.agg [D.slc U V O,D.slc false M K,D.slc Y Z W,D.slc true 0 [],D.slc a1 a2 a0,D.slc true 0 []]))):=by kernel_rfl
theorem lQ(call:CL)(L:Nat)(C:Nat→Nat)(a6:Nat)(a7:Bool)(a5:Nat)(J:List D)(W:Bool)(Y:Nat)(V:List D)(a0:Bool)(a1:Nat)(Z:List D)(a3:Bool)(a4:Nat)(a2:List D)(K q:Int)(O:Nat)(M:List D)(z:Nat)(U:List D):c8 call L C (a6+1) a7 a5 J W Y V a0 a1 Z a3 a4 a2 K q (Ow.own O M) (Ow.nil) (Ow.own z U)=
 (bC (decide (q<K))
 (bL (decide (0≤q∧q<(a5:Int)))
 (bu J (Int.toNat q*3+0) fun aa=>bY aa fun ah=>bu J (Int.toNat q*3+1) fun ab=>cV ab fun ad af a8=>bu J (Int.toNat q*3+2) fun ac=>cV ac fun ae ag a9=>bL (decide ((z+1)*64≤cB∧z+1≤9223372036854775807))
 (c8 call L C a6 a7 a5 J W Y V a0 a1 Z a3 a4 a2 K (IntKind.wrap .i64 (q+1)) (Ow.own O M) (Ow.nil) (Ow.own (z+1) (U++[D.str ah,D.slc ad af a8,D.slc ae ag a9])))))
 (some (D.agg [D.slc W Y V,D.slc false O M,D.slc a0 a1 Z,D.slc true 0 [],D.slc a3 a4 a2,D.slc false z U]))):=by kernel_rfl
theorem lR(call:CL)(L:Nat)(C:Nat→Nat)(a6:Nat)(a7:Bool)(a5:Nat)(z:List D)(W:Bool)(Y:Nat)(V:List D)(a0:Bool)(a1:Nat)(Z:List D)(a3:Bool)(a4:Nat)(a2:List D)(J q:Int)(M:Nat)(K:List D)(U:Nat)(O:List D):c8 call L C (a6+1) a7 a5 z W Y V a0 a1 Z a3 a4 a2 J q (Ow.own M K) (Ow.own U O) (Ow.nil)=
 (bC (decide (q<J))
 (bL (decide (0≤q∧q<(a5:Int)))
 (bu z (Int.toNat q*3+0) fun aa=>bY aa fun ah=>bu z (Int.toNat q*3+1) fun ab=>cV ab fun ad af a8=>bu z (Int.toNat q*3+2) fun ac=>cV ac fun ae ag a9=>c8 call L C a6 a7 a5 z W Y V a0 a1 Z a3 a4 a2 J (IntKind.wrap .i64 (q+1)) (Ow.own M K) (Ow.own U O) (Ow.own 1 [D.str ah,D.slc ad af a8,D.slc ae ag a9])))
 (some (D.agg [D.slc W Y V,D.slc false M K,D.slc a0 a1 Z,D.slc false U O,D.slc a3 a4 a2,D.slc true 0 []]))):=by kernel_rfl
theorem lS(call:CL)(L:Nat)(C:Nat→Nat)(a8:Nat)(a9:Bool)(a7:Nat)(J:List D)(Z:Bool)(a0:Nat)(Y:List D)(a2:Bool)(a3:Nat)(a1:List D)(a5:Bool)(a6:Nat)(a4:List D)(K q:Int)(O:Nat)(M:List D)(V:Nat)(U:List D)(z:Nat)(W:List D):c8 call L C (a8+1) a9 a7 J Z a0 Y a2 a3 a1 a5 a6 a4 K q (Ow.own O M) (Ow.own V U) (Ow.own z W)=
 (bC (decide (q<K))
 (bL (decide (0≤q∧q<(a7:Int)))
 (bu J (Int.toNat q*3+0) fun ac=>bY ac fun aj=>bu J (Int.toNat q*3+1) fun ad=>cV ad fun af ah aa=>bu J (Int.toNat q*3+2) fun ae=>cV ae fun ag ai ab=>bL (decide ((z+1)*64≤cB∧z+1≤9223372036854775807))
 (c8 call L C a8 a9 a7 J Z a0 Y a2 a3 a1 a5 a6 a4 K (IntKind.wrap .i64 (q+1)) (Ow.own O M) (Ow.own V U) (Ow.own (z+1) (W++[D.str aj,D.slc af ah aa,D.slc ag ai ab])))))
 (some (D.agg [D.slc Z a0 Y,D.slc false O M,D.slc a2 a3 a1,D.slc false V U,D.slc a5 a6 a4,D.slc false z W]))):=by kernel_rfl
theorem nx(call:CL)(L:Nat)(C:Nat→Nat)(a5:Nat)(a9:Bool)(Z:Nat)(z:List D)(O:Bool)(U:Nat)(M:List D)(a7:Bool)(a8:Nat)(a6:List D)(W:Bool)(Y:Nat)(V:List D)(a1:Bool)(a2:Nat)(a0:List D)(a4:Bool)(J:Nat)(a3:List D)(K q:Int):fj call L C (a5+1) a9 Z z O U M a7 a8 a6 W Y V a1 a2 a0 a4 J a3 K q (Ow.nil) (Ow.nil)=
 (bC (decide (q<K))
 (bL (decide (0≤q∧q<(Z:Int)))
 (bu z (Int.toNat q*5+0) fun aa=>bY aa fun af=>bu z (Int.toNat q*5+1) fun ab=>bY ab fun ag=>bu z (Int.toNat q*5+2) fun ac=>bF .i64 ac fun ai=>bu z (Int.toNat q*5+3) fun ad=>bF .i64 ad fun aj=>bu z (Int.toNat q*5+4) fun ae=>bY ae fun ah=>fj call L C a5 a9 Z z O U M a7 a8 a6 W Y V a1 a2 a0 a4 J a3 K (IntKind.wrap .i64 (q+1)) (Ow.nil) (Ow.own 1 [D.str af,D.str ag,D.int .i64 ai,D.int .i64 aj,D.str ah])))
 (c8 call L C L a4 J a3 O U M W Y V a1 a2 a0 ((J:Int)) 0 (Ow.nil) (Ow.nil) (Ow.nil))):=by kernel_rfl
theorem ny(call:CL)(L:Nat)(C:Nat→Nat)(a7:Nat)(ab:Bool)(a1:Nat)(z:List D)(V:Bool)(W:Nat)(U:List D)(a9:Bool)(aa:Nat)(a8:List D)(Z:Bool)(a0:Nat)(Y:List D)(a3:Bool)(a4:Nat)(a2:List D)(a6:Bool)(K:Nat)(a5:List D)(M q:Int)(J:Nat)(O:List D):fj call L C (a7+1) ab a1 z V W U a9 aa a8 Z a0 Y a3 a4 a2 a6 K a5 M q (Ow.nil) (Ow.own J O)=
 (bC (decide (q<M))
 (bL (decide (0≤q∧q<(a1:Int)))
 (bu z (Int.toNat q*5+0) fun ac=>bY ac fun ah=>bu z (Int.toNat q*5+1) fun ad=>bY ad fun ai=>bu z (Int.toNat q*5+2) fun ae=>bF .i64 ae fun ak=>bu z (Int.toNat q*5+3) fun af=>bF .i64 af fun al=>bu z (Int.toNat q*5+4) fun ag=>bY ag fun aj=>bL (decide ((J+1)*64≤cB∧J+1≤9223372036854775807))
 (fj call L C a7 ab a1 z V W U a9 aa a8 Z a0 Y a3 a4 a2 a6 K a5 M (IntKind.wrap .i64 (q+1)) (Ow.nil) (Ow.own (J+1) (O++[D.str ah,D.str ai,D.int .i64 ak,D.int .i64 al,D.str aj])))))
 (c8 call L C L a6 K a5 V W U Z a0 Y a3 a4 a2 ((K:Int)) 0 (Ow.nil) (Ow.own J O) (Ow.nil))):=by kernel_rfl
theorem nz(call:CL)(L:Nat)(C:Nat→Nat)(a7:Nat)(ab:Bool)(a1:Nat)(z:List D)(V:Bool)(W:Nat)(U:List D)(a9:Bool)(aa:Nat)(a8:List D)(Z:Bool)(a0:Nat)(Y:List D)(a3:Bool)(a4:Nat)(a2:List D)(a6:Bool)(J:Nat)(a5:List D)(K q:Int)(O:Nat)(M:List D):fj call L C (a7+1) ab a1 z V W U a9 aa a8 Z a0 Y a3 a4 a2 a6 J a5 K q (Ow.own O M) (Ow.nil)=
 (bC (decide (q<K))
 (bL (decide (0≤q∧q<(a1:Int)))
 (bu z (Int.toNat q*5+0) fun ac=>bY ac fun ah=>bu z (Int.toNat q*5+1) fun ad=>bY ad fun ai=>bu z (Int.toNat q*5+2) fun ae=>bF .i64 ae fun ak=>bu z (Int.toNat q*5+3) fun af=>bF .i64 af fun al=>bu z (Int.toNat q*5+4) fun ag=>bY ag fun aj=>fj call L C a7 ab a1 z V W U a9 aa a8 Z a0 Y a3 a4 a2 a6 J a5 K (IntKind.wrap .i64 (q+1)) (Ow.own O M) (Ow.own 1 [D.str ah,D.str ai,D.int .i64 ak,D.int .i64 al,D.str aj])))
 (c8 call L C L a6 J a5 V W U Z a0 Y a3 a4 a2 ((J:Int)) 0 (Ow.own O M) (Ow.nil) (Ow.nil))):=by kernel_rfl
theorem nB(call:CL)(L:Nat)(C:Nat→Nat)(a9:Nat)(ad:Bool)(a3:Nat)(z:List D)(Y:Bool)(Z:Nat)(W:List D)(ab:Bool)(ac:Nat)(aa:List D)(a1:Bool)(a2:Nat)(a0:List D)(a5:Bool)(a6:Nat)(a4:List D)(a8:Bool)(K:Nat)(a7:List D)(M q:Int)(U:Nat)(O:List D)(J:Nat)(V:List D):fj call L C (a9+1) ad a3 z Y Z W ab ac aa a1 a2 a0 a5 a6 a4 a8 K a7 M q (Ow.own U O) (Ow.own J V)=
 (bC (decide (q<M))
 (bL (decide (0≤q∧q<(a3:Int)))
 (bu z (Int.toNat q*5+0) fun ae=>bY ae fun aj=>bu z (Int.toNat q*5+1) fun af=>bY af fun ak=>bu z (Int.toNat q*5+2) fun ag=>bF .i64 ag fun am=>bu z (Int.toNat q*5+3) fun ah=>bF .i64 ah fun an=>bu z (Int.toNat q*5+4) fun ai=>bY ai fun al=>bL (decide ((J+1)*64≤cB∧J+1≤9223372036854775807))
 (fj call L C a9 ad a3 z Y Z W ab ac aa a1 a2 a0 a5 a6 a4 a8 K a7 M (IntKind.wrap .i64 (q+1)) (Ow.own U O) (Ow.own (J+1) (V++[D.str aj,D.str ak,D.int .i64 am,D.int .i64 an,D.str al])))))
 (c8 call L C L a8 K a7 Y Z W a1 a2 a0 a5 a6 a4 ((K:Int)) 0 (Ow.own U O) (Ow.own J V) (Ow.nil))):=by kernel_rfl
theorem rL(call:CL)(L:Nat)(C:Nat→Nat)(n:Nat)(W:Bool)(J:Nat)(z:List D)(U:Bool)(V:Nat)(O:List D)(Z:Bool)(a0:Nat)(Y:List D)(a2:Bool)(K:Nat)(a1:List D)(a4:Bool)(a5:Nat)(a3:List D)(a7:Bool)(a8:Nat)(a6:List D)(M q:Int):ms call L C (n+1) W J z U V O Z a0 Y a2 K a1 a4 a5 a3 a7 a8 a6 M q (Ow.nil)=
 (bC (decide (q<M))
 (bL (decide (0≤q∧q<(J:Int)))
 (bu z (Int.toNat q*3+0) fun d=>bY d fun s=>bu z (Int.toNat q*3+1) fun a9=>bY a9 fun ab=>bu z (Int.toNat q*3+2) fun aa=>bF .i64 aa fun x=>ms call L C n W J z U V O Z a0 Y a2 K a1 a4 a5 a3 a7 a8 a6 M (IntKind.wrap .i64 (q+1)) (Ow.own 1 [D.str s,D.str ab,D.int .i64 x])))
 (fj call L C L a2 K a1 U V O W J z Z a0 Y a4 a5 a3 a7 a8 a6 ((K:Int)) 0 (Ow.nil) (Ow.nil))):=by kernel_rfl
theorem rM(call:CL)(L:Nat)(C:Nat→Nat)(n:Nat)(Z:Bool)(K:Nat)(z:List D)(W:Bool)(Y:Nat)(V:List D)(a1:Bool)(a2:Nat)(a0:List D)(a4:Bool)(M:Nat)(a3:List D)(a6:Bool)(a7:Nat)(a5:List D)(a9:Bool)(aa:Nat)(a8:List D)(O q:Int)(J:Nat)(U:List D):ms call L C (n+1) Z K z W Y V a1 a2 a0 a4 M a3 a6 a7 a5 a9 aa a8 O q (Ow.own J U)=
 (bC (decide (q<O))
 (bL (decide (0≤q∧q<(K:Int)))
 (bu z (Int.toNat q*3+0) fun ab=>bY ab fun ae=>bu z (Int.toNat q*3+1) fun ac=>bY ac fun af=>bu z (Int.toNat q*3+2) fun ad=>bF .i64 ad fun ag=>bL (decide ((J+1)*40≤cB∧J+1≤9223372036854775807))
 (ms call L C n Z K z W Y V a1 a2 a0 a4 M a3 a6 a7 a5 a9 aa a8 O (IntKind.wrap .i64 (q+1)) (Ow.own (J+1) (U++[D.str ae,D.str af,D.int .i64 ag])))))
 (fj call L C L a4 M a3 W Y V Z K z a1 a2 a0 a6 a7 a5 a9 aa a8 ((M:Int)) 0 (Ow.own J U) (Ow.nil))):=by kernel_rfl
theorem Ke(call:CL)(L:Nat)(C:Nat→Nat)(J:Bool)(K:Nat)(z:List D)(O:Bool)(q:Nat)(M:List D)(V:Bool)(W:Nat)(U:List D)(Z:Bool)(a0:Nat)(Y:List D)(a2:Bool)(a3:Nat)(a1:List D)(a5:Bool)(a6:Nat)(a4:List D):bS (cD call L C) O0 MY FinM.canon Tryz.f13 [D.agg [D.slc J K z,D.slc O q M,D.slc V W U,D.slc Z a0 Y,D.slc a2 a3 a1,D.slc a5 a6 a4]]=
 (ms call L C L O q M J K z V W U Z a0 Y a2 a3 a1 a5 a6 a4 ((q:Int)) 0 (Ow.nil)):=by kernel_rfl
def HL:bP:=fun p=>match p with
 |7=>nm [1] [] [1]
 |58=>nm [1,3] [] [1]
 |122=>nm [1,4] [] [1]
 |250=>nm [1,5] [] [1]
 |506=>nm [1,6] [] [1]
 |1018=>nm [1,7] [] [1]
 |_=>none
noncomputable def jw(call:CL)(L:Nat)(C:Nat→Nat)(q:Nat)(M:Bool)(O:Nat)(K:List D)(V:Bool)(W:Nat)(U:List D)(a0:Bool)(a1:Nat)(Y:List D)(a3:Bool)(a4:Nat)(a2:List D)(a6:Bool)(a7:Nat)(a5:List D)(a9:Bool)(aa:Nat)(a8:List D)(z:Int):Option D:=
 ch (cD call L C) O0 HL FinM.canon Tryz.f14 (bt 9 191) [] q (St.mk (J::D.loc 1 0 0::jn 5 (D.int .i64 z::jn 142 [])) (Z::(1,some (Ob.box [D.slc M O K,D.slc V W U,D.slc a0 a1 Y,D.slc a3 a4 a2,D.slc a6 a7 a5,D.slc a9 aa a8] false))::zn 148 []))
noncomputable def lk(call:CL)(L:Nat)(C:Nat→Nat)(q:Nat)(M:Bool)(O:Nat)(K:List D)(V:Bool)(W:Nat)(U:List D)(a0:Bool)(a1:Nat)(Y:List D)(a3:Bool)(a4:Nat)(a2:List D)(a6:Bool)(a7:Nat)(a5:List D)(a9:Bool)(aa:Nat)(a8:List D)(z:Int):Option D:=
 ch (cD call L C) O0 HL FinM.canon Tryz.f14 (bt 8 95) [] q (St.mk (J::D.loc 1 0 0::J::J::J::J::D.int .i64 z::jn 143 []) (Z::(1,some (Ob.box [D.slc M O K,D.slc V W U,D.slc a0 a1 Y,D.slc a3 a4 a2,D.slc a6 a7 a5,D.slc a9 aa a8] false))::zn 148 []))
noncomputable def ll(call:CL)(L:Nat)(C:Nat→Nat)(q:Nat)(M:Bool)(O:Nat)(K:List D)(V:Bool)(W:Nat)(U:List D)(a0:Bool)(a1:Nat)(Y:List D)(a3:Bool)(a4:Nat)(a2:List D)(a6:Bool)(a7:Nat)(a5:List D)(a9:Bool)(aa:Nat)(a8:List D)(z:Int):Option D:=
 ch (cD call L C) O0 HL FinM.canon Tryz.f14 (bt 7 47) [] q (St.mk (J::D.loc 1 0 0::J::J::J::D.int .i64 z::jn 144 []) (Z::(1,some (Ob.box [D.slc M O K,D.slc V W U,D.slc a0 a1 Y,D.slc a3 a4 a2,D.slc a6 a7 a5,D.slc a9 aa a8] false))::zn 148 []))
noncomputable def lm(call:CL)(L:Nat)(C:Nat→Nat)(q:Nat)(M:Bool)(O:Nat)(K:List D)(V:Bool)(W:Nat)(U:List D)(a0:Bool)(a1:Nat)(Y:List D)(a3:Bool)(a4:Nat)(a2:List D)(a6:Bool)(a7:Nat)(a5:List D)(a9:Bool)(aa:Nat)(a8:List D)(z:Int):Option D:=
 ch (cD call L C) O0 HL FinM.canon Tryz.f14 (bt 6 23) [] q (St.mk (J::D.loc 1 0 0::J::J::D.int .i64 z::jn 145 []) (Z::(1,some (Ob.box [D.slc M O K,D.slc V W U,D.slc a0 a1 Y,D.slc a3 a4 a2,D.slc a6 a7 a5,D.slc a9 aa a8] false))::zn 148 []))
noncomputable def vE(call:CL)(L:Nat)(C:Nat→Nat)(q:Nat)(K:Bool)(M:Nat)(z:List D)(U:Bool)(V:Nat)(O:List D)(Y:Bool)(a0:Nat)(W:List D)(a2:Bool)(a3:Nat)(a1:List D)(a5:Bool)(a6:Nat)(a4:List D)(a8:Bool)(a9:Nat)(a7:List D)(vi:Int):Option D:=
 ch (cD call L C) O0 HL FinM.canon Tryz.f14 (bt 5 11) [] q (St.mk (J::D.loc 1 0 0::J::D.int .i64 vi::jn 146 []) (Z::(1,some (Ob.box [D.slc K M z,D.slc U V O,D.slc Y a0 W,D.slc a2 a3 a1,D.slc a5 a6 a4,D.slc a8 a9 a7] false))::zn 148 []))
noncomputable def AI(call:CL)(L:Nat)(C:Nat→Nat)(z:Bool)(K:Nat)(q:List D)(O:Bool)(U:Nat)(M:List D)(W:Bool)(Y:Nat)(V:List D)(a1:Bool)(a2:Nat)(a0:List D)(a4:Bool)(a5:Nat)(a3:List D)(a7:Bool)(a8:Nat)(a6:List D):Option D:=
 eM (cD call L C) O0 HL FinM.canon Tryz.f14 [true,true] [] (C 7) (St.mk (J::D.loc 1 0 0::jn 148 []) (Z::(1,some (Ob.box [D.slc z K q,D.slc O U M,D.slc W Y V,D.slc a1 a2 a0,D.slc a4 a5 a3,D.slc a7 a8 a6] false))::zn 148 []))
theorem pv(call:CL)(L:Nat)(C:Nat→Nat)(K:Nat)(O:Bool)(U:Nat)(M:List D)(W:Bool)(Y:Nat)(V:List D)(a0:Bool)(a1:Nat)(Z:List D)(a3:Bool)(a4:Nat)(a2:List D)(a6:Bool)(a7:Nat)(a5:List D)(a8:Bool)(J:Nat)(z:List D)(q:Int):jw call L C (K+1) O U M W Y V a0 a1 Z a3 a4 a2 a6 a7 a5 a8 J z q=
 (bC (decide (q<(J:Int)))
 (bL (decide (0≤q∧q<(J:Int)))
 (bu z (Int.toNat q*3+0) fun ab=>bY ab fun ai=>bu z (Int.toNat q*3+1) fun ac=>cV ac fun f af c=>bu z (Int.toNat q*3+2) fun ad=>cV ad fun ae ag aa=>bG (call 76 [D.agg [D.str ai,D.slc f af c,D.slc ae ag aa]]) fun ah=>bW ah fun a9=>bC (!a9)
 (some (D.bool false))
 (jw call L C K O U M W Y V a0 a1 Z a3 a4 a2 a6 a7 a5 a8 J z (IntKind.wrap .i64 (q+1)))))
 (some (D.bool true))):=by kernel_rfl
theorem rN(call:CL)(L:Nat)(C:Nat→Nat)(a8:Nat)(M:Bool)(O:Nat)(K:List D)(V:Bool)(W:Nat)(U:List D)(Z:Bool)(a0:Nat)(Y:List D)(a2:Bool)(a3:Nat)(a1:List D)(a4:Bool)(z:Nat)(J:List D)(a6:Bool)(a7:Nat)(a5:List D)(q:Int):lk call L C (a8+1) M O K V W U Z a0 Y a2 a3 a1 a4 z J a6 a7 a5 q=
 (bC (decide (q<(z:Int)))
 (bL (decide (0≤q∧q<(z:Int)))
 (bu J (Int.toNat q*1) fun a9=>bY a9 fun aa=>bC (decide (((ByteArray.size aa):Int)>60))
 (some (D.bool false))
 (lk call L C a8 M O K V W U Z a0 Y a2 a3 a1 a4 z J a6 a7 a5 (IntKind.wrap .i64 (q+1)))))
 (jw call L C L M O K V W U Z a0 Y a2 a3 a1 a4 z J a6 a7 a5 0)):=by kernel_rfl
theorem rO(call:CL)(L:Nat)(C:Nat→Nat)(a8:Nat)(M:Bool)(O:Nat)(K:List D)(V:Bool)(W:Nat)(U:List D)(Z:Bool)(a0:Nat)(Y:List D)(a1:Bool)(z:Nat)(J:List D)(a3:Bool)(a4:Nat)(a2:List D)(a6:Bool)(a7:Nat)(a5:List D)(q:Int):ll call L C (a8+1) M O K V W U Z a0 Y a1 z J a3 a4 a2 a6 a7 a5 q=
 (bC (decide (q<(z:Int)))
 (bL (decide (0≤q∧q<(z:Int)))
 (bu J (Int.toNat q*5+0) fun a9=>bY a9 fun ac=>bC (decide (((ByteArray.size ac):Int)>60))
 (some (D.bool false))
 (bL (decide (0≤q∧q<(z:Int)))
 (bu J (Int.toNat q*5+1) fun aa=>bY aa fun ad=>bC (decide (((ByteArray.size ad):Int)>60))
 (some (D.bool false))
 (bL (decide (0≤q∧q<(z:Int)))
 (bu J (Int.toNat q*5+3+1) fun ab=>bY ab fun ae=>bC (decide (((ByteArray.size ae):Int)>60))
 (some (D.bool false))
 (ll call L C a8 M O K V W U Z a0 Y a1 z J a3 a4 a2 a6 a7 a5 (IntKind.wrap .i64 (q+1)))))))))
 (lk call L C L M O K V W U Z a0 Y a1 z J a3 a4 a2 a6 a7 a5 0)):=by kernel_rfl
theorem rP(call:CL)(L:Nat)(C:Nat→Nat)(a8:Nat)(M:Bool)(O:Nat)(K:List D)(U:Bool)(z:Nat)(J:List D)(W:Bool)(Y:Nat)(V:List D)(a0:Bool)(a1:Nat)(Z:List D)(a3:Bool)(a4:Nat)(a2:List D)(a6:Bool)(a7:Nat)(a5:List D)(q:Int):lm call L C (a8+1) M O K U z J W Y V a0 a1 Z a3 a4 a2 a6 a7 a5 q=
 (bC (decide (q<(z:Int)))
 (bL (decide (0≤q∧q<(z:Int)))
 (bu J (Int.toNat q*3+0) fun a9=>bY a9 fun ab=>bC (decide (((ByteArray.size ab):Int)>60))
 (some (D.bool false))
 (bL (decide (0≤q∧q<(z:Int)))
 (bu J (Int.toNat q*3+1) fun aa=>bY aa fun ac=>bC (decide (((ByteArray.size ac):Int)>60))
 (some (D.bool false))
 (lm call L C a8 M O K U z J W Y V a0 a1 Z a3 a4 a2 a6 a7 a5 (IntKind.wrap .i64 (q+1)))))))
 (ll call L C L M O K U z J W Y V a0 a1 Z a3 a4 a2 a6 a7 a5 0)):=by kernel_rfl
theorem uc(call:CL)(L:Nat)(C:Nat→Nat)(a7:Nat)(J:Bool)(q:Nat)(z:List D)(M:Bool)(O:Nat)(K:List D)(V:Bool)(W:Nat)(U:List D)(Z:Bool)(a0:Nat)(Y:List D)(a2:Bool)(a3:Nat)(a1:List D)(a5:Bool)(a6:Nat)(a4:List D)(vi:Int):vE call L C (a7+1) J q z M O K V W U Z a0 Y a2 a3 a1 a5 a6 a4 vi=
 (bC (decide (vi<(q:Int)))
 (bL (decide (0≤vi∧vi<(q:Int)))
 (bu z (Int.toNat vi*1) fun d=>bY d fun s=>bC (decide (((ByteArray.size s):Int)>60))
 (some (D.bool false))
 (vE call L C a7 J q z M O K V W U Z a0 Y a2 a3 a1 a5 a6 a4 (IntKind.wrap .i64 (vi+1)))))
 (lm call L C L J q z M O K V W U Z a0 Y a2 a3 a1 a5 a6 a4 0)):=by kernel_rfl
theorem DY(call:CL)(L:Nat)(C:Nat→Nat)(z:Bool)(J:Nat)(q:List D)(M:Bool)(O:Nat)(K:List D)(V:Bool)(W:Nat)(U:List D)(Z:Bool)(a0:Nat)(Y:List D)(a2:Bool)(a3:Nat)(a1:List D)(a5:Bool)(a6:Nat)(a4:List D)(hC:∀t,C t=1):AI call L C z J q M O K V W U Z a0 Y a2 a3 a1 a5 a6 a4=
 (vE call L C L z J q M O K V W U Z a0 Y a2 a3 a1 a5 a6 a4 0):=by
 unfold AI;rw[hC]
 kernel_rfl
theorem Kf(call:CL)(L:Nat)(C:Nat→Nat)(V:Bool)(q:Nat)(U:List D)(Y:Bool)(z:Nat)(W:List D)(a0:Bool)(J:Nat)(Z:List D)(a2:Bool)(K:Nat)(a1:List D)(a4:Bool)(M:Nat)(a3:List D)(a6:Bool)(O:Nat)(a5:List D):bS (cD call L C) O0 HL FinM.canon Tryz.f14 [D.agg [D.slc V q U,D.slc Y z W,D.slc a0 J Z,D.slc a2 K a1,D.slc a4 M a3,D.slc a6 O a5]]=
 (bG (call 75 [D.int .i64 (q:Int),D.int .i64 6,D.int .i64 256]) fun r=>bW r fun b=>bC (!b)
 (some (D.bool false))
 (bG (call 75 [D.int .i64 (z:Int),D.int .i64 6,D.int .i64 200]) fun ab=>bW ab fun a7=>bC (!a7)
 (some (D.bool false))
 (bC (decide ((J:Int)>39))
 (some (D.bool false))
 (bG (call 75 [D.int .i64 (K:Int),D.int .i64 30,D.int .i64 1000]) fun ac=>bW ac fun a8=>bC (!a8)
 (some (D.bool false))
 (bG (call 75 [D.int .i64 (M:Int),D.int .i64 8,D.int .i64 200]) fun ad=>bW ad fun a9=>bC (!a9)
 (some (D.bool false))
 (bG (call 75 [D.int .i64 (O:Int),D.int .i64 4,D.int .i64 256]) fun ae=>bW ae fun aa=>bC (!aa)
 (some (D.bool false))
 (AI call L C V q U Y z W a0 J Z a2 K a1 a4 M a3 a6 O a5))))))):=by kernel_rfl
end Go.Pd
end
