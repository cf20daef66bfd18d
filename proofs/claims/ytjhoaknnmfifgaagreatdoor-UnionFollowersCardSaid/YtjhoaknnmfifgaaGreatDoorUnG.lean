import Derived.Test.YtjhoaknnmfifgaaGreatDoorUnA
import Derived.KernelRfl
section
namespace Go.Pd
open Go Go.Proofs Go.RowKit Go.Shelf
theorem c1:∀t,C1 t=1:=fun _=>rfl
theorem dA:hU (fun _ _=>none):=fun _ _ _ h=>by cases h
theorem H5{base:FuncId→List D→Option D}(hb:hU base){L:Nat}:EnvOK (dS base L C1).E:=⟨zr hb,(fun _ _ h=>nomatch h),(fun _ _ _ h=>nomatch h),(fun _ _ hi=>nomatch hi)⟩
theorem jY{base:FuncId→List D→Option D}(hb:hU base){f:FuncId}{fn:Func}(hf:Tryz.prog.funcs[f]?=some fn){ord:ik}{N:bR}(hok:jt Tryz.prog ord fn=true){ds:List D}{r:D}
  (he:cv (dS base LL C1) ord N .canon fn ds=some r):ci f ds r:=
 lI (Te:=dS base LL C1) jT (H5 hb) (fun _ _ _ h=>by cases h) rfl (fun _ _ _ h=>by cases h) hf (by simp) hok he
theorem H6{L:Nat}{base:FuncId→List D→Option D}(hb:hU base){f:FuncId}{fn:Func}(hf:Tryz.prog.funcs[f]?=some fn){ord:ik}{N:bR}(hok:jt Tryz.prog ord fn=true){ds:List D}{r:D}
  (he:cv (dS base L C1) ord N .canon fn ds=some r):ci f ds r:=
 lI (Te:=dS base L C1) jT (H5 hb) (fun _ _ _ h=>by cases h) rfl (fun _ _ _ h=>by cases h) hf (by simp) hok he
theorem c6{x:Int}(h: -9223372036854775808≤x∧x≤9223372036854775807):IntKind.wrap .i64 x=x:=IntWalk.i64_in x h
structure Fam where
 f:FuncId
 ι:Type
 a:ι→List D
 r:ι→D
def Fam.Good(F:Fam):Prop:=(∀i,ci F.f (F.a i) (F.r i))∧∀i j,F.a i=F.a j→F.r i=F.r j
def nD:List Fam→Prop
 |[]=>True
 |F::l=>F.Good∧nD l
def Fh(B:FuncId→List D→Option D):List Fam→Prop
 |[]=>True
 |F::l=>(∀i,B F.f (F.a i)=some (F.r i))∧Fh B l
theorem jZ:∀{l:List Fam},nD l→∀F∈l,F.Good
 |[],_,F,hF=>by cases hF
 |F0::l,h,F,hF=>by
  rcases List.mem_cons.1 hF with rfl|hF
  ·exact h.1
  ·exact jZ h.2 F hF
theorem xS{B:FuncId→List D→Option D}:∀{l:List Fam},(∀F∈l,∀i,B F.f (F.a i)=some (F.r i))→Fh B l
 |[],_=>trivial
 |F::_,h=>⟨h F (za4 ..),xS fun e he=>h e (za5 _ he)⟩
open Classical in
noncomputable def CM(l:List Fam):FuncId→List D→Option D:=fun k ds=>
 if h:∃r,∃F∈l,∃i:F.ι,F.f=k∧F.a i=ds∧F.r i=r then some h.choose else none
theorem CN{l:List Fam}(h:nD l):hU (CM l):=by
 intro k ds r hr;unfold CM at hr;split at hr
 ·rename_i hx;cases hr;obtain⟨F,hF,i,rfl,rfl,h3⟩:=hx.choose_spec;rw[←h3];exact(jZ h F hF).1 i
 ·cases hr
def wK:List FuncId→Bool
 |[]=>true
 |x::l=>l.all (fun y=>x !=y)&&wK l
theorem xT:∀{l:List Fam},wK (l.map Fam.f)=true→∀F∈l,∀F'∈l,F.f=F'.f→F=F'
 |[],_,F,hF,_,_,_=>by cases hF
 |F0::l,h,F,hF,F',hF',he=>by
  simp only[List.map_cons,wK,zc1,zd3,zd9,ne_eq] at h;have key:∀G∈l,F0.f≠G.f:=fun G hG=>h.1 G.f (List.mem_map.2 ⟨G,hG,rfl⟩);rcases List.mem_cons.1 hF with h1|h1
  ·rcases List.mem_cons.1 hF' with h2|h2
   ·rw[h1,h2]
   ·exact absurd (h1▸he) (key F' h2)
  ·rcases List.mem_cons.1 hF' with h2|h2
   ·exact absurd (h2▸he).symm (key F h1)
   ·exact xT h.2 F h1 F' h2 he
theorem sr(l:List Fam)(h:nD l)(hn:wK (l.map Fam.f)=true):∃B,hU B∧Fh B l:=by
 refine⟨CM l,CN h,xS fun F hF i=> ?_⟩;obtain⟨_,h2⟩:=jZ h F hF;have hx:∃r,∃F'∈l,∃j:F'.ι,F'.f=F.f∧F'.a j=F.a i∧F'.r j=r:=⟨F.r i,F,hF,i,rfl,rfl,rfl⟩;unfold CM;rw[dif_pos hx];obtain⟨F',hF',j,h4,h5,h6⟩:=hx.choose_spec;obtain rfl:=xT hn F' hF' F hF h4;rw[←h6,h2 j i h5]
def one(f:FuncId)(ds:List D)(r:D):Fam:=⟨f,Unit,fun _=>ds,fun _=>r⟩
theorem cP{f:FuncId}{ds:List D}{r:D}(h:ci f ds r):(one f ds r).Good:=⟨fun _=>h,fun _ _ _=>rfl⟩
end Go.Pd
end
section
namespace Go.Pd
open Go Go.Proofs
set_option maxRecDepth 100000
def FX:bR:=fun p=>match p with
 |7=>nm [0] [] []
 |58=>nm [0,3] [] []
 |467=>nm [0,3] [] []
 |3731=>nm [0,3,4,5] [] []
 |_=>none
noncomputable def jd(h:FuncId→List D→Option D)(L:Nat)(C:Nat→Nat)(z:Nat)(vs:ByteArray)(B:Int):Option D:=
 gA (dS h L C) O0 FX FinM.canon Tryz.f80 (bt 8 203) [z] (C 467) (St.mk (D.str vs::J::J::D.int .i64 B::jn 52 []) (zn 56 []))
noncomputable def fW(h:FuncId→List D→Option D)(L:Nat)(C:Nat→Nat)(z:Nat)(vs:ByteArray)(K B:Int)(M:Bool):Option D:=
 gA (dS h L C) O0 FX FinM.canon Tryz.f80 (bt 11 1611) [z] (C 3731) (St.mk (D.str vs::J::J::D.int .i64 K::D.int IntKind.u8 B::D.bool M::jn 50 []) (zn 56 []))
noncomputable def su(h:FuncId→List D→Option D)(L:Nat)(C:Nat→Nat)(z:Nat)(vs:ByteArray)(B:Int):Option D:=
 dW (dS h L C) O0 FX FinM.canon Tryz.f80 (bt 5 11) [] z (St.mk (D.str vs::J::J::D.int .i64 B::jn 52 []) (zn 56 []))
noncomputable def Bb(h:FuncId→List D→Option D)(L:Nat)(C:Nat→Nat)(vs:ByteArray):Option D:=
 gA (dS h L C) O0 FX FinM.canon Tryz.f80 [true,true] [] (C 7) (St.mk (D.str vs::jn 55 []) (zn 56 []))
theorem wL(h:FuncId→List D→Option D)(L:Nat)(C:Nat→Nat)(z:Nat)(vs:ByteArray)(B:Int)(hC:∀t,C t=1):jd h L C z vs B=
 (su h L C z vs (IntKind.wrap .i64 (B+1))):=by
 unfold jd;rw[hC]
 kernel_rfl
theorem uA(z:FuncId→List D→Option D)(L:Nat)(C:Nat→Nat)(B:Nat)(vs:ByteArray)(h J:Int)(K:Bool)(hC:∀t,C t=1):fW z L C B vs h J K=
 (bG (!K)
 (bG (h==0)
 (some (D.bool false))
 (bG (decide (J≥48))
 (bG (decide (J≤57))
 (jd z L C B vs h)
 (bG (!J==95)
 (some (D.bool false))
 (jd z L C B vs h)))
 (bG (!J==95)
 (some (D.bool false))
 (jd z L C B vs h))))
 (jd z L C B vs h)):=by
 unfold fW;rw[hC]
 kernel_rfl
theorem qR(z:FuncId→List D→Option D)(L:Nat)(C:Nat→Nat)(B:Nat)(vs:ByteArray)(h:Int):su z L C (B+1) vs h=
 (bG (decide (h<((ByteArray.size vs):Int)))
 (bB (decide (0≤h∧Int.toNat h<ByteArray.size vs))
 (bG (decide (cL vs (Int.toNat h)≥97))
 (bG (decide (cL vs (Int.toNat h)≤122))
 (fW z L C B vs h (cL vs (Int.toNat h)) true)
 (bG (decide (cL vs (Int.toNat h)≥65))
 (fW z L C B vs h (cL vs (Int.toNat h)) (decide (cL vs (Int.toNat h)≤90)))
 (fW z L C B vs h (cL vs (Int.toNat h)) false)))
 (bG (decide (cL vs (Int.toNat h)≥65))
 (fW z L C B vs h (cL vs (Int.toNat h)) (decide (cL vs (Int.toNat h)≤90)))
 (fW z L C B vs h (cL vs (Int.toNat h)) false))))
 (some (D.bool true))):=by kernel_rfl
theorem Bc(h:FuncId→List D→Option D)(L:Nat)(C:Nat→Nat)(vs:ByteArray)(hC:∀t,C t=1):Bb h L C vs=
 (su h L C L vs 0):=by
 unfold Bb;rw[hC]
 kernel_rfl
theorem Fi(h:FuncId→List D→Option D)(L:Nat)(C:Nat→Nat)(vs:ByteArray):cv (dS h L C) O0 FX FinM.canon Tryz.f80 [D.str vs]=
 (bG (decide (((ByteArray.size vs):Int)<1))
 (some (D.bool false))
 (bG (decide (((ByteArray.size vs):Int)>24))
 (some (D.bool false))
 (Bb h L C vs))):=by kernel_rfl
def JR:bR:=fun p=>match p with
 |26=>nm [5,6,7] [] []
 |_=>none
noncomputable def sv(h:FuncId→List D→Option D)(L:Nat)(C:Nat→Nat)(n:Nat)(K:Bool)(M:Nat)(J:List D)(z B:Int):Option D:=
 dW (dS h L C) O0 JR FinM.canon Tryz.f87 [true,false,true,false] [] n (St.mk (jn 5 (D.slc K M J::D.int .i64 z::D.int .i64 B::jn 7 [])) (zn 15 []))
theorem qS(K:FuncId→List D→Option D)(L:Nat)(C:Nat→Nat)(n:Nat)(M:Bool)(J:Nat)(B:List D)(z h:Int):sv K L C (n+1) M J B z h=
 (bG (decide (h<z))
 (bB (decide (0≤h∧h<(J:Int)))
 (br B (Int.toNat h*1) fun d=>bH .i64 d fun x=>bG (x !=0)
 (some (D.int .i64 x))
 (sv K L C n M J B z (IntKind.wrap .i64 (h+1)))))
 (some (D.int .i64 0))):=by kernel_rfl
theorem Fj(z:FuncId→List D→Option D)(L:Nat)(C:Nat→Nat)(J:Bool)(h:Nat)(B:List D):cv (dS z L C) O0 JR FinM.canon Tryz.f87 [D.slc J h B]=
 (sv z L C L J h B ((h:Int)) 0):=by kernel_rfl
def Fk:bR:=fun p=>match p with
 |26=>nm [0,6] [] [6]
 |_=>none
noncomputable def kg(h:FuncId→List D→Option D)(L:Nat)(C:Nat→Nat)(n:Nat)(vs:ByteArray)(z:Nat):Option D:=
 dW (dS h L C) O0 Fk FinM.canon Tryz.f111 [true,false,true,false] [] n (St.mk (D.str vs::jn 5 (D.loc 6 0 0::jn 30 [])) (zn 6 ((1,some (Ob.sit vs z))::zn 30 [])))
theorem pd(z:FuncId→List D→Option D)(L:Nat)(C:Nat→Nat)(n:Nat)(vs:ByteArray)(h:Nat):kg z L C (n+1) vs h=
 (bG (decide (h<ByteArray.size vs))
 (bV (z 167 [D.int IntKind.i32 (((Prod.fst (Utf8.decode vs h)):Nat):Int)]) fun r=>cH r fun b=>bG (!b)
 (bG ((h:Int)==0)
 (some (D.bool false))
 (bG ((((Prod.fst (Utf8.decode vs h)):Nat):Int) !=95)
 (bG (decide ((((Prod.fst (Utf8.decode vs h)):Nat):Int)<48))
 (some (D.bool false))
 (bG (decide ((((Prod.fst (Utf8.decode vs h)):Nat):Int)>57))
 (some (D.bool false))
 (kg z L C n vs (h+Prod.snd (Utf8.decode vs h)))))
 (kg z L C n vs (h+Prod.snd (Utf8.decode vs h)))))
 (kg z L C n vs (h+Prod.snd (Utf8.decode vs h))))
 (bG (!ByteArray.toList vs==ByteArray.toList (ByteArray.mk #[]))
 (some (D.bool (decide (((ByteArray.size vs):Int)≤24))))
 (some (D.bool false)))):=by kernel_rfl
theorem CO(h:FuncId→List D→Option D)(L:Nat)(C:Nat→Nat)(vs:ByteArray):cv (dS h L C) O0 Fk FinM.canon Tryz.f111 [D.str vs]=
 (kg h L C L vs 0):=by kernel_rfl
theorem CP(J:FuncId→List D→Option D)(L:Nat)(C:Nat→Nat)(h z B:Int):cv (dS J L C) O0 N0 FinM.canon Tryz.f118 [D.int .i64 h,D.int .i64 z,D.int .i64 B]=
 (bG (decide (h<z))
 (some (D.bool true))
 (some (D.bool (decide (h>B))))):=by kernel_rfl
theorem CQ(B:FuncId→List D→Option D)(L:Nat)(C:Nat→Nat)(z:Bool)(h:Int):cv (dS B L C) O0 N0 FinM.canon Tryz.f119 [D.bool z,D.int .i64 h]=
 (bG z
 (some (D.int .i64 h))
 (some (D.int .i64 0))):=by kernel_rfl
theorem CR(B:FuncId→List D→Option D)(L:Nat)(C:Nat→Nat)(h:Int)(z:ByteArray):cv (dS B L C) O0 N0 FinM.canon Tryz.f145 [D.agg [D.int .i64 h,D.str z]]=
 (bG (ByteArray.toList z==ByteArray.toList (ByteArray.mk #[]))
 (bG (decide (h<1))
 (some (D.int .i64 3))
 (bG (decide (h>99))
 (some (D.int .i64 3))
 (some (D.int .i64 0))))
 (bG (ByteArray.toList z==ByteArray.toList (ByteArray.mk #[99]))
 (bG (decide (h<1))
 (some (D.int .i64 3))
 (bG (decide (h>99))
 (some (D.int .i64 3))
 (some (D.int .i64 0))))
 (bG (ByteArray.toList z==ByteArray.toList (ByteArray.mk #[120]))
 (bG (h !=0)
 (some (D.int .i64 3))
 (some (D.int .i64 0)))
 (bG (ByteArray.toList z==ByteArray.toList (ByteArray.mk #[45]))
 (bG (h !=0)
 (some (D.int .i64 3))
 (some (D.int .i64 0)))
 (some (D.int .i64 13)))))):=by kernel_rfl
theorem CS(h:FuncId→List D→Option D)(L:Nat)(C:Nat→Nat)(z:Int)(B:ByteArray):cv (dS h L C) O0 N0 FinM.canon Tryz.f147 [D.agg [D.int .i64 z,D.str B]]=
 (bV (h 218 [D.agg [D.int .i64 z,D.str B]]) fun r=>cH r fun b=>bG b
 (bV (h 118 [D.int .i64 z,D.int .i64 1,D.int .i64 99]) fun K=>cH K fun J=>bV (h 119 [D.bool J,D.int .i64 3]) fun M=>bH .i64 M fun x=>some (D.int .i64 x))
 (bG (ByteArray.toList B==ByteArray.toList (ByteArray.mk #[120]))
 (bV (h 119 [D.bool (z !=0),D.int .i64 3]) fun O=>bH .i64 O fun U=>some (D.int .i64 U))
 (bG (ByteArray.toList B==ByteArray.toList (ByteArray.mk #[45]))
 (bV (h 119 [D.bool (z !=0),D.int .i64 3]) fun S=>bH .i64 S fun V=>some (D.int .i64 V))
 (some (D.int .i64 13))))):=by kernel_rfl
theorem CT(z:FuncId→List D→Option D)(L:Nat)(C:Nat→Nat)(h:Int):cv (dS z L C) O0 N0 FinM.canon Tryz.f167 [D.int IntKind.i32 h]=
 (bG (decide (h≥97))
 (bG (decide (h≤122))
 (some (D.bool true))
 (bG (decide (h≥65))
 (some (D.bool (decide (h≤90))))
 (some (D.bool false))))
 (bG (decide (h≥65))
 (some (D.bool (decide (h≤90))))
 (some (D.bool false)))):=by kernel_rfl
theorem CU(z:FuncId→List D→Option D)(L:Nat)(C:Nat→Nat)(B:Int)(h:ByteArray):cv (dS z L C) O0 N0 FinM.canon Tryz.f218 [D.agg [D.int .i64 B,D.str h]]=
 (bG (ByteArray.toList h==ByteArray.toList (ByteArray.mk #[]))
 (some (D.bool true))
 (some (D.bool (ByteArray.toList h==ByteArray.toList (ByteArray.mk #[99]))))):=by kernel_rfl
end Go.Pd
end
