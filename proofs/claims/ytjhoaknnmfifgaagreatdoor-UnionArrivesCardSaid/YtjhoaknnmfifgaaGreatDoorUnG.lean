import Derived.Test.YtjhoaknnmfifgaaGreatDoorUnA
import Derived.KernelRfl
section
namespace Go.Pd
open Go Go.Proofs Go.RowKit Go.Shelf
theorem c1:∀t,C1 t=1:=fun _=>rfl
theorem dE:gX (fun _ _=>none):=fun _ _ _ h=>by cases h
theorem IR{base:FuncId→List D→Option D}(hb:gX base){L:Nat}:EnvOK (ed base L C1).E:=⟨zE hb,(fun _ _ h=>nomatch h),(fun _ _ _ h=>nomatch h),(fun _ _ hi=>nomatch hi)⟩
theorem kX{base:FuncId→List D→Option D}(hb:gX base){f:FuncId}{fn:Func}(hf:Tryz.prog.funcs[f]?=some fn){ord:hN}{N:bH}(hok:jj Tryz.prog ord fn=true){ds:List D}{r:D}
  (he:ct (ed base LL C1) ord N .canon fn ds=some r):bV f ds r:=
 lI (Te:=ed base LL C1) jJ (IR hb) (fun _ _ _ h=>by cases h) rfl (fun _ _ _ h=>by cases h) hf (by simp) hok he
theorem KC{L:Nat}{base:FuncId→List D→Option D}(hb:gX base){f:FuncId}{fn:Func}(hf:Tryz.prog.funcs[f]?=some fn){ord:hN}{N:bH}(hok:jj Tryz.prog ord fn=true){ds:List D}{r:D}
  (he:ct (ed base L C1) ord N .canon fn ds=some r):bV f ds r:=
 lI (Te:=ed base L C1) jJ (IR hb) (fun _ _ _ h=>by cases h) rfl (fun _ _ _ h=>by cases h) hf (by simp) hok he
theorem cv{x:Int}(h: -9223372036854775808≤x∧x≤9223372036854775807):IntKind.wrap .i64 x=x:=IntWalk.i64_in x h
structure Fam where
 f:FuncId
 ι:Type
 a:ι→List D
 r:ι→D
def Fam.Good(F:Fam):Prop:=(∀i,bV F.f (F.a i) (F.r i))∧∀i j,F.a i=F.a j→F.r i=F.r j
def nJ:List Fam→Prop
 |[]=>True
 |F::l=>F.Good∧nJ l
def F2(B:FuncId→List D→Option D):List Fam→Prop
 |[]=>True
 |F::l=>(∀i,B F.f (F.a i)=some (F.r i))∧F2 B l
theorem jO:∀{l:List Fam},nJ l→∀F∈l,F.Good
 |[],_,F,hF=>by cases hF
 |F0::l,h,F,hF=>by
  rcases List.mem_cons.1 hF with rfl|hF
  ·exact h.1
  ·exact jO h.2 F hF
theorem xL{B:FuncId→List D→Option D}:∀{l:List Fam},(∀F∈l,∀i,B F.f (F.a i)=some (F.r i))→F2 B l
 |[],_=>trivial
 |F::_,h=>⟨h F (za4 ..),xL fun e he=>h e (za5 _ he)⟩
open Classical in
noncomputable def Dg(l:List Fam):FuncId→List D→Option D:=fun k ds=>
 if h:∃r,∃F∈l,∃i:F.ι,F.f=k∧F.a i=ds∧F.r i=r then some h.choose else none
theorem Dh{l:List Fam}(h:nJ l):gX (Dg l):=by
 intro k ds r hr;unfold Dg at hr;split at hr
 ·rename_i hx;cases hr;obtain⟨F,hF,i,rfl,rfl,h3⟩:=hx.choose_spec;rw[←h3];exact(jO h F hF).1 i
 ·cases hr
def yL:List FuncId→Bool
 |[]=>true
 |x::l=>l.all (fun y=>x !=y)&&yL l
theorem xM:∀{l:List Fam},yL (l.map Fam.f)=true→∀F∈l,∀F'∈l,F.f=F'.f→F=F'
 |[],_,F,hF,_,_,_=>by cases hF
 |F0::l,h,F,hF,F',hF',he=>by
  simp only[List.map_cons,yL,zc2,zd4,ze1,ne_eq] at h;have key:∀G∈l,F0.f≠G.f:=fun G hG=>h.1 G.f (List.mem_map.2 ⟨G,hG,rfl⟩);rcases List.mem_cons.1 hF with h1|h1
  ·rcases List.mem_cons.1 hF' with h2|h2
   ·rw[h1,h2]
   ·exact absurd (h1▸he) (key F' h2)
  ·rcases List.mem_cons.1 hF' with h2|h2
   ·exact absurd (h2▸he).symm (key F h1)
   ·exact xM h.2 F h1 F' h2 he
theorem uR(l:List Fam)(h:nJ l)(hn:yL (l.map Fam.f)=true):∃B,gX B∧F2 B l:=by
 refine⟨Dg l,Dh h,xL fun F hF i=> ?_⟩;obtain⟨_,h2⟩:=jO h F hF;have hx:∃r,∃F'∈l,∃j:F'.ι,F'.f=F.f∧F'.a j=F.a i∧F'.r j=r:=⟨F.r i,F,hF,i,rfl,rfl,rfl⟩;unfold Dg;rw[dif_pos hx];obtain⟨F',hF',j,h4,h5,h6⟩:=hx.choose_spec;obtain rfl:=xM hn F' hF' F hF h4;rw[←h6,h2 j i h5]
def one(f:FuncId)(ds:List D)(r:D):Fam:=⟨f,Unit,fun _=>ds,fun _=>r⟩
theorem eh{f:FuncId}{ds:List D}{r:D}(h:bV f ds r):(one f ds r).Good:=⟨fun _=>h,fun _ _ _=>rfl⟩
end Go.Pd
end
section
namespace Go.Pd
open Go Go.Proofs
set_option maxRecDepth 100000
def GJ:bH:=fun p=>match p with
 |7=>nm [0] [] []
 |58=>nm [0,3] [] []
 |467=>nm [0,3] [] []
 |3731=>nm [0,3,4,5] [] []
 |_=>none
noncomputable def iY(h:FuncId→List D→Option D)(L:Nat)(C:Nat→Nat)(z:Nat)(vs:ByteArray)(B:Int):Option D:=
 kw (ed h L C) O0 GJ FinM.canon Tryz.f80 (bt 8 203) [z] (C 467) (St.mk (D.str vs::J::J::D.int .i64 B::jn 52 []) (zn 56 []))
noncomputable def fM(h:FuncId→List D→Option D)(L:Nat)(C:Nat→Nat)(z:Nat)(vs:ByteArray)(K B:Int)(M:Bool):Option D:=
 kw (ed h L C) O0 GJ FinM.canon Tryz.f80 (bt 11 1611) [z] (C 3731) (St.mk (D.str vs::J::J::D.int .i64 K::D.int IntKind.u8 B::D.bool M::jn 50 []) (zn 56 []))
noncomputable def r9(h:FuncId→List D→Option D)(L:Nat)(C:Nat→Nat)(z:Nat)(vs:ByteArray)(B:Int):Option D:=
 ec (ed h L C) O0 GJ FinM.canon Tryz.f80 (bt 5 11) [] z (St.mk (D.str vs::J::J::D.int .i64 B::jn 52 []) (zn 56 []))
noncomputable def Bo(h:FuncId→List D→Option D)(L:Nat)(C:Nat→Nat)(vs:ByteArray):Option D:=
 kw (ed h L C) O0 GJ FinM.canon Tryz.f80 [true,true] [] (C 7) (St.mk (D.str vs::jn 55 []) (zn 56 []))
theorem wA(h:FuncId→List D→Option D)(L:Nat)(C:Nat→Nat)(z:Nat)(vs:ByteArray)(B:Int)(hC:∀t,C t=1):iY h L C z vs B=
 (r9 h L C z vs (IntKind.wrap .i64 (B+1))):=by
 unfold iY;rw[hC]
 kernel_rfl
theorem ut(z:FuncId→List D→Option D)(L:Nat)(C:Nat→Nat)(B:Nat)(vs:ByteArray)(h J:Int)(K:Bool)(hC:∀t,C t=1):fM z L C B vs h J K=
 (bB (!K)
 (bB (h==0)
 (some (D.bool false))
 (bB (decide (J≥48))
 (bB (decide (J≤57))
 (iY z L C B vs h)
 (bB (!J==95)
 (some (D.bool false))
 (iY z L C B vs h)))
 (bB (!J==95)
 (some (D.bool false))
 (iY z L C B vs h))))
 (iY z L C B vs h)):=by
 unfold fM;rw[hC]
 kernel_rfl
theorem qO(z:FuncId→List D→Option D)(L:Nat)(C:Nat→Nat)(B:Nat)(vs:ByteArray)(h:Int):r9 z L C (B+1) vs h=
 (bB (decide (h<((ByteArray.size vs):Int)))
 (bT (decide (0≤h∧Int.toNat h<ByteArray.size vs))
 (bB (decide (cz vs (Int.toNat h)≥97))
 (bB (decide (cz vs (Int.toNat h)≤122))
 (fM z L C B vs h (cz vs (Int.toNat h)) true)
 (bB (decide (cz vs (Int.toNat h)≥65))
 (fM z L C B vs h (cz vs (Int.toNat h)) (decide (cz vs (Int.toNat h)≤90)))
 (fM z L C B vs h (cz vs (Int.toNat h)) false)))
 (bB (decide (cz vs (Int.toNat h)≥65))
 (fM z L C B vs h (cz vs (Int.toNat h)) (decide (cz vs (Int.toNat h)≤90)))
 (fM z L C B vs h (cz vs (Int.toNat h)) false))))
 (some (D.bool true))):=by kernel_rfl
theorem Bp(h:FuncId→List D→Option D)(L:Nat)(C:Nat→Nat)(vs:ByteArray)(hC:∀t,C t=1):Bo h L C vs=
 (r9 h L C L vs 0):=by
 unfold Bo;rw[hC]
 kernel_rfl
theorem F3(h:FuncId→List D→Option D)(L:Nat)(C:Nat→Nat)(vs:ByteArray):ct (ed h L C) O0 GJ FinM.canon Tryz.f80 [D.str vs]=
 (bB (decide (((ByteArray.size vs):Int)<1))
 (some (D.bool false))
 (bB (decide (((ByteArray.size vs):Int)>24))
 (some (D.bool false))
 (Bo h L C vs))):=by kernel_rfl
def KD:bH:=fun p=>match p with
 |26=>nm [5,6,7] [] []
 |_=>none
noncomputable def sd(h:FuncId→List D→Option D)(L:Nat)(C:Nat→Nat)(n:Nat)(K:Bool)(M:Nat)(J:List D)(z B:Int):Option D:=
 ec (ed h L C) O0 KD FinM.canon Tryz.f87 [true,false,true,false] [] n (St.mk (jn 5 (D.slc K M J::D.int .i64 z::D.int .i64 B::jn 7 [])) (zn 15 []))
theorem qP(K:FuncId→List D→Option D)(L:Nat)(C:Nat→Nat)(n:Nat)(M:Bool)(J:Nat)(B:List D)(z h:Int):sd K L C (n+1) M J B z h=
 (bB (decide (h<z))
 (bT (decide (0≤h∧h<(J:Int)))
 (bi B (Int.toNat h*1) fun d=>bC .i64 d fun x=>bB (x !=0)
 (some (D.int .i64 x))
 (sd K L C n M J B z (IntKind.wrap .i64 (h+1)))))
 (some (D.int .i64 0))):=by kernel_rfl
theorem F4(z:FuncId→List D→Option D)(L:Nat)(C:Nat→Nat)(J:Bool)(h:Nat)(B:List D):ct (ed z L C) O0 KD FinM.canon Tryz.f87 [D.slc J h B]=
 (sd z L C L J h B ((h:Int)) 0):=by kernel_rfl
def F5:bH:=fun p=>match p with
 |26=>nm [0,6] [] [6]
 |_=>none
noncomputable def j5(h:FuncId→List D→Option D)(L:Nat)(C:Nat→Nat)(n:Nat)(vs:ByteArray)(z:Nat):Option D:=
 ec (ed h L C) O0 F5 FinM.canon Tryz.f111 [true,false,true,false] [] n (St.mk (D.str vs::jn 5 (D.loc 6 0 0::jn 30 [])) (zn 6 ((1,some (Ob.sit vs z))::zn 30 [])))
theorem oY(z:FuncId→List D→Option D)(L:Nat)(C:Nat→Nat)(n:Nat)(vs:ByteArray)(h:Nat):j5 z L C (n+1) vs h=
 (bB (decide (h<ByteArray.size vs))
 (bL (z 167 [D.int IntKind.i32 (((Prod.fst (Utf8.decode vs h)):Nat):Int)]) fun r=>cG r fun b=>bB (!b)
 (bB ((h:Int)==0)
 (some (D.bool false))
 (bB ((((Prod.fst (Utf8.decode vs h)):Nat):Int) !=95)
 (bB (decide ((((Prod.fst (Utf8.decode vs h)):Nat):Int)<48))
 (some (D.bool false))
 (bB (decide ((((Prod.fst (Utf8.decode vs h)):Nat):Int)>57))
 (some (D.bool false))
 (j5 z L C n vs (h+Prod.snd (Utf8.decode vs h)))))
 (j5 z L C n vs (h+Prod.snd (Utf8.decode vs h)))))
 (j5 z L C n vs (h+Prod.snd (Utf8.decode vs h))))
 (bB (!ByteArray.toList vs==ByteArray.toList (ByteArray.mk #[]))
 (some (D.bool (decide (((ByteArray.size vs):Int)≤24))))
 (some (D.bool false)))):=by kernel_rfl
theorem Di(h:FuncId→List D→Option D)(L:Nat)(C:Nat→Nat)(vs:ByteArray):ct (ed h L C) O0 F5 FinM.canon Tryz.f111 [D.str vs]=
 (j5 h L C L vs 0):=by kernel_rfl
theorem Dj(J:FuncId→List D→Option D)(L:Nat)(C:Nat→Nat)(h z B:Int):ct (ed J L C) O0 N0 FinM.canon Tryz.f118 [D.int .i64 h,D.int .i64 z,D.int .i64 B]=
 (bB (decide (h<z))
 (some (D.bool true))
 (some (D.bool (decide (h>B))))):=by kernel_rfl
theorem Dk(B:FuncId→List D→Option D)(L:Nat)(C:Nat→Nat)(z:Bool)(h:Int):ct (ed B L C) O0 N0 FinM.canon Tryz.f119 [D.bool z,D.int .i64 h]=
 (bB z
 (some (D.int .i64 h))
 (some (D.int .i64 0))):=by kernel_rfl
theorem Dl(B:FuncId→List D→Option D)(L:Nat)(C:Nat→Nat)(h:Int)(z:ByteArray):ct (ed B L C) O0 N0 FinM.canon Tryz.f145 [D.agg [D.int .i64 h,D.str z]]=
 (bB (ByteArray.toList z==ByteArray.toList (ByteArray.mk #[]))
 (bB (decide (h<1))
 (some (D.int .i64 3))
 (bB (decide (h>99))
 (some (D.int .i64 3))
 (some (D.int .i64 0))))
 (bB (ByteArray.toList z==ByteArray.toList (ByteArray.mk #[99]))
 (bB (decide (h<1))
 (some (D.int .i64 3))
 (bB (decide (h>99))
 (some (D.int .i64 3))
 (some (D.int .i64 0))))
 (bB (ByteArray.toList z==ByteArray.toList (ByteArray.mk #[120]))
 (bB (h !=0)
 (some (D.int .i64 3))
 (some (D.int .i64 0)))
 (bB (ByteArray.toList z==ByteArray.toList (ByteArray.mk #[45]))
 (bB (h !=0)
 (some (D.int .i64 3))
 (some (D.int .i64 0)))
 (some (D.int .i64 13)))))):=by kernel_rfl
theorem Dm(h:FuncId→List D→Option D)(L:Nat)(C:Nat→Nat)(z:Int)(B:ByteArray):ct (ed h L C) O0 N0 FinM.canon Tryz.f147 [D.agg [D.int .i64 z,D.str B]]=
 (bL (h 218 [D.agg [D.int .i64 z,D.str B]]) fun r=>cG r fun b=>bB b
 (bL (h 118 [D.int .i64 z,D.int .i64 1,D.int .i64 99]) fun K=>cG K fun J=>bL (h 119 [D.bool J,D.int .i64 3]) fun M=>bC .i64 M fun x=>some (D.int .i64 x))
 (bB (ByteArray.toList B==ByteArray.toList (ByteArray.mk #[120]))
 (bL (h 119 [D.bool (z !=0),D.int .i64 3]) fun O=>bC .i64 O fun U=>some (D.int .i64 U))
 (bB (ByteArray.toList B==ByteArray.toList (ByteArray.mk #[45]))
 (bL (h 119 [D.bool (z !=0),D.int .i64 3]) fun S=>bC .i64 S fun V=>some (D.int .i64 V))
 (some (D.int .i64 13))))):=by kernel_rfl
theorem Dn(z:FuncId→List D→Option D)(L:Nat)(C:Nat→Nat)(h:Int):ct (ed z L C) O0 N0 FinM.canon Tryz.f167 [D.int IntKind.i32 h]=
 (bB (decide (h≥97))
 (bB (decide (h≤122))
 (some (D.bool true))
 (bB (decide (h≥65))
 (some (D.bool (decide (h≤90))))
 (some (D.bool false))))
 (bB (decide (h≥65))
 (some (D.bool (decide (h≤90))))
 (some (D.bool false)))):=by kernel_rfl
theorem Do(z:FuncId→List D→Option D)(L:Nat)(C:Nat→Nat)(B:Int)(h:ByteArray):ct (ed z L C) O0 N0 FinM.canon Tryz.f218 [D.agg [D.int .i64 B,D.str h]]=
 (bB (ByteArray.toList h==ByteArray.toList (ByteArray.mk #[]))
 (some (D.bool true))
 (some (D.bool (ByteArray.toList h==ByteArray.toList (ByteArray.mk #[99]))))):=by kernel_rfl
end Go.Pd
end
