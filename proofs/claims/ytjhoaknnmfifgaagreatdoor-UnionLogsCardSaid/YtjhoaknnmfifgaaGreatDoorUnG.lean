import Derived.Test.YtjhoaknnmfifgaaGreatDoorUnA
import Derived.KernelRfl
section
namespace Go.Pd
open Go Go.Proofs Go.RowKit Go.Shelf
theorem c1:∀t,C1 t=1:=fun _=>rfl
theorem cp:gY (fun _ _=>none):=fun _ _ _ h=>by cases h
theorem Mx{base:FuncId→List D→Option D}(hb:gY base){L:Nat}:EnvOK (cv base L C1).E:=⟨pA hb,(fun _ _ h=>nomatch h),(fun _ _ _ h=>nomatch h),(fun _ _ hi=>nomatch hi)⟩
theorem dG{base:FuncId→List D→Option D}(hb:gY base){f:FuncId}{fn:Func}(hf:Tryz.prog.funcs[f]?=some fn){ord:hZ}{N:bA}(hok:jQ Tryz.prog ord fn=true){ds:List D}{r:D}
  (he:bF (cv base LL C1) ord N .canon fn ds=some r):bR f ds r:=
 eY (Te:=cv base LL C1) fk (Mx hb) (fun _ _ _ h=>by cases h) rfl (fun _ _ _ h=>by cases h) hf (by simp) hok he
theorem Pf{L:Nat}{base:FuncId→List D→Option D}(hb:gY base){f:FuncId}{fn:Func}(hf:Tryz.prog.funcs[f]?=some fn){ord:hZ}{N:bA}(hok:jQ Tryz.prog ord fn=true){ds:List D}{r:D}
  (he:bF (cv base L C1) ord N .canon fn ds=some r):bR f ds r:=
 eY (Te:=cv base L C1) fk (Mx hb) (fun _ _ _ h=>by cases h) rfl (fun _ _ _ h=>by cases h) hf (by simp) hok he
theorem zB{x:Int}(h: -9223372036854775808≤x∧x≤9223372036854775807):IntKind.wrap .i64 x=x:=IntWalk.i64_in x h
structure Fam where
 f:FuncId
 ι:Type
 a:ι→List D
 r:ι→D
def Fam.Good(F:Fam):Prop:=(∀i,bR F.f (F.a i) (F.r i))∧∀i j,F.a i=F.a j→F.r i=F.r j
def oI:List Fam→Prop
 |[]=>True
 |F::l=>F.Good∧oI l
def Jn(B:FuncId→List D→Option D):List Fam→Prop
 |[]=>True
 |F::l=>(∀i,B F.f (F.a i)=some (F.r i))∧Jn B l
theorem j1:∀{l:List Fam},oI l→∀F∈l,F.Good
 |[],_,F,hF=>by cases hF
 |F0::l,h,F,hF=>by
  rcases List.mem_cons.1 hF with rfl|hF
  ·exact h.1
  ·exact j1 h.2 F hF
theorem zC{B:FuncId→List D→Option D}:∀{l:List Fam},(∀F∈l,∀i,B F.f (F.a i)=some (F.r i))→Jn B l
 |[],_=>trivial
 |F::_,h=>⟨h F (za4 ..),zC fun e he=>h e (za5 _ he)⟩
open Classical in
noncomputable def FB(l:List Fam):FuncId→List D→Option D:=fun k ds=>
 if h:∃r,∃F∈l,∃i:F.ι,F.f=k∧F.a i=ds∧F.r i=r then some h.choose else none
theorem FC{l:List Fam}(h:oI l):gY (FB l):=by
 intro k ds r hr;unfold FB at hr;split at hr
 ·rename_i hx;cases hr;obtain⟨F,hF,i,rfl,rfl,h3⟩:=hx.choose_spec;rw[←h3];exact(j1 h F hF).1 i
 ·cases hr
def FD:List FuncId→Bool
 |[]=>true
 |x::l=>l.all (fun y=>x !=y)&&FD l
theorem zD:∀{l:List Fam},FD (l.map Fam.f)=true→∀F∈l,∀F'∈l,F.f=F'.f→F=F'
 |[],_,F,hF,_,_,_=>by cases hF
 |F0::l,h,F,hF,F',hF',he=>by
  simp only[List.map_cons,FD,zc4,zd7,ze5,ne_eq] at h;have key:∀G∈l,F0.f≠G.f:=fun G hG=>h.1 G.f (zd6.2 ⟨G,hG,rfl⟩);rcases List.mem_cons.1 hF with h1|h1
  ·rcases List.mem_cons.1 hF' with h2|h2
   ·rw[h1,h2]
   ·exact absurd (h1▸he) (key F' h2)
  ·rcases List.mem_cons.1 hF' with h2|h2
   ·exact absurd (h2▸he).symm (key F h1)
   ·exact zD h.2 F h1 F' h2 he
theorem eL(l:List Fam)(h:oI l)(hn:FD (l.map Fam.f)=true):∃B,gY B∧Jn B l:=by
 refine⟨FB l,FC h,zC fun F hF i=> ?_⟩;obtain⟨_,h2⟩:=j1 h F hF;have hx:∃r,∃F'∈l,∃j:F'.ι,F'.f=F.f∧F'.a j=F.a i∧F'.r j=r:=⟨F.r i,F,hF,i,rfl,rfl,rfl⟩;unfold FB;rw[dif_pos hx];obtain⟨F',hF',j,h4,h5,h6⟩:=hx.choose_spec;obtain rfl:=zD hn F' hF' F hF h4;rw[←h6,h2 j i h5]
def one(f:FuncId)(ds:List D)(r:D):Fam:=⟨f,Unit,fun _=>ds,fun _=>r⟩
theorem bg{f:FuncId}{ds:List D}{r:D}(h:bR f ds r):(one f ds r).Good:=⟨fun _=>h,fun _ _ _=>rfl⟩
end Go.Pd
end
section
namespace Go.Pd
open Go Go.Proofs
set_option maxRecDepth 100000
def KA:bA:=fun p=>match p with
 |7=>nm [0] [] []
 |58=>nm [0,3] [] []
 |467=>nm [0,3] [] []
 |3731=>nm [0,3,4,5] [] []
 |_=>none
noncomputable def jf(h:FuncId→List D→Option D)(L:Nat)(C:Nat→Nat)(j:Nat)(vs:ByteArray)(q:Int):Option D:=
 d9 (cv h L C) O0 KA FinM.canon Tryz.f80 (bt 8 203) [j] (C 467) (St.mk (D.str vs::J::J::D.int .i64 q::jn 52 []) (zn 56 []))
noncomputable def fI(h:FuncId→List D→Option D)(L:Nat)(C:Nat→Nat)(j:Nat)(vs:ByteArray)(q vc:Int)(r:Bool):Option D:=
 d9 (cv h L C) O0 KA FinM.canon Tryz.f80 (bt 11 1611) [j] (C 3731) (St.mk (D.str vs::J::J::D.int .i64 q::D.int IntKind.u8 vc::D.bool r::jn 50 []) (zn 56 []))
noncomputable def t7(h:FuncId→List D→Option D)(L:Nat)(C:Nat→Nat)(j:Nat)(vs:ByteArray)(q:Int):Option D:=
 bY (cv h L C) O0 KA FinM.canon Tryz.f80 (bt 5 11) [] j (St.mk (D.str vs::J::J::D.int .i64 q::jn 52 []) (zn 56 []))
noncomputable def Do(h:FuncId→List D→Option D)(L:Nat)(C:Nat→Nat)(vs:ByteArray):Option D:=
 d9 (cv h L C) O0 KA FinM.canon Tryz.f80 [true,true] [] (C 7) (St.mk (D.str vs::jn 55 []) (zn 56 []))
theorem yu(h:FuncId→List D→Option D)(L:Nat)(C:Nat→Nat)(j:Nat)(vs:ByteArray)(q:Int)(hC:∀t,C t=1):jf h L C j vs q=
 (t7 h L C j vs (IntKind.wrap .i64 (q+1))):=by
 unfold jf;rw[hC]
 kernel_rfl
theorem wB(j:FuncId→List D→Option D)(L:Nat)(C:Nat→Nat)(q:Nat)(vs:ByteArray)(h vc:Int)(r:Bool)(hC:∀t,C t=1):fI j L C q vs h vc r=
 (bo (!r)
 (bo (h==0)
 (some (D.bool false))
 (bo (decide (vc≥48))
 (bo (decide (vc≤57))
 (jf j L C q vs h)
 (bo (!vc==95)
 (some (D.bool false))
 (jf j L C q vs h)))
 (bo (!vc==95)
 (some (D.bool false))
 (jf j L C q vs h))))
 (jf j L C q vs h)):=by
 unfold fI;rw[hC]
 kernel_rfl
theorem sN(j:FuncId→List D→Option D)(L:Nat)(C:Nat→Nat)(q:Nat)(vs:ByteArray)(h:Int):t7 j L C (q+1) vs h=
 (bo (decide (h<((ByteArray.size vs):Int)))
 (bu (decide (0≤h∧Int.toNat h<ByteArray.size vs))
 (bo (decide (bB vs (Int.toNat h)≥97))
 (bo (decide (bB vs (Int.toNat h)≤122))
 (fI j L C q vs h (bB vs (Int.toNat h)) true)
 (bo (decide (bB vs (Int.toNat h)≥65))
 (fI j L C q vs h (bB vs (Int.toNat h)) (decide (bB vs (Int.toNat h)≤90)))
 (fI j L C q vs h (bB vs (Int.toNat h)) false)))
 (bo (decide (bB vs (Int.toNat h)≥65))
 (fI j L C q vs h (bB vs (Int.toNat h)) (decide (bB vs (Int.toNat h)≤90)))
 (fI j L C q vs h (bB vs (Int.toNat h)) false))))
 (some (D.bool true))):=by kernel_rfl
theorem Dp(h:FuncId→List D→Option D)(L:Nat)(C:Nat→Nat)(vs:ByteArray)(hC:∀t,C t=1):Do h L C vs=
 (t7 h L C L vs 0):=by
 unfold Do;rw[hC]
 kernel_rfl
theorem Jo(h:FuncId→List D→Option D)(L:Nat)(C:Nat→Nat)(vs:ByteArray):bF (cv h L C) O0 KA FinM.canon Tryz.f80 [D.str vs]=
 (bo (decide (((ByteArray.size vs):Int)<1))
 (some (D.bool false))
 (bo (decide (((ByteArray.size vs):Int)>24))
 (some (D.bool false))
 (Do h L C vs))):=by kernel_rfl
def Pg:bA:=fun p=>match p with
 |26=>nm [5,6,7] [] []
 |_=>none
noncomputable def t8(h:FuncId→List D→Option D)(L:Nat)(C:Nat→Nat)(n:Nat)(z:Bool)(J:Nat)(r:List D)(j q:Int):Option D:=
 bY (cv h L C) O0 Pg FinM.canon Tryz.f87 [true,false,true,false] [] n (St.mk (jn 5 (D.slc z J r::D.int .i64 j::D.int .i64 q::jn 7 [])) (zn 15 []))
theorem sO(z:FuncId→List D→Option D)(L:Nat)(C:Nat→Nat)(n:Nat)(J:Bool)(r:Nat)(q:List D)(j h:Int):t8 z L C (n+1) J r q j h=
 (bo (decide (h<j))
 (bu (decide (0≤h∧h<(r:Int)))
 (bc q (Int.toNat h*1) fun d=>bw .i64 d fun x=>bo (x !=0)
 (some (D.int .i64 x))
 (t8 z L C n J r q j (IntKind.wrap .i64 (h+1)))))
 (some (D.int .i64 0))):=by kernel_rfl
theorem Jp(j:FuncId→List D→Option D)(L:Nat)(C:Nat→Nat)(r:Bool)(h:Nat)(q:List D):bF (cv j L C) O0 Pg FinM.canon Tryz.f87 [D.slc r h q]=
 (t8 j L C L r h q ((h:Int)) 0):=by kernel_rfl
def Jq:bA:=fun p=>match p with
 |26=>nm [0,6] [] [6]
 |_=>none
noncomputable def ku(h:FuncId→List D→Option D)(L:Nat)(C:Nat→Nat)(n:Nat)(vs:ByteArray)(j:Nat):Option D:=
 bY (cv h L C) O0 Jq FinM.canon Tryz.f111 [true,false,true,false] [] n (St.mk (D.str vs::jn 5 (D.loc 6 0 0::jn 30 [])) (zn 6 ((1,some (Ob.sit vs j))::zn 30 [])))
theorem qf(j:FuncId→List D→Option D)(L:Nat)(C:Nat→Nat)(n:Nat)(vs:ByteArray)(h:Nat):ku j L C (n+1) vs h=
 (bo (decide (h<ByteArray.size vs))
 (bn (j 167 [D.int IntKind.i32 (((Prod.fst (Utf8.decode vs h)):Nat):Int)]) fun r=>bM r fun b=>bo (!b)
 (bo ((h:Int)==0)
 (some (D.bool false))
 (bo ((((Prod.fst (Utf8.decode vs h)):Nat):Int) !=95)
 (bo (decide ((((Prod.fst (Utf8.decode vs h)):Nat):Int)<48))
 (some (D.bool false))
 (bo (decide ((((Prod.fst (Utf8.decode vs h)):Nat):Int)>57))
 (some (D.bool false))
 (ku j L C n vs (h+Prod.snd (Utf8.decode vs h)))))
 (ku j L C n vs (h+Prod.snd (Utf8.decode vs h)))))
 (ku j L C n vs (h+Prod.snd (Utf8.decode vs h))))
 (bo (!ByteArray.toList vs==ByteArray.toList (ByteArray.mk #[]))
 (some (D.bool (decide (((ByteArray.size vs):Int)≤24))))
 (some (D.bool false)))):=by kernel_rfl
theorem FE(h:FuncId→List D→Option D)(L:Nat)(C:Nat→Nat)(vs:ByteArray):bF (cv h L C) O0 Jq FinM.canon Tryz.f111 [D.str vs]=
 (ku h L C L vs 0):=by kernel_rfl
theorem FF(q:FuncId→List D→Option D)(L:Nat)(C:Nat→Nat)(vn h j:Int):bF (cv q L C) O0 N0 FinM.canon Tryz.f118 [D.int .i64 vn,D.int .i64 h,D.int .i64 j]=
 (bo (decide (vn<h))
 (some (D.bool true))
 (some (D.bool (decide (vn>j))))):=by kernel_rfl
theorem FH(q:FuncId→List D→Option D)(L:Nat)(C:Nat→Nat)(j:Bool)(h:Int):bF (cv q L C) O0 N0 FinM.canon Tryz.f119 [D.bool j,D.int .i64 h]=
 (bo j
 (some (D.int .i64 h))
 (some (D.int .i64 0))):=by kernel_rfl
theorem FI(h:FuncId→List D→Option D)(L:Nat)(C:Nat→Nat)(q:Bool)(z:Nat)(j:List D)(J:ByteArray):bF (cv h L C) O0 N0 FinM.canon Tryz.f155 [D.slc q z j,D.str J]=
 (bn (h 223 [D.slc q z j,D.str J]) fun r=>bw .i64 r fun x=>some (D.bool (decide (x≥0)))):=by kernel_rfl
theorem FJ(h:FuncId→List D→Option D)(L:Nat)(C:Nat→Nat)(vc:Int):bF (cv h L C) O0 N0 FinM.canon Tryz.f167 [D.int IntKind.i32 vc]=
 (bo (decide (vc≥97))
 (bo (decide (vc≤122))
 (some (D.bool true))
 (bo (decide (vc≥65))
 (some (D.bool (decide (vc≤90))))
 (some (D.bool false))))
 (bo (decide (vc≥65))
 (some (D.bool (decide (vc≤90))))
 (some (D.bool false)))):=by kernel_rfl
def Jr:bA:=fun p=>match p with
 |26=>nm [0,1,7,8] [] []
 |_=>none
noncomputable def oJ(h:FuncId→List D→Option D)(L:Nat)(C:Nat→Nat)(n:Nat)(z:Bool)(J:Nat)(r:List D)(K:ByteArray)(j q:Int):Option D:=
 bY (cv h L C) O0 Jr FinM.canon Tryz.f223 [true,false,true,false] [] n (St.mk (D.slc z J r::D.str K::jn 5 (D.int .i64 j::D.int .i64 q::jn 10 [])) (zn 19 []))
theorem qg(J:FuncId→List D→Option D)(L:Nat)(C:Nat→Nat)(n:Nat)(K:Bool)(r:Nat)(q:List D)(z:ByteArray)(j h:Int):oJ J L C (n+1) K r q z j h=
 (bo (decide (h<j))
 (bu (decide (0≤h∧h<(r:Int)))
 (bc q (Int.toNat h*1) fun d=>bH d fun s=>bo (ByteArray.toList z==ByteArray.toList s)
 (some (D.int .i64 h))
 (oJ J L C n K r q z j (IntKind.wrap .i64 (h+1)))))
 (some (D.int .i64 (-1)))):=by kernel_rfl
theorem FK(j:FuncId→List D→Option D)(L:Nat)(C:Nat→Nat)(r:Bool)(h:Nat)(q:List D)(z:ByteArray):bF (cv j L C) O0 Jr FinM.canon Tryz.f223 [D.slc r h q,D.str z]=
 (oJ j L C L r h q z ((h:Int)) 0):=by kernel_rfl
def Ph:bA:=fun p=>match p with
 |58=>nm [0,1,5] [] []
 |_=>none
noncomputable def ua(h:FuncId→List D→Option D)(L:Nat)(C:Nat→Nat)(n:Nat)(q:Bool)(r:Nat)(j:List D)(K:Bool)(M:Nat)(z:List D)(O:Int):Option D:=
 bY (cv h L C) O0 Ph FinM.canon Tryz.f26 (bt 5 11) [] n (St.mk (D.slc q r j::D.slc K M z::J::J::J::D.int .i64 O::jn 20 []) (zn 26 []))
theorem sP(J:FuncId→List D→Option D)(L:Nat)(C:Nat→Nat)(n:Nat)(K:Bool)(j:Nat)(q:List D)(M:Bool)(z:Nat)(r:List D)(h:Int):ua J L C (n+1) K j q M z r h=
 (bo (decide (h<(j:Int)))
 (bu (decide (0≤h∧h<(j:Int)))
 (bc q (Int.toNat h*1) fun d=>bw .i64 d fun x=>bu (decide (0≤h∧h<(z:Int)))
 (bc r (Int.toNat h*1) fun O=>bw .i64 O fun S=>bo (x !=S)
 (some (D.bool false))
 (ua J L C n K j q M z r (IntKind.wrap .i64 (h+1))))))
 (some (D.bool true))):=by kernel_rfl
theorem Js(q:FuncId→List D→Option D)(L:Nat)(C:Nat→Nat)(z:Bool)(h:Nat)(r:List D)(K:Bool)(j:Nat)(J:List D):bF (cv q L C) O0 Ph FinM.canon Tryz.f26 [D.slc z h r,D.slc K j J]=
 (bo ((h:Int) !=(j:Int))
 (some (D.bool false))
 (ua q L C L z h r K j J 0)):=by kernel_rfl
end Go.Pd
end
