import Derived.Shelf.Spec.SlicesInsert
import Derived.Laws.CopyRow
import Derived.Lib.AppendZerosOnto
import Derived.Test.YtjhoaknnmfifgaaGreatDoorPdFf
import Derived.Test.YtjhoaknnmfifgaaGreatDoorUnA
import Derived.Test.YtjhoaknnmfifgaaGreatDoorUnG
import Derived.KernelRfl
section
namespace Go.Pd
open Go Go.Proofs Go.RowKit Go.Lib
set_option maxRecDepth 100000
theorem j6{P:Program}(w:World)(dT sT ty elem:TypeId)(k g o dLen dCap:Nat)(a:Addr)(sLen sCap:Nat)(cur:Array Value)(t:TypeId)(cs:List Value)
  (hu:P.underlying dT=some (.slice elem)) (hs:(P.info? elem).map (·.size)=some k)
  (hg:w.heap[g]?=some (.cells cur t (0,0))) (hn:cs.length=Nat.min sLen dLen*k)
  (hsrc:∀(j:Nat) v,cs[j]?=some v→w.cell? (a.add j)=some v) (hfit:o+cs.length≤cur.size) (h1:∀v∈cs,v.oneCell'=true):
  (Builtin.copy_ #[dT,sT] ty #[.slice (some ⟨g,o,none⟩) dLen dCap,.slice (some a) sLen sCap]).run P w=
   .ok (goInt (Nat.min sLen dLen:Nat)) (w.setRow g (cur.toList.take o++cs++cur.toList.drop (o+cs.length)).toArray):=by
 have hl:=run_loadCells_list (P:=P) w a cs hsrc;have hst:=run_storeCells_at P g o t cs 0 cur w hg (by simpa using hfit) h1;cases hq:P.info? elem with
 |none=>simp[hq] at hs
 |some i=>
  have hi:i.size=k:=by simpa [hq] using hs
  simp[Builtin.copy_,run_underlying hu,Builtin.lenOf,Builtin.firstCells,sizeOf,typeInfo,hq,hi,←hn,hl,hst]
noncomputable def infoM:TypeInfo:=(Tryz.prog.info? 130).get (by kernel_rfl)
theorem uE:Tryz.prog.info? 130=some infoM:=by kernel_rfl
theorem dX:infoM.size=6:=by kernel_rfl
theorem j7:(Tryz.prog.info? 130).map (·.size)=some 6:=by kernel_rfl
def zM:Value:= .agg #[.string ⟨#[]⟩,.int .i64 0,.string ⟨#[]⟩,.int .i64 0,.int .i64 0,.string ⟨#[]⟩]
theorem pm:infoM.zero=some zM:=by kernel_rfl
structure AsideM(p:Prop):Prop where
 out:p
theorem lQ{α:Type}(A D:List α){k:Nat}(h:A.length=k):(A++D).take k=A:=by
 rw[←h,List.take_left]
theorem By{α:Type}(A D:List α){k:Nat}(h:A.length=k):(A++D).drop k=D:=by
 rw[←h,List.drop_left]
theorem yQ{α:Type}(X T D V:List α){p q:Nat}(hp:p≤X.length)(hpq:q+V.length=p):(X.take p++T++D).take q++V++(X.take p++T++D).drop (q+V.length)=X.take q++(V++T)++D:=by
 have e1:(X.take p).length=p:=by rw[zd8];omega
 rw[hpq,za8 (X.take p) T D,By _ _ e1,List.take_append_of_le_length (by rw[e1];omega),List.take_take,Nat.min_eq_left (by omega)];simp only[za8]
theorem uF{w:World}{ad:Addr}{k:Nat}{u:Value}(h:w.cell? (ad.add k)=some u):∃c t f,w.heap[ad.block]?=some (.cells c t f)∧c.size≠0:=by
 have hb:(ad.add k).block=ad.block:=by unfold Addr.add;split<;>rfl
 unfold World.cell? at h;rw[hb] at h;split at h
 ·rename_i c t f hc;refine⟨c,t,f,hc,fun h0=> ?_⟩;split at h
  ·cases h
  ·have:=(zb8.1 h).1;omega
 ·cases h
theorem qR{w W:World}{ad:Addr}(h:W.heap[ad.block]?=w.heap[ad.block]?)(j:Nat):W.cell? (ad.add j)=w.cell? (ad.add j):=by
 have hb:(ad.add j).block=ad.block:=by unfold Addr.add;split<;>rfl
 unfold World.cell?;rw[hb,h]
theorem wJ{P:Program}(w:World)(tS tR e:TypeId)(ht:P.underlying tS=some (.slice e))(size:Nat)(hz:∀w,(Go.sizeOf e).run P w= .ok size w)
  (a b:Addr) (la ca lb cb:Nat) (hne:a.block≠b.block) (tB:TypeId) (kB:Nat) (hsb:w.shape? b.block=some (tB,kB)) (hfb:∀k,w.frozen? ⟨b.block,k,none⟩=false) (ha:∃c t f,w.heap[a.block]?=some (.cells c t f)∧c.size≠0) (hbs:b.spot=none:=by rfl):
  (Extern.SlicesOverlaps.overlaps #[tS,tS] #[tR] #[.slice (some a) la ca,.slice (some b) lb cb]).run P w= .ok (.bool false) w:=by
 have hnb:(a.block !=b.block)=true:=by simpa using hne
 have hnb':(a.block==b.block)=false:=by simpa using hne
 obtain⟨c,t,f,hc,h0c⟩:=ha;have hsa:w.shape? a.block=some (t,c.size):=by simp[World.shape?,hc]
 obtain⟨bb,bo,bs⟩:=b;simp only at hbs hsb hfb hnb hnb';subst hbs;have hfb0:w.frozen? ⟨bb,bo,none⟩=false:=hfb bo;have hfb1:w.frozen? ⟨bb,kB,none⟩=false:=hfb kB;change Sem.run P (α:=Value) (do
  let some t:=(#[tS,tS]:Array TypeId)[0]?|stuck "slices.overlaps: no parameter types"
  let .slice elem←underlying t|stuck "slices.overlaps: slice type expected"
  let size←sizeOf elem
  match(some a:Option Addr),(some (⟨bb,bo,none⟩:Addr):Option Addr) with
  |some a,some b=>
   if la=0∨lb=0∨size=0 then pure (Value.bool false)
   else if a.block !=b.block&&(←frozen a)&&(←frozen b) then unsupported .addressObserved
   else do
    if a.block !=b.block then do
     noView a;noView b
     if←mayBeOne a b then return Value.bool ((←choose (.extern "sameAddr.stringBytes" 2))==1)
    pure (Value.bool (a.block==b.block&&a.off<b.off+lb*size&&b.off<a.off+la*size))
  |_,_=>pure (Value.bool false)) w=_
 by_cases h0:la=0∨lb=0∨size=0
 ·simp[run_underlying ht,hz,h0]
 ·obtain⟨kc,hkc⟩:∃kc,c.size=kc+1:=⟨c.size-1,by omega⟩;rw[hkc] at hsa;cases hfa:w.frozen? a<;>cases hfe:w.frozen? {block:=a.block,off:=kc+1}<;>
   simp[run_underlying ht,hz,h0,hnb,hnb',frozen,noView,viewAt,mayBeOne,stringish,shape,Sem.run,hsa,hsb,hfa,hfe,hfb0,hfb1]
set_option maxHeartbeats 4000000 in
theorem yR(b n c i m vc:Nat)(ad:Addr)(C:Array Value)(news:List Value)(w:World)(hi:i<n)(hm:0<m)(hroom:n+m≤c)(hc63:c≤9223372036854775807)(hvb:ad.block≠b)
  (hb:w.heap[b]?=some (.cells C 130 (0,0))) (hC:C.size=c*6) (hvl:news.length=m*6) (hrd:∀(j:Nat) (u:Value),news[j]?=some u→w.cell? (ad.add j)=some u)
  (h1c:∀v∈C.toList.take (n*6),v.oneCell'=true) (h1v:∀v∈news,v.oneCell'=true):
  Calls Tryz.prog 274 #[.slice (some ⟨b,0,none⟩) n c,.int .i64 i,.slice (some ad) m vc] w fun e w'=>
   e= .returned (.slice (some ⟨b,0,none⟩) (n+m) c)∧∃R1 R2,w'=(w.drew.setRow b R1).setRow b R2∧w'.heap[b]?=some (.cells R2 130 (0,0))∧R2.size=c*6∧R2.toList.take ((n+m)*6)=C.toList.take (i*6)++(news++(C.toList.take (n*6)).drop (i*6)):=by
 have t0:=Tryz.underlying0;have a0:=Tryz.isAgg0;have z0:=Tryz.sizeOf0;have v0:=Tryz.zeroValue0;have t3:=Tryz.underlying3;have a3:=Tryz.isAgg3;have z3:=Tryz.sizeOf3;have v3:=Tryz.zeroValue3;have t4:=Tryz.underlying4;have a4:=Tryz.isAgg4;have z4:=Tryz.sizeOf4;have v4:=Tryz.zeroValue4;have t57:=Tryz.underlying57;have a57:=Tryz.isAgg57;have z57:=Tryz.sizeOf57;have v57:=Tryz.zeroValue57;have a130:=Tryz.isAgg130;have z130:=Tryz.sizeOf130;have u0:=run_underlying t0;have u3:=run_underlying t3;have u4:=run_underlying t4;have u57:=run_underlying t57;have mixed:Tryz.prog.follows .mixedOrders=true:=by kernel_rfl
 have hz1:¬((m:Int)=0):=by omega
 have hz2:¬((i:Int)=(n:Int)):=by omega
 obtain⟨u0',hu0⟩:∃u,news[0]?=some u:=⟨news[0]'(by omega),zd0 (by omega)⟩;have hsh:=uF (hrd 0 u0' hu0);have hov:∀o lb cb,(callFunc 327 #[.slice (some ad) m vc,.slice (some ⟨b,o,none⟩) lb cb]).run Tryz.prog w= .ok (.value (.bool false)) w:=fun o lb cb=>by
  rw[run_callFunc_extern Tryz.func327 (by kernel_rfl) (by kernel_rfl) (by kernel_rfl) (e:=Extern.SlicesOverlaps.overlaps #[57,57] #[4]) (by kernel_rfl),
   wJ w 57 4 130 t57 6 z130 ad ⟨b,o,none⟩ m vc lb cb hvb 130 C.size (by simp[World.shape?,hb]) (fun k=>by simp[World.frozen?,hb]) hsh]
  rfl
 have hb1:(0:Int)≤(i:Int)+(m:Int):=by omega
 have hin:i≤n:=by omega
 have htn:((i:Int)+(m:Int)).toNat=i+m:=by omega
 have hb2:¬(c=i+m):=by omega
 have hb3:(i:Int)≤(n:Int)+(m:Int):=by omega
 have hb4:¬(c=i):=by omega
 have hw1:IntKind.i64.wrap ((i:Int)+(m:Int))=(i:Int)+(m:Int):=by rw[IntKind.wrap_i64];omega
 have hle:i*6≤n*6:=Nat.mul_le_mul_right _ hin;have hnm:(n+m)*6≤c*6:=Nat.mul_le_mul_right _ hroom;rw[Nat.add_mul] at hnm;have hnl:((C.toList.take (n*6)).drop (i*6)).length=(n-i)*6:=by
  rw[zd7,zd8,Array.length_toList,hC,Nat.sub_mul];omega
 obtain⟨R1,hR1⟩:∃R1,R1=(C.toList.take ((i+m)*6)++(C.toList.take (n*6)).drop (i*6)++C.toList.drop ((i+m)*6+((C.toList.take (n*6)).drop (i*6)).length)).toArray:=⟨_,rfl⟩;have hR1s:R1.size=c*6:=by
  have him:(i+m)*6=i*6+m*6:=Nat.add_mul ..;rw[hR1,List.size_toArray,za6,za6,hnl,zd8,zd7,Array.length_toList,hC,Nat.sub_mul];omega
 obtain⟨R2,hR2⟩:∃R2,R2=(R1.toList.take (i*6)++news++R1.toList.drop (i*6+(news).length)).toArray:=⟨_,rfl⟩;have B:AsideM (R2.size=c*6∧R2.toList.take ((n+m)*6)=C.toList.take (i*6)++(news++(C.toList.take (n*6)).drop (i*6))):=by
  have him:(i+m)*6=i*6+m*6:=Nat.add_mul ..;have hni:(n-i)*6=n*6-i*6:=Nat.sub_mul ..;have hX:C.toList.length=c*6:=by rw[Array.length_toList,hC]
  have hti:(C.toList.take (i*6)).length=i*6:=by rw[zd8,hX];omega
  have e:=yQ C.toList ((C.toList.take (n*6)).drop (i*6)) (C.toList.drop ((i+m)*6+((C.toList.take (n*6)).drop (i*6)).length)) (news) (p:=(i+m)*6) (q:=i*6) (by rw[hX];omega) (by rw[hvl];omega);rw[hR1] at hR2;simp only at hR2;rw[e] at hR2;refine⟨?_,?_⟩
  ·rw[hR2,List.size_toArray];simp only[za6,hti,hvl,hnl,zd7,hX];omega
  ·rw[hR2];exact lQ _ _ (by simp only[za6,hti,hvl,hnl];rw[Nat.add_mul];omega)
 have cat:∀(W:World) (g:Nat) (c0:Array Value) (o j:Nat) (v:Value),W.heap[g]?=some (.cells c0 130 (0,0))→c0[o+j]?=some v→W.cell? (Addr.add ⟨g,o,none⟩ j)=some v:=fun W g c0 o j v hg hv=>by
  rw[Addr.add_lit];simp[World.cell?,hg,hv]
 have hcp1:∀W:World,W.heap[b]?=some (.cells C 130 (0,0))→∀ty dc sc,(Builtin.copy_ #[57,57] ty #[.slice (some ⟨b,(i+m)*6,none⟩) (n+m-(i+m)) dc,.slice (some ⟨b,i*6,none⟩) (n+m-i) sc]).run Tryz.prog W= .ok (goInt (Nat.min (n+m-i) (n+m-(i+m)):Nat)) (W.setRow b R1):=fun W hW ty dc sc=>by
  rw[j6 W 57 57 ty 130 6 b ((i+m)*6) (n+m-(i+m)) dc ⟨b,i*6,none⟩ (n+m-i) sc C 130 ((C.toList.take (n*6)).drop (i*6)) t57 j7 hW (by rw[hnl];congr 1;simp only[Nat.min_def];split<;>omega) (fun j v hj=>cat W b C _ j v hW (by
   rw[List.getElem?_drop,List.getElem?_take] at hj;split at hj
   ·simpa using hj
   ·cases hj)) (by have him:(i+m)*6=i*6+m*6:=Nat.add_mul ..;rw[hnl,Nat.sub_mul];omega) (fun v hv=>h1c v (List.mem_of_mem_drop hv)),←hR1]
 have hcp2:∀W:World,W.heap[b]?=some (.cells R1 130 (0,0))→W.heap[ad.block]?=w.heap[ad.block]?→∀ty dc,(Builtin.copy_ #[57,57] ty #[.slice (some ⟨b,i*6,none⟩) (n+m-i) dc,.slice (some ad) m vc]).run Tryz.prog W= .ok (goInt (Nat.min m (n+m-i):Nat)) (W.setRow b R2):=fun W hW hW2 ty dc=>by
  rw[j6 W 57 57 ty 130 6 b (i*6) (n+m-i) dc ad m vc R1 130 (news) t57 j7 hW (by rw[hvl];congr 1;simp only[Nat.min_def];split<;>omega) (fun j v hj=>(qR hW2 j).trans (hrd j v hj)) (by rw[hvl,hR1s];omega) h1v,←hR2]
 have hd1:w.drew.heap[b]?=some (.cells C 130 (0,0)):=hb;have hd2:(w.drew.setRow b R1).heap[b]?=some (.cells R1 130 (0,0)):=setRow_heap _ b C R1 _ _ hd1;have hd3:(w.drew.setRow b R1).heap[ad.block]?=w.heap[ad.block]?:=by rw[setRow_other _ b ad.block _ hvb];rfl
 clear hR1 hR2 hnl hvl hR1s cat
 go_enter Tryz.func274,Tryz.ntmps274
 go_wp2_with (simp only[hov])
 go_region_law_o (refine step_copy_runI rfl _ _ 57 57 rfl _ _ (by simp[Act.eval,Act.put]) (by simp[Act.eval,Act.put]) (hcp1 _ hd1 _ _ _) ?_)
 go_wp2_with (at_builtin;refine wpList_copy_runI _ rfl _ _ 57 57 rfl _ _ rfl rfl (hcp2 _ hd2 hd3 _ _) ?_)
 go_ret
 exact⟨rfl,R1,R2,rfl,setRow_heap _ b R1 R2 _ _ hd2,B.out⟩
set_option maxHeartbeats 4000000 in
theorem Dx(b n c m vc:Nat)(ad:Addr)(C:Array Value)(news:List Value)(w:World)(hm:0<m)(hnc:n≤c)(hc63:c≤maxLen)(hbig:(n+m)*infoM.bytes≤140737488355328)(hnm:n+m≤maxLen)
  (hb:w.heap[b]?=some (.cells C 130 (0,0))) (hC:C.size=c*6) (hvl:news.length=m*6) (hrd:∀(j:Nat) (u:Value),news[j]?=some u→w.cell? (ad.add j)=some u)
  (h1v:∀v∈news,v.oneCell'=true):
  Calls Tryz.prog 274 #[.slice (some ⟨b,0,none⟩) n c,.int .i64 n,.slice (some ad) m vc] w fun e w'=>∃v',e= .returned v'∧w'.ownsRow 0 130 6 v' (n+m) (C.toList.take (n*6)++news)∧w.grownBy w' (some b)∧v'≠ .slice none 0 0∧(v'.ownBlock=some b∨v'.ownBlock=some w.heap.size):=by
 have t0:=Tryz.underlying0;have a0:=Tryz.isAgg0;have z0:=Tryz.sizeOf0;have v0:=Tryz.zeroValue0;have t3:=Tryz.underlying3;have a3:=Tryz.isAgg3;have z3:=Tryz.sizeOf3;have v3:=Tryz.zeroValue3;have t4:=Tryz.underlying4;have a4:=Tryz.isAgg4;have z4:=Tryz.sizeOf4;have v4:=Tryz.zeroValue4;have t57:=Tryz.underlying57;have a57:=Tryz.isAgg57;have z57:=Tryz.sizeOf57;have v57:=Tryz.zeroValue57;have a130:=Tryz.isAgg130;have z130:=Tryz.sizeOf130;have u0:=run_underlying t0;have u3:=run_underlying t3;have u4:=run_underlying t4;have u57:=run_underlying t57;have mixed:Tryz.prog.follows .mixedOrders=true:=by kernel_rfl
 have hz1:¬((m:Int)=0):=by omega
 have hown:w.ownsRow 0 130 infoM.size (.slice (some ⟨b,0,none⟩) n c) n (C.toList.take (n*infoM.size)):=
  ⟨by rw[dX,zd8,Array.length_toList,hC];have:=Nat.mul_le_mul_right 6 hnc;omega,.inr ⟨b,c,C,rfl,Nat.zero_le _,hb,hnc,hc63,by rw[dX];exact hC,rfl⟩⟩
 have hnews:ve w (.slice (some ad) m vc) m news:= .inr ⟨_,_,rfl,hrd⟩;obtain⟨v',w1,hrun,ho,hgr,hnil,hob⟩:=gC (P:=Tryz.prog) w 0 57 57 130 infoM zM t57 uE pm (by rw[dX];rfl) (by rw[dX];decide) (.slice (some ⟨b,0,none⟩) n c) n (C.toList.take (n*infoM.size)) hown (.slice (some ad) m vc) m (news) hnews (by rw[dX];exact hvl) h1v hnm hbig (Nat.zero_le _);rw[dX] at ho;have A:AsideM (w1.ownsRow 0 130 6 v' (n+m) (C.toList.take (n*6)++news)∧w.grownBy w1 (some b)∧v'≠ .slice none 0 0∧(v'.ownBlock=some b∨v'.ownBlock=some w.heap.size)):=⟨ho,hgr,(fun e=>by have:=(hnil.1 e).1;cases this),hob⟩;clear ho hgr hnil hob hnews hown hvl
 go_enter Tryz.func274,Tryz.ntmps274
 go_wp2_with (at_builtin;refine Lib.wpList_append_run _ rfl _ _ _ _ rfl _ _ rfl rfl _ _ hrun ?_)
 all_goals (go_ret;exact⟨v',rfl,A.out⟩)
set_option maxHeartbeats 4000000 in
theorem Bz(b n c i m vc:Nat)(ad:Addr)(C:Array Value)(news:List Value)(w:World)(hi:i<n)(hm:0<m)(hnc:n≤c)(hroom:c<n+m)(hbig:(n+m)*infoM.bytes≤140737488355328)(hnm:n+m≤maxLen)
  (hb:w.heap[b]?=some (.cells C 130 (0,0))) (hC:C.size=c*6) (hvl:news.length=m*6) (hrd:∀(j:Nat) (u:Value),news[j]?=some u→w.cell? (ad.add j)=some u)
  (h1c:∀v∈C.toList.take (n*6),v.oneCell'=true) (h1v:∀v∈news,v.oneCell'=true):
  Calls Tryz.prog 274 #[.slice (some ⟨b,0,none⟩) n c,.int .i64 i,.slice (some ad) m vc] w fun e w'=>∃G R2,e= .returned (.slice (some ⟨w.heap.size,0,none⟩) (n+m) G)∧n+m≤G∧G≤maxLen∧w'.heap[w.heap.size]?=some (.cells R2 130 (0,0))∧R2.size=G*6∧
   R2.toList.take ((n+m)*6)=C.toList.take (i*6)++(news++(C.toList.take (n*6)).drop (i*6))∧w.grownBy w' none:=by
 have t0:=Tryz.underlying0;have a0:=Tryz.isAgg0;have z0:=Tryz.sizeOf0;have v0:=Tryz.zeroValue0;have t3:=Tryz.underlying3;have a3:=Tryz.isAgg3;have z3:=Tryz.sizeOf3;have v3:=Tryz.zeroValue3;have t4:=Tryz.underlying4;have a4:=Tryz.isAgg4;have z4:=Tryz.sizeOf4;have v4:=Tryz.zeroValue4;have t57:=Tryz.underlying57;have a57:=Tryz.isAgg57;have z57:=Tryz.sizeOf57;have v57:=Tryz.zeroValue57;have a130:=Tryz.isAgg130;have z130:=Tryz.sizeOf130;have u0:=run_underlying t0;have u3:=run_underlying t3;have u4:=run_underlying t4;have u57:=run_underlying t57;have mixed:Tryz.prog.follows .mixedOrders=true:=by kernel_rfl
 have hz1:¬((m:Int)=0):=by omega
 have hz2:¬((i:Int)=(n:Int)):=by omega
 have hz3:(c:Int)<(n:Int)+(m:Int):=by omega
 have hm63:maxLen=9223372036854775807:=rfl;have hkk:(n:Int)+(m:Int)-(i:Int)=((n+m-i:Nat):Int):=by omega
 have hik:i+(n+m-i)=n+m:=by omega
 have hle:i*6≤n*6:=Nat.mul_le_mul_right _ (by omega);have hnc6:n*6≤c*6:=Nat.mul_le_mul_right _ hnc;have hX:C.toList.length=c*6:=by rw[Array.length_toList,hC]
 have hti:(C.toList.take (i*6)).length=i*6:=by rw[zd8,hX];omega
 have hnl:((C.toList.take (n*6)).drop (i*6)).length=(n-i)*6:=by
  rw[zd7,zd8,hX,Nat.sub_mul];omega
 have cat:∀(W:World) (g:Nat) (c0:Array Value) (o j:Nat) (v:Value),W.heap[g]?=some (.cells c0 130 (0,0))→c0[o+j]?=some v→W.cell? (Addr.add ⟨g,o,none⟩ j)=some v:=fun W g c0 o j v hg hv=>by
  rw[Addr.add_lit];simp[World.cell?,hg,hv]
 have hold:(Builtin.firstCells infoM.size i (.slice (some ⟨b,0,none⟩) i c)).run Tryz.prog w.drew= .ok (C.toList.take (i*6)).toArray w.drew:=by
  rw[dX];exact run_firstCells_some w.drew 6 i ⟨b,0,none⟩ i c (C.toList.take (i*6)) hti (fun j v hj=>cat w.drew b C 0 j v hb (by
   rw[List.getElem?_take] at hj;split at hj
   ·simpa using hj
   ·cases hj))
 obtain⟨G,hG⟩:∃G,G=grownCap w (n+m) c 130:=⟨_,rfl⟩;obtain⟨ROW,hROW⟩:∃ROW:Array Value,ROW=(C.toList.take (i*6)).toArray++Builtin.zeroCells zM.cells (n+m-i)++Builtin.zeroCells zM.cells (G-(n+m)):=⟨_,rfl⟩;have hbytes:0<infoM.bytes:=by rw[show infoM.bytes=72 by kernel_rfl];decide
 have hrz:∀ty,(Builtin.append_ #[57,3] ty #[.slice (some ⟨b,0,none⟩) i c,.int .i64 ((n:Int)+(m:Int)-(i:Int))]).run Tryz.prog w=
   .ok (.slice (some ⟨w.heap.size,0,none⟩) (n+m) G) (w.drew.alloc (.cells ROW 130)):=fun ty=>by
  have hk48:(n+m-i)*infoM.bytes≤(n+m)*infoM.bytes:=Nat.mul_le_mul_right _ (by omega);have h:=Lib.run_append_grow_zeros w 57 3 ty 130 infoM zM .i64 .i64 t57 t3 uE pm (some ⟨b,0,none⟩) i c (C.toList.take (i*6)) hold (n+m-i) (by omega) (by rw[dX];decide) (by omega) (by omega) (by omega) (by rw[hik];exact growslice_fits hroom hbig);rw[hik] at h;rw[hkk,hROW,hG];exact h
 have hGn:n+m≤G:=by rw[hG];exact grownCap_ge w _ _ _
 have hG63:G≤maxLen:=by rw[hG];exact grownCap_le_maxLen w (n+m) c 130 (by omega)
 have hz6:zM.cells.size=6:=rfl;have hRs:ROW.size=G*6:=by
  have e1:(n+m-i)*6=(n+m)*6-i*6:=Nat.sub_mul ..;have e2:(G-(n+m))*6=G*6-(n+m)*6:=Nat.sub_mul ..;have e3:(n+m)*6≤G*6:=Nat.mul_le_mul_right _ hGn;have e4:(n+m)*6=n*6+m*6:=Nat.add_mul ..;rw[hROW,Array.size_append,Array.size_append,size_zeroCells,size_zeroCells,List.size_toArray,hti,hz6,e1,e2];omega
 have hRt:ROW.toList.take (i*6)=C.toList.take (i*6):=by
  rw[hROW,Array.toList_append,Array.toList_append,za8];exact lQ _ _ hti
 have hbw:b<w.heap.size:=(zb8.1 hb).1;have hvw:ad.block<w.heap.size:=by
  obtain⟨u0',hu0⟩:∃u,news[0]?=some u:=⟨news[0]'(by omega),zd0 (by omega)⟩;obtain⟨c0,t0,f0,hc0,_⟩:=uF (hrd 0 u0' hu0);exact(zb8.1 hc0).1
 obtain⟨R1,hR1⟩:∃R1,R1=(ROW.toList.take (i*6)++news++ROW.toList.drop (i*6+(news).length)).toArray:=⟨_,rfl⟩;have him:(i+m)*6=i*6+m*6:=Nat.add_mul ..;have e4:(n+m)*6=n*6+m*6:=Nat.add_mul ..;have e3:(n+m)*6≤G*6:=Nat.mul_le_mul_right _ hGn;have hR1s:R1.size=G*6:=by
  rw[hR1,List.size_toArray];simp only[za6,zd8,zd7,Array.length_toList,hRs,hvl];omega
 have hR1t:R1.toList.take ((i+m)*6)=C.toList.take (i*6)++news:=by
  rw[hR1,hRt];exact lQ _ _ (by rw[za6,hti,hvl,him])
 obtain⟨R2,hR2⟩:∃R2,R2=(R1.toList.take ((i+m)*6)++(C.toList.take (n*6)).drop (i*6)++R1.toList.drop ((i+m)*6+((C.toList.take (n*6)).drop (i*6)).length)).toArray:=⟨_,rfl⟩;have hni:(n-i)*6=n*6-i*6:=Nat.sub_mul ..;have hcpA:∀W:World,W.heap[w.heap.size]?=some (.cells ROW 130 (0,0))→W.heap[ad.block]?=w.heap[ad.block]?→∀ty dc,(Builtin.copy_ #[57,57] ty #[.slice (some ⟨w.heap.size,i*6,none⟩) (n+m-i) dc,.slice (some ad) m vc]).run Tryz.prog W= .ok (goInt (Nat.min m (n+m-i):Nat)) (W.setRow w.heap.size R1):=fun W hW hW2 ty dc=>by
  rw[j6 W 57 57 ty 130 6 w.heap.size (i*6) (n+m-i) dc ad m vc ROW 130 (news) t57 j7 hW (by rw[hvl];congr 1;simp only[Nat.min_def];split<;>omega) (fun j v hj=>(qR hW2 j).trans (hrd j v hj)) (by rw[hvl,hRs];omega) h1v,←hR1]
 have hcpB:∀W:World,W.heap[w.heap.size]?=some (.cells R1 130 (0,0))→W.heap[b]?=some (.cells C 130 (0,0))→∀ty dc sc,(Builtin.copy_ #[57,57] ty #[.slice (some ⟨w.heap.size,(i+m)*6,none⟩) (n+m-(i+m)) dc,.slice (some ⟨b,i*6,none⟩) (n-i) sc]).run Tryz.prog W= .ok (goInt (Nat.min (n-i) (n+m-(i+m)):Nat)) (W.setRow w.heap.size R2):=fun W hW hW2 ty dc sc=>by
  rw[j6 W 57 57 ty 130 6 w.heap.size ((i+m)*6) (n+m-(i+m)) dc ⟨b,i*6,none⟩ (n-i) sc R1 130 ((C.toList.take (n*6)).drop (i*6)) t57 j7 hW (by rw[hnl];congr 1;simp only[Nat.min_def];split<;>omega) (fun j v hj=>cat W b C _ j v hW2 (by
   rw[List.getElem?_drop,List.getElem?_take] at hj;split at hj
   ·simpa using hj
   ·cases hj)) (by rw[hnl,hR1s,hni];omega) (fun v hv=>h1c v (List.mem_of_mem_drop hv)),←hR2]
 have hal:(w.drew.alloc (.cells ROW 130)).heap[w.heap.size]?=some (.cells ROW 130 (0,0)):=cJ w.drew _;have hao:∀k,k<w.heap.size→(w.drew.alloc (.cells ROW 130)).heap[k]?=w.heap[k]?:=fun k hk=>dY w.drew _ hk;obtain⟨W1,hW1⟩:∃W1,W1=(w.alloc (.cells ROW 130)).drew:=⟨_,rfl⟩;have hE1:W1.heap[w.heap.size]?=some (.cells ROW 130 (0,0)):=by rw[hW1];exact hal
 have hE2:W1.heap[ad.block]?=w.heap[ad.block]?:=by rw[hW1];exact hao ad.block hvw
 have hE3:W1.heap[b]?=some (.cells C 130 (0,0)):=by rw[hW1];exact(hao b hbw).trans hb
 have hF1:(W1.setRow w.heap.size R1).drew.heap[w.heap.size]?=some (.cells R1 130 (0,0)):=setRow_heap W1 w.heap.size ROW R1 _ _ hE1;have hF2:(W1.setRow w.heap.size R1).drew.heap[b]?=some (.cells C 130 (0,0)):=by
  show(W1.setRow w.heap.size R1).heap[b]?=_;rw[setRow_other _ _ _ _ (by omega)];exact hE3
 have Z:AsideM (n+m≤G∧G≤maxLen∧((W1.setRow w.heap.size R1).drew.setRow w.heap.size R2).heap[w.heap.size]?=some (.cells R2 130 (0,0))∧R2.size=G*6∧R2.toList.take ((n+m)*6)=C.toList.take (i*6)++(news++(C.toList.take (n*6)).drop (i*6))∧w.grownBy ((W1.setRow w.heap.size R1).drew.setRow w.heap.size R2) none):=by
  refine⟨hGn,hG63,setRow_heap _ _ R1 R2 _ _ hF1,?_,?_,?_⟩
  ·rw[hR2,List.size_toArray];simp only[za6,zd8,zd7,Array.length_toList,hR1s,hC];omega
  ·rw[hR2,hR1t];refine(lQ _ _ ?_).trans (za8 ..);rw[za6,za6,hti,hvl,hnl,hni];omega
  ·refine⟨by rw[hW1];rfl,by rw[hW1];rfl,by rw[hW1];rfl,Nat.le_of_lt (zb8.1 (setRow_heap _ _ R1 R2 _ _ hF1)).1,fun k hk _=> ?_⟩;have hne:k≠w.heap.size:=by omega
   rw[setRow_other _ _ _ _ hne];show(W1.setRow w.heap.size R1).heap[k]?=_;rw[setRow_other _ _ _ _ hne,hW1];exact hao k hk
 rw[show w.drew.alloc (.cells ROW 130)=W1 from hW1.symm] at hrz;have hw1:IntKind.i64.wrap ((i:Int)+(m:Int))=(i:Int)+(m:Int):=by rw[IntKind.wrap_i64];omega
 have hb1:(0:Int)≤(i:Int)+(m:Int):=by omega
 have hin:i≤n:=by omega
 have htn:((i:Int)+(m:Int)).toNat=i+m:=by omega
 have hb3:(i:Int)≤(n:Int):=by omega
 have hGi:¬(G=i):=by omega
 have hGim:¬(G=i+m):=by omega
 have hci:¬(c=i):=by omega
 clear hkk hik hold hROW hG hRs hRt hR1 hR2 hR1s hR1t him e4 e3 hni hal hao hW1 hnl hvl hti hX cat
 go_enter Tryz.func274,Tryz.ntmps274
 go_wp2_with (first
  |(at_builtin;refine Lib.wpList_append_run _ rfl _ _ _ _ rfl _ _ rfl rfl _ _ (hrz _) ?_)
  |(at_builtin;refine wpList_copy_runI _ rfl _ _ 57 57 rfl _ _ rfl rfl (hcpA _ hE1 hE2 _ _) ?_))
 go_region_law_o (refine step_copy_runI rfl _ _ 57 57 rfl _ _ (by simp[Act.eval,Act.put]) (by simp[Act.eval,Act.put]) (hcpB _ hF1 hF2 _ _ _) ?_)
 go_wp2
 go_ret
 exact⟨G,R2,rfl,Z.out⟩
theorem KI:Hb Tryz.prog 274 130 6 72:=by
 intro w b cap len i vcap m ad c news hb hc hcm hlc hvl hrd hvb hm hil hbig h1 h2;have hby:infoM.bytes=72:=by kernel_rfl
 rw[show cH=140737488355328 from rfl,←hby] at hbig;have hml:maxLen=9223372036854775807:=rfl;have hnm:len+m≤maxLen:=by
  have:=Nat.mul_le_mul_left (len+m) (show 1≤infoM.bytes by rw[hby];decide);omega
 by_cases hil':i<len
 ·by_cases hroom:len+m≤cap
  ·refine(yR b len cap i m vcap ad c news w hil' hm hroom (by omega) hvb hb hc hvl hrd h1 h2).mono ?_
   rintro en w' ⟨rfl,R1,R2,rfl,q1,q2,q3⟩
   refine⟨b,cap,R2,rfl,.inl rfl,q1,hroom,hcm,q2,q3,⟨rfl,rfl,rfl,?_,fun k hk hne=> ?_⟩⟩
   ·simp
   ·have hne:k≠b:=fun e=>hne (by rw[e]);rw[setRow_other _ _ _ _ hne,setRow_other _ _ _ _ hne];rfl
  ·refine(Bz b len cap i m vcap ad c news w hil' hm hlc (by omega) hbig hnm hb hc hvl hrd h1 h2).mono ?_
   rintro en w' ⟨G,R2,rfl,q1,q2,q3,q4,q5,q6⟩
   exact⟨w.heap.size,G,R2,rfl,.inr (zb0 _),q3,q1,q2,q4,q5,⟨q6.os,q6.tape,q6.output,q6.size,fun k hk _=>q6.block k hk (fun e=>by cases e)⟩⟩
 ·obtain rfl:i=len:=by omega
  refine(Dx b i cap m vcap ad c news w hm hlc hcm hbig hnm hb hc hvl hrd h2).mono ?_
  rintro en w' ⟨v',rfl,ho,hgr,hne,hob⟩
  obtain⟨g,cap',cur,rfl,q1,q2,q3,q4,q5,q6⟩:=n9 ho hne;refine⟨g,cap',cur,rfl,?_,q2,q3,q4,q5,?_,hgr⟩
  ·rcases hob with h|h<;>simp[Value.ownBlock] at h
   ·exact .inl h
   ·exact .inr (by omega)
  ·rw[q6,show((c.toList.take (i*6)).drop (i*6))=[] by simp,zb4]
theorem Jf:∀vs w,(callFunc 274 vs).run Tryz.prog w= .ok (.enter 274 vs) w:=enters_of Tryz.func274 (by kernel_rfl) rfl
def Jg:Inl:=EX 130 6 72 20
theorem Dy{gl:Nat→Option D}:InlOK Tryz.prog gl 274 Jg:=CQ Jf (by decide) KI
end Go.Pd
end
section
namespace Go.Pd
open Go Go.Proofs Go.RowKit
def F9:FuncId→Option Inl:=fun k=>match k with
 |274=>some Jg
 |_=>none
noncomputable def Jh(call _:FuncId→List D→Option D)(L:Nat)(C:Nat→Nat):TE:={E:={P:=Tryz.prog,gl:=jf,call:=call,L:=L,inl:=F9},cst:=fun _ _=>none,C:=C}
theorem KJ{base mu:FuncId→List D→Option D}(hb:gX base){L:Nat}:EnvOK (Jh base mu L C1).E:=⟨zE hb,(fun _ _ h=>nomatch h),(fun _ _ _ h=>nomatch h),fun k i hi=>by
 have hi:F9 k=some i:=hi;unfold F9 at hi;split at hi
 ·cases hi;exact Dy
 ·cases hi⟩
theorem LM{base mu:FuncId→List D→Option D}(hb:gX base){f:FuncId}{fn:Func}(hf:Tryz.prog.funcs[f]?=some fn){ord:hN}{N:bH}(hok:jj Tryz.prog ord fn=true){ds:List D}{r:D}
  (he:ct (Jh base mu LL C1) ord N .canon fn ds=some r):bV f ds r:=
 lI (Te:=Jh base mu LL C1) jJ (KJ hb) (fun _ _ _ h=>by cases h) rfl (fun _ _ _ h=>by cases h) hf (by simp) hok he
end Go.Pd
end
section
namespace Go.Pd
open Go Go.Proofs
set_option maxRecDepth 100000
theorem Dz(K:FuncId→List D→Option D)(L:Nat)(C:Nat→Nat)(h:ByteArray)(B:Int)(M:ByteArray)(O S:Int)(U z:ByteArray)(J:Int)(V:ByteArray)(W Y:Int)(Z:ByteArray):ct (ed K L C) O0 N0 FinM.canon Tryz.f104 [D.agg [D.str h,D.int .i64 B,D.str M,D.int .i64 O,D.int .i64 S,D.str U],D.agg [D.str z,D.int .i64 J,D.str V,D.int .i64 W,D.int .i64 Y,D.str Z]]=
 (bB (Op.bytesLess (ByteArray.toList h) (ByteArray.toList z))
 (some (D.bool true))
 (bB (ByteArray.toList h==ByteArray.toList z)
 (some (D.bool (decide (B<J))))
 (some (D.bool false)))):=by kernel_rfl
theorem DA(h:FuncId→List D→Option D)(L:Nat)(C:Nat→Nat)(z:ByteArray)(B:Int)(S:ByteArray)(U V:Int)(W J:ByteArray)(K:Int)(Y:ByteArray)(Z a0:Int)(a1:ByteArray):ct (ed h L C) O0 N0 FinM.canon Tryz.f146 [D.agg [D.str z,D.int .i64 B,D.str S,D.int .i64 U,D.int .i64 V,D.str W],D.agg [D.str J,D.int .i64 K,D.str Y,D.int .i64 Z,D.int .i64 a0,D.str a1]]=
 (bL (h 217 [D.str z,D.str J]) fun r=>bC .i64 r fun x=>bL (h 101 [D.int .i64 B,D.int .i64 K]) fun M=>bC .i64 M fun a2=>bL (h 163 [D.slc true 2 [D.int .i64 x,D.int .i64 a2]]) fun O=>bC .i64 O fun a3=>some (D.int .i64 a3)):=by kernel_rfl
theorem DB(h:FuncId→List D→Option D)(L:Nat)(C:Nat→Nat)(vx vy:ByteArray):ct (ed h L C) O0 N0 FinM.canon Tryz.f217 [D.str vx,D.str vy]=
 (bL (h 272 [D.str vx]) fun r=>cG r fun b=>bL (h 272 [D.str vy]) fun B=>cG B fun z=>bB b
 (bB z
 (some (D.int .i64 0))
 (some (D.int .i64 (-1))))
 (bB z
 (some (D.int .i64 1))
 (bB (Op.bytesLess (ByteArray.toList vx) (ByteArray.toList vy))
 (some (D.int .i64 (-1)))
 (bB (!(Op.bytesLess (ByteArray.toList vx) (ByteArray.toList vy)||ByteArray.toList vx==ByteArray.toList vy))
 (some (D.int .i64 1))
 (some (D.int .i64 0)))))):=by kernel_rfl
theorem DC(h:FuncId→List D→Option D)(L:Nat)(C:Nat→Nat)(vx:ByteArray):ct (ed h L C) O0 N0 FinM.canon Tryz.f272 [D.str vx]=
 (some (D.bool !ByteArray.toList vx==ByteArray.toList vx)):=by kernel_rfl
def Ga:bH:=fun p=>match p with
 |60=>nm [0,2,4,8,9,10] [] [4]
 |_=>none
noncomputable def lR(h:FuncId→List D→Option D)(L:Nat)(C:Nat→Nat)(n:Nat)(a0:Bool)(a1:Nat)(Y:List D)(M:ByteArray)(O:Int)(S:ByteArray)(U V:Int)(W:ByteArray)(K z B:Int):Option D:=
 ec (ed h L C) O0 Ga FinM.canon Tryz.f273 (bt 5 7) [] n (St.mk (D.slc a0 a1 Y::J::D.fn (Fn.func 146) [] []::J::D.loc 4 0 0::J::J::J::D.int .i64 K::D.int .i64 z::D.int .i64 B::jn 38 []) (Z::Z::Z::Z::(1,some (Ob.box [D.str M,D.int .i64 O,D.str S,D.int .i64 U,D.int .i64 V,D.str W] false))::zn 44 []))
theorem pn(J:FuncId→List D→Option D)(L:Nat)(C:Nat→Nat)(n:Nat)(Z:Bool)(W:Nat)(z:List D)(K:ByteArray)(M:Int)(O:ByteArray)(S U:Int)(V:ByteArray)(Y h B:Int):lR J L C (n+1) Z W z K M O S U V Y h B=
 (bB (decide (h<B))
 (bT (decide (0≤IntKind.wrap .i64 (Int.fdiv (IntKind.wrap IntKind.u64 (IntKind.wrap .i64 (h+B))) (2^1))∧IntKind.wrap .i64 (Int.fdiv (IntKind.wrap IntKind.u64 (IntKind.wrap .i64 (h+B))) (2^1))<(W:Int)))
 (bi z (Int.toNat (IntKind.wrap .i64 (Int.fdiv (IntKind.wrap IntKind.u64 (IntKind.wrap .i64 (h+B))) (2^1)))*6+0) fun d=>bQ d fun s=>bi z (Int.toNat (IntKind.wrap .i64 (Int.fdiv (IntKind.wrap IntKind.u64 (IntKind.wrap .i64 (h+B))) (2^1)))*6+1) fun a0=>bC .i64 a0 fun x=>bi z (Int.toNat (IntKind.wrap .i64 (Int.fdiv (IntKind.wrap IntKind.u64 (IntKind.wrap .i64 (h+B))) (2^1)))*6+2) fun a3=>bQ a3 fun ac=>bi z (Int.toNat (IntKind.wrap .i64 (Int.fdiv (IntKind.wrap IntKind.u64 (IntKind.wrap .i64 (h+B))) (2^1)))*6+3) fun a4=>bC .i64 a4 fun ah=>bi z (Int.toNat (IntKind.wrap .i64 (Int.fdiv (IntKind.wrap IntKind.u64 (IntKind.wrap .i64 (h+B))) (2^1)))*6+4) fun a5=>bC .i64 a5 fun ai=>bi z (Int.toNat (IntKind.wrap .i64 (Int.fdiv (IntKind.wrap IntKind.u64 (IntKind.wrap .i64 (h+B))) (2^1)))*6+5) fun a6=>bQ a6 fun ad=>bL (J 146 [D.agg [D.str s,D.int .i64 x,D.str ac,D.int .i64 ah,D.int .i64 ai,D.str ad],D.agg [D.str K,D.int .i64 M,D.str O,D.int .i64 S,D.int .i64 U,D.str V]]) fun r=>bC .i64 r fun aj=>bB (decide (aj<0))
 (lR J L C n Z W z K M O S U V Y (IntKind.wrap .i64 (IntKind.wrap .i64 (Int.fdiv (IntKind.wrap IntKind.u64 (IntKind.wrap .i64 (h+B))) (2^1))+1)) B)
 (lR J L C n Z W z K M O S U V Y h (IntKind.wrap .i64 (Int.fdiv (IntKind.wrap IntKind.u64 (IntKind.wrap .i64 (h+B))) (2^1))))))
 (bB (decide (h<Y))
 (bT (decide (0≤h∧h<(W:Int)))
 (bi z (Int.toNat h*6+0) fun a7=>bQ a7 fun ae=>bi z (Int.toNat h*6+1) fun a8=>bC .i64 a8 fun ak=>bi z (Int.toNat h*6+2) fun a9=>bQ a9 fun af=>bi z (Int.toNat h*6+3) fun aa=>bC .i64 aa fun al=>bi z (Int.toNat h*6+4) fun a1=>bC .i64 a1 fun am=>bi z (Int.toNat h*6+5) fun a2=>bQ a2 fun ag=>bL (J 146 [D.agg [D.str ae,D.int .i64 ak,D.str af,D.int .i64 al,D.int .i64 am,D.str ag],D.agg [D.str K,D.int .i64 M,D.str O,D.int .i64 S,D.int .i64 U,D.str V]]) fun ab=>bC .i64 ab fun an=>some (D.tup [D.int .i64 h,D.bool (an==0)])))
 (some (D.tup [D.int .i64 h,D.bool false])))):=by kernel_rfl
theorem DD(z:FuncId→List D→Option D)(L:Nat)(C:Nat→Nat)(V:Bool)(h:Nat)(U:List D)(B:ByteArray)(J:Int)(K:ByteArray)(M O:Int)(S:ByteArray):ct (ed z L C) O0 Ga FinM.canon Tryz.f273 [D.slc V h U,D.agg [D.str B,D.int .i64 J,D.str K,D.int .i64 M,D.int .i64 O,D.str S],D.fn (Fn.func 146) [] []]=
 (lR z L C L V h U B J K M O S ((h:Int)) 0 ((h:Int))):=by kernel_rfl
theorem Gb(h:FuncId→List D→Option D)(L:Nat)(C:Nat→Nat)(J:ByteArray)(z:Int)(K:ByteArray)(B M:Int)(O:ByteArray):ct (ed h L C) O0 N0 FinM.canon Tryz.f64 [D.agg [D.str J,D.int .i64 z,D.str K,D.int .i64 B,D.int .i64 M,D.str O]]=
 (bL (h 80 [D.str J]) fun r=>cG r fun b=>bB (!b)
 (some (D.int .i64 8))
 (bB (decide (z<1))
 (some (D.int .i64 3))
 (bB (decide (z>1000))
 (some (D.int .i64 3))
 (bL (h 80 [D.str K]) fun U=>cG U fun S=>bB (!S)
 (some (D.int .i64 8))
 (bB (decide (B<1))
 (some (D.int .i64 3))
 (bB (decide (B>36))
 (some (D.int .i64 3))
 (bL (h 145 [D.agg [D.int .i64 M,D.str O]]) fun V=>bC .i64 V fun x=>some (D.int .i64 x)))))))):=by kernel_rfl
theorem Gc(h:FuncId→List D→Option D)(L:Nat)(C:Nat→Nat)(z:ByteArray)(B:Int)(J:ByteArray)(K M:Int)(O:ByteArray):ct (ed h L C) O0 N0 FinM.canon Tryz.f66 [D.agg [D.str z,D.int .i64 B,D.str J,D.int .i64 K,D.int .i64 M,D.str O]]=
 (bL (h 111 [D.str z]) fun r=>cG r fun b=>bL (h 119 [D.bool !b,D.int .i64 8]) fun W=>bC .i64 W fun x=>bL (h 118 [D.int .i64 B,D.int .i64 1,D.int .i64 1000]) fun Y=>cG Y fun S=>bL (h 119 [D.bool S,D.int .i64 3]) fun Z=>bC .i64 Z fun a6=>bL (h 111 [D.str J]) fun a0=>cG a0 fun U=>bL (h 119 [D.bool !U,D.int .i64 8]) fun a1=>bC .i64 a1 fun a7=>bL (h 118 [D.int .i64 K,D.int .i64 1,D.int .i64 36]) fun a2=>cG a2 fun V=>bL (h 119 [D.bool V,D.int .i64 3]) fun a3=>bC .i64 a3 fun a8=>bL (h 147 [D.agg [D.int .i64 M,D.str O]]) fun a4=>bC .i64 a4 fun a9=>bL (h 87 [D.slc true 5 [D.int .i64 x,D.int .i64 a6,D.int .i64 a7,D.int .i64 a8,D.int .i64 a9]]) fun a5=>bC .i64 a5 fun aa=>some (D.int .i64 aa)):=by kernel_rfl
def KL:bH:=fun p=>match p with
 |58=>nm [1,11,12,13] [4] [1,4]
 |_=>none
noncomputable def my(K:FuncId→List D→Option D)(L:Nat)(C:Nat→Nat)(n:Nat)(z:Bool)(B:Nat)(h:List D)(M O:Int):Option D:=
 ec (ed K L C) O0 KL FinM.canon Tryz.f65 (bt 5 11) [] n (St.mk (J::D.loc 1 0 0::jn 9 (D.slc z B h::D.int .i64 M::D.int .i64 O::jn 26 [])) (Z::(1,some (Ob.box [D.slc z B h] false))::zn 38 []))
theorem qS(B:FuncId→List D→Option D)(L:Nat)(C:Nat→Nat)(n:Nat)(M:Bool)(J:Nat)(z:List D)(K h:Int):my B L C (n+1) M J z K h=
 (bB (decide (h<K))
 (bT (decide (0≤h∧h<(J:Int)))
 (bi z (Int.toNat h*6+0) fun d=>bQ d fun s=>bi z (Int.toNat h*6+1) fun a0=>bC .i64 a0 fun x=>bi z (Int.toNat h*6+2) fun a3=>bQ a3 fun O=>bi z (Int.toNat h*6+3) fun a4=>bC .i64 a4 fun U=>bi z (Int.toNat h*6+4) fun a5=>bC .i64 a5 fun W=>bi z (Int.toNat h*6+5) fun a6=>bQ a6 fun S=>bL (B 66 [D.agg [D.str s,D.int .i64 x,D.str O,D.int .i64 U,D.int .i64 W,D.str S]]) fun r=>bC .i64 r fun Y=>bB (decide (h>0))
 (bT (decide (0≤IntKind.wrap .i64 (h-1)∧IntKind.wrap .i64 (h-1)<(J:Int)))
 (bi z (Int.toNat (IntKind.wrap .i64 (h-1))*6+0) fun a7=>bQ a7 fun ag=>bi z (Int.toNat (IntKind.wrap .i64 (h-1))*6+1) fun a8=>bC .i64 a8 fun ak=>bi z (Int.toNat (IntKind.wrap .i64 (h-1))*6+2) fun a9=>bQ a9 fun ah=>bi z (Int.toNat (IntKind.wrap .i64 (h-1))*6+3) fun aa=>bC .i64 aa fun al=>bi z (Int.toNat (IntKind.wrap .i64 (h-1))*6+4) fun a1=>bC .i64 a1 fun am=>bi z (Int.toNat (IntKind.wrap .i64 (h-1))*6+5) fun a2=>bQ a2 fun ai=>bL (B 146 [D.agg [D.str ag,D.int .i64 ak,D.str ah,D.int .i64 al,D.int .i64 am,D.str ai],D.agg [D.str s,D.int .i64 x,D.str O,D.int .i64 U,D.int .i64 W,D.str S]]) fun ab=>bC .i64 ab fun an=>bL (B 119 [D.bool (decide (an≥0)),D.int .i64 11]) fun ac=>bC .i64 ac fun ao=>bL (B 87 [D.slc true 2 [D.int .i64 Y,D.int .i64 ao]]) fun ad=>bC .i64 ad fun Z=>bB (Z !=0)
 (some (D.int .i64 Z))
 (my B L C n M J z K (IntKind.wrap .i64 (h+1)))))
 (bL (B 119 [D.bool false,D.int .i64 11]) fun ae=>bC .i64 ae fun aj=>bL (B 87 [D.slc true 2 [D.int .i64 Y,D.int .i64 aj]]) fun af=>bC .i64 af fun V=>bB (V !=0)
 (some (D.int .i64 V))
 (my B L C n M J z K (IntKind.wrap .i64 (h+1))))))
 (some (D.int .i64 0))):=by kernel_rfl
theorem Gd(z:FuncId→List D→Option D)(L:Nat)(C:Nat→Nat)(J:Bool)(h:Nat)(B:List D):ct (ed z L C) O0 KL FinM.canon Tryz.f65 [D.agg [D.slc J h B]]=
 (bB (decide ((h:Int)>1000))
 (some (D.int .i64 5))
 (my z L C L J h B ((h:Int)) 0)):=by kernel_rfl
def Ji:bH:=fun p=>match p with
 |58=>nm [0,3] [] []
 |467=>nm [0,3] [] []
 |3731=>nm [0,3,4] [] []
 |_=>none
noncomputable def se(h:FuncId→List D→Option D)(L:Nat)(C:Nat→Nat)(n:Nat)(K:Bool)(M:Nat)(B:List D)(z:Int):Option D:=
 kw (ed h L C) O0 Ji FinM.canon Tryz.f35 (bt 8 203) [n] (C 467) (St.mk (D.slc K M B::J::J::D.int .i64 z::jn 37 []) (zn 41 []))
noncomputable def gu(h:FuncId→List D→Option D)(L:Nat)(C:Nat→Nat)(n:Nat)(M:Bool)(O:Nat)(K:List D)(B z:Int):Option D:=
 kw (ed h L C) O0 Ji FinM.canon Tryz.f35 (bt 11 1611) [n] (C 3731) (St.mk (D.slc M O K::J::J::D.int .i64 B::D.int .i64 z::jn 36 []) (zn 41 []))
noncomputable def pp(h:FuncId→List D→Option D)(L:Nat)(C:Nat→Nat)(n:Nat)(K:Bool)(M:Nat)(B:List D)(z:Int):Option D:=
 ec (ed h L C) O0 Ji FinM.canon Tryz.f35 (bt 5 11) [] n (St.mk (D.slc K M B::J::J::D.int .i64 z::jn 37 []) (zn 41 []))
theorem wK(h:FuncId→List D→Option D)(L:Nat)(C:Nat→Nat)(n:Nat)(J:Bool)(K:Nat)(B:List D)(z:Int)(hC:∀t,C t=1):se h L C n J K B z=
 (pp h L C n J K B (IntKind.wrap .i64 (z+1))):=by
 unfold se;rw[hC]
 kernel_rfl
theorem uG(z:FuncId→List D→Option D)(L:Nat)(C:Nat→Nat)(n:Nat)(K:Bool)(M:Nat)(J:List D)(B h:Int)(hC:∀t,C t=1):gu z L C n K M J B h=
 (bB (h !=0)
 (some (D.int .i64 h))
 (se z L C n K M J B)):=by
 unfold gu;rw[hC]
 kernel_rfl
theorem qT(J:FuncId→List D→Option D)(L:Nat)(C:Nat→Nat)(n:Nat)(K:Bool)(B:Nat)(z:List D)(h:Int):pp J L C (n+1) K B z h=
 (bB (decide (h<(B:Int)))
 (bT (decide (0≤h∧h<(B:Int)))
 (bi z (Int.toNat h*6+0) fun d=>bQ d fun s=>bi z (Int.toNat h*6+1) fun O=>bC .i64 O fun x=>bi z (Int.toNat h*6+2) fun a2=>bQ a2 fun ab=>bi z (Int.toNat h*6+3) fun a3=>bC .i64 a3 fun aj=>bi z (Int.toNat h*6+4) fun a4=>bC .i64 a4 fun ak=>bi z (Int.toNat h*6+5) fun a5=>bQ a5 fun ac=>bL (J 64 [D.agg [D.str s,D.int .i64 x,D.str ab,D.int .i64 aj,D.int .i64 ak,D.str ac]]) fun r=>bC .i64 r fun M=>bB (M==0)
 (bB (decide (h>0))
 (bT (decide (0≤IntKind.wrap .i64 (h-1)∧IntKind.wrap .i64 (h-1)<(B:Int)))
 (bi z (Int.toNat (IntKind.wrap .i64 (h-1))*6+0) fun a6=>bQ a6 fun ad=>bi z (Int.toNat (IntKind.wrap .i64 (h-1))*6+1) fun a7=>bC .i64 a7 fun al=>bi z (Int.toNat (IntKind.wrap .i64 (h-1))*6+2) fun a8=>bQ a8 fun ae=>bi z (Int.toNat (IntKind.wrap .i64 (h-1))*6+3) fun a9=>bC .i64 a9 fun am=>bi z (Int.toNat (IntKind.wrap .i64 (h-1))*6+4) fun S=>bC .i64 S fun an=>bi z (Int.toNat (IntKind.wrap .i64 (h-1))*6+5) fun U=>bQ U fun af=>bT (decide (0≤h∧h<(B:Int)))
 (bi z (Int.toNat h*6+0) fun V=>bQ V fun ag=>bi z (Int.toNat h*6+1) fun W=>bC .i64 W fun ao=>bi z (Int.toNat h*6+2) fun Y=>bQ Y fun ah=>bi z (Int.toNat h*6+3) fun Z=>bC .i64 Z fun ap=>bi z (Int.toNat h*6+4) fun a0=>bC .i64 a0 fun aq=>bi z (Int.toNat h*6+5) fun a1=>bQ a1 fun ai=>bL (J 104 [D.agg [D.str ad,D.int .i64 al,D.str ae,D.int .i64 am,D.int .i64 an,D.str af],D.agg [D.str ag,D.int .i64 ao,D.str ah,D.int .i64 ap,D.int .i64 aq,D.str ai]]) fun aa=>cG aa fun b=>bB (!b)
 (gu J L C n K B z h 11)
 (gu J L C n K B z h M))))
 (gu J L C n K B z h M))
 (gu J L C n K B z h M)))
 (some (D.int .i64 0))):=by kernel_rfl
theorem Ge(z:FuncId→List D→Option D)(L:Nat)(C:Nat→Nat)(J:Bool)(h:Nat)(B:List D):ct (ed z L C) O0 Ji FinM.canon Tryz.f35 [D.slc J h B]=
 (bB (decide ((h:Int)>1000))
 (some (D.int .i64 5))
 (pp z L C L J h B 0)):=by kernel_rfl
theorem DE(h:FuncId→List D→Option D)(L:Nat)(C:Nat→Nat)(B:Bool)(J:Nat)(z:List D)(M:Bool)(O:Nat)(K:List D):ct (ed h L C) O0 N0 FinM.canon Tryz.f148 [D.agg [D.slc B J z],D.agg [D.slc M O K]]=
 (bL (h 219 [D.slc B J z,D.slc M O K,D.fn (Fn.func 146) [] []]) fun r=>fA r 2 fun c=>bi c 0 fun d=>dH d fun f n U=>bi c 1 fun V=>cG V fun b=>bL (h 119 [D.bool !b,D.int .i64 29]) fun W=>bC .i64 W fun x=>bL (h 119 [D.bool (decide ((n:Int)>1000)),D.int .i64 5]) fun Y=>bC .i64 Y fun a0=>bL (h 87 [D.slc true 2 [D.int .i64 x,D.int .i64 a0]]) fun Z=>bC .i64 Z fun S=>bB (S !=0)
 (some (D.tup [D.agg [D.slc true 0 []],D.int .i64 S]))
 (some (D.tup [D.agg [D.slc f n U],D.int .i64 0]))):=by kernel_rfl
theorem Gf(h:FuncId→List D→Option D)(L:Nat)(C:Nat→Nat)(B:Bool)(J:Nat)(z:List D)(K:ByteArray)(M:Int)(O:ByteArray)(S U:Int)(V:ByteArray):ct (ed h L C) O0 N0 FinM.canon Tryz.f67 [D.agg [D.slc B J z],D.agg [D.str K,D.int .i64 M,D.str O,D.int .i64 S,D.int .i64 U,D.str V]]=
 (bL (h 65 [D.agg [D.slc B J z]]) fun r=>bC .i64 r fun x=>bL (h 66 [D.agg [D.str K,D.int .i64 M,D.str O,D.int .i64 S,D.int .i64 U,D.str V]]) fun a2=>bC .i64 a2 fun a5=>bL (h 87 [D.slc true 2 [D.int .i64 x,D.int .i64 a5]]) fun a3=>bC .i64 a3 fun W=>bB (W !=0)
 (some (D.tup [D.agg [D.slc true 0 []],D.int .i64 W]))
 (bL (h 148 [D.agg [D.slc B J z],D.agg [D.slc true 1 [D.str K,D.int .i64 M,D.str O,D.int .i64 S,D.int .i64 U,D.str V]]]) fun a4=>fA a4 2 fun c=>bi c 0 fun d=>jo d 1 fun Y=>bi Y 0 fun a0=>dH a0 fun f n Z=>bi c 1 fun a1=>bC .i64 a1 fun a6=>some (D.tup [D.agg [D.slc f n Z],D.int .i64 a6]))):=by kernel_rfl
theorem Gg(h:FuncId→List D→Option D)(L:Nat)(C:Nat→Nat)(B:Bool)(J:Nat)(z:List D)(M:Bool)(O:Nat)(K:List D):ct (ed h L C) O0 N0 FinM.canon Tryz.f68 [D.agg [D.slc B J z],D.agg [D.slc M O K]]=
 (bL (h 65 [D.agg [D.slc B J z]]) fun r=>bC .i64 r fun x=>bL (h 65 [D.agg [D.slc M O K]]) fun Z=>bC .i64 Z fun a2=>bL (h 87 [D.slc true 2 [D.int .i64 x,D.int .i64 a2]]) fun a0=>bC .i64 a0 fun S=>bB (S !=0)
 (some (D.tup [D.agg [D.slc true 0 []],D.int .i64 S]))
 (bL (h 148 [D.agg [D.slc B J z],D.agg [D.slc M O K]]) fun a1=>fA a1 2 fun c=>bi c 0 fun d=>jo d 1 fun U=>bi U 0 fun W=>dH W fun f n V=>bi c 1 fun Y=>bC .i64 Y fun a3=>some (D.tup [D.agg [D.slc f n V],D.int .i64 a3]))):=by kernel_rfl
theorem Gi(h:FuncId→List D→Option D)(L:Nat)(C:Nat→Nat)(B:Bool)(J:Nat)(z:List D):ct (ed h L C) O0 N0 FinM.canon Tryz.f69 [D.agg [D.slc B J z]]=
 (bL (h 65 [D.agg [D.slc B J z]]) fun r=>bC .i64 r fun x=>bB (x !=0)
 (some (D.tup [D.slc true 0 [],D.int .i64 x]))
 (bL (h 98 [D.agg [D.slc B J z]]) fun O=>fA O 2 fun c=>bi c 0 fun d=>dH d fun f n K=>bi c 1 fun M=>dH M fun _f_1 _n_1 _c_2=>some (D.tup [D.slc f n K,D.int .i64 0]))):=by kernel_rfl
def KM:bH:=fun p=>match p with
 |58=>nm [3,6,7,8] [5] [5,15]
 |_=>none
noncomputable def mz(z:FuncId→List D→Option D)(L:Nat)(C:Nat→Nat)(n:Nat)(O:Bool)(S:Nat)(M:List D)(h:Ow)(B K:Int):Option D:=
 ec (ed z L C) O0 KM FinM.canon Tryz.f30 (bt 5 11) [] n (St.mk (J::J::J::rJ 15 h::J::J::D.slc O S M::D.int .i64 B::D.int .i64 K::jn 9 []) (zn 15 [Ap 131 6 h,Z,Z]))
theorem pq(K:FuncId→List D→Option D)(L:Nat)(C:Nat→Nat)(n:Nat)(M:Bool)(J:Nat)(z:List D)(B h:Int):mz K L C (n+1) M J z (Ow.nil) B h=
 (bB (decide (h<B))
 (bT (decide (0≤h∧h<(J:Int)))
 (bi z (Int.toNat h*6+0) fun d=>bQ d fun s=>bi z (Int.toNat h*6+1) fun O=>bC .i64 O fun x=>bi z (Int.toNat h*6+2) fun S=>bQ S fun Y=>bi z (Int.toNat h*6+3) fun U=>bC .i64 U fun a0=>bi z (Int.toNat h*6+4) fun V=>bC .i64 V fun a1=>bi z (Int.toNat h*6+5) fun W=>bQ W fun Z=>mz K L C n M J z (Ow.own 1 [D.str s,D.int .i64 x,D.str Y,D.int .i64 a0,D.int .i64 a1,D.str Z]) B (IntKind.wrap .i64 (h+1))))
 (some (D.slc true 0 []))):=by kernel_rfl
theorem pu(O:FuncId→List D→Option D)(L:Nat)(C:Nat→Nat)(n:Nat)(S:Bool)(K:Nat)(z:List D)(B:Nat)(M:List D)(J h:Int):mz O L C (n+1) S K z (Ow.own B M) J h=
 (bB (decide (h<J))
 (bT (decide (0≤h∧h<(K:Int)))
 (bi z (Int.toNat h*6+0) fun W=>bQ W fun a1=>bi z (Int.toNat h*6+1) fun Y=>bC .i64 Y fun a4=>bi z (Int.toNat h*6+2) fun Z=>bQ Z fun a2=>bi z (Int.toNat h*6+3) fun a0=>bC .i64 a0 fun a5=>bi z (Int.toNat h*6+4) fun U=>bC .i64 U fun a6=>bi z (Int.toNat h*6+5) fun V=>bQ V fun a3=>bT (decide ((B+1)*72≤cH∧B+1≤9223372036854775807))
 (mz O L C n S K z (Ow.own (B+1) (M++[D.str a1,D.int .i64 a4,D.str a2,D.int .i64 a5,D.int .i64 a6,D.str a3])) J (IntKind.wrap .i64 (h+1)))))
 (some (D.slc false B M))):=by kernel_rfl
theorem Gj(z:FuncId→List D→Option D)(L:Nat)(C:Nat→Nat)(J:Bool)(h:Nat)(B:List D):ct (ed z L C) O0 KM FinM.canon Tryz.f30 [D.slc J h B]=
 (mz z L C L J h B (Ow.nil) ((h:Int)) 0):=by kernel_rfl
def KN:bH:=fun p=>match p with
 |58=>nm [0,5] [] []
 |_=>none
noncomputable def pv(h:FuncId→List D→Option D)(L:Nat)(C:Nat→Nat)(n:Nat)(K:Bool)(M:Nat)(B:List D)(z:Int):Option D:=
 ec (ed h L C) O0 KN FinM.canon Tryz.f31 (bt 5 11) [] n (St.mk (D.slc K M B::J::J::J::J::D.int .i64 z::jn 36 []) (zn 42 []))
theorem qU(J:FuncId→List D→Option D)(L:Nat)(C:Nat→Nat)(n:Nat)(K:Bool)(z:Nat)(B:List D)(h:Int):pv J L C (n+1) K z B h=
 (bB (decide (h<(z:Int)))
 (bT (decide (0≤h∧h<(z:Int)))
 (bi B (Int.toNat h*6+0) fun d=>bQ d fun s=>bB (decide (((ByteArray.size s):Int)>60))
 (some (D.bool false))
 (bT (decide (0≤h∧h<(z:Int)))
 (bi B (Int.toNat h*6+2) fun M=>bQ M fun S=>bB (decide (((ByteArray.size S):Int)>60))
 (some (D.bool false))
 (bT (decide (0≤h∧h<(z:Int)))
 (bi B (Int.toNat h*6+4+1) fun O=>bQ O fun U=>bB (decide (((ByteArray.size U):Int)>60))
 (some (D.bool false))
 (pv J L C n K z B (IntKind.wrap .i64 (h+1)))))))))
 (some (D.bool true))):=by kernel_rfl
theorem Gk(z:FuncId→List D→Option D)(L:Nat)(C:Nat→Nat)(J:Bool)(h:Nat)(B:List D)(K:Int):ct (ed z L C) O0 KN FinM.canon Tryz.f31 [D.slc J h B,D.int .i64 K]=
 (bB (decide ((h:Int)>K))
 (some (D.bool false))
 (pv z L C L J h B 0)):=by kernel_rfl
end Go.Pd
end
