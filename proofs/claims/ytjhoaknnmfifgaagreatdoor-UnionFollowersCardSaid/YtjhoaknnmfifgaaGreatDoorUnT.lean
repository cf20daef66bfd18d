import Derived.Shelf.Spec.SlicesInsert
import Derived.Laws.CopyRow
import Derived.Lib.AppendZerosOnto
import Derived.Test.YtjhoaknnmfifgaaGreatDoorPdFf
import Derived.Test.YtjhoaknnmfifgaaGreatDoorUnA
import Derived.Test.YtjhoaknnmfifgaaGreatDoorUnG
import Derived.KernelRfl
section
namespace Go.Pd
open Go Go.Proofs Go.RowKit Go.Lib
set_option maxRecDepth 100000
theorem ki{P:Program}(w:World)(dT sT ty elem:TypeId)(k g o dLen dCap:Nat)(a:Addr)(sLen sCap:Nat)(cur:Array Value)(t:TypeId)(cs:List Value)
  (hu:P.underlying dT=some (.slice elem)) (hs:(P.info? elem).map (·.size)=some k)
  (hg:w.heap[g]?=some (.cells cur t (0,0))) (hn:cs.length=Nat.min sLen dLen*k)
  (hsrc:∀(j:Nat) v,cs[j]?=some v→w.cell? (a.add j)=some v) (hfit:o+cs.length≤cur.size) (h1:∀v∈cs,v.oneCell'=true):
  (Builtin.copy_ #[dT,sT] ty #[.slice (some ⟨g,o,none⟩) dLen dCap,.slice (some a) sLen sCap]).run P w=
   .ok (goInt (Nat.min sLen dLen:Nat)) (w.setRow g (cur.toList.take o++cs++cur.toList.drop (o+cs.length)).toArray):=by
 have hl:=run_loadCells_list (P:=P) w a cs hsrc;have hst:=run_storeCells_at P g o t cs 0 cur w hg (by simpa using hfit) h1;cases hq:P.info? elem with
 |none=>simp[hq] at hs
 |some i=>
  have hi:i.size=k:=by simpa [hq] using hs
  simp[Builtin.copy_,run_underlying hu,Builtin.lenOf,Builtin.firstCells,sizeOf,typeInfo,hq,hi,←hn,hl,hst]
noncomputable def infoM:TypeInfo:=(Tryz.prog.info? 130).get (by kernel_rfl)
theorem uM:Tryz.prog.info? 130=some infoM:=by kernel_rfl
theorem ed:infoM.size=6:=by kernel_rfl
theorem kj:(Tryz.prog.info? 130).map (·.size)=some 6:=by kernel_rfl
def zM:Value:= .agg #[.string ⟨#[]⟩,.int .i64 0,.string ⟨#[]⟩,.int .i64 0,.int .i64 0,.string ⟨#[]⟩]
theorem pq:infoM.zero=some zM:=by kernel_rfl
structure AsideM(p:Prop):Prop where
 out:p
theorem lO{α:Type}(A D:List α){k:Nat}(h:A.length=k):(A++D).take k=A:=by
 rw[←h,List.take_left]
theorem Bi{α:Type}(A D:List α){k:Nat}(h:A.length=k):(A++D).drop k=D:=by
 rw[←h,List.drop_left]
theorem yP{α:Type}(X T D V:List α){p q:Nat}(hp:p≤X.length)(hpq:q+V.length=p):(X.take p++T++D).take q++V++(X.take p++T++D).drop (q+V.length)=X.take q++(V++T)++D:=by
 have e1:(X.take p).length=p:=by rw[zd7];omega
 rw[hpq,za8 (X.take p) T D,Bi _ _ e1,List.take_append_of_le_length (by rw[e1];omega),List.take_take,Nat.min_eq_left (by omega)];simp only[za8]
theorem uN{w:World}{ad:Addr}{k:Nat}{u:Value}(h:w.cell? (ad.add k)=some u):∃c t f,w.heap[ad.block]?=some (.cells c t f)∧c.size≠0:=by
 have hb:(ad.add k).block=ad.block:=by unfold Addr.add;split<;>rfl
 unfold World.cell? at h;rw[hb] at h;split at h
 ·rename_i c t f hc;refine⟨c,t,f,hc,fun h0=> ?_⟩;split at h
  ·cases h
  ·have:=(zb7.1 h).1;omega
 ·cases h
theorem qU{w W:World}{ad:Addr}(h:W.heap[ad.block]?=w.heap[ad.block]?)(j:Nat):W.cell? (ad.add j)=w.cell? (ad.add j):=by
 have hb:(ad.add j).block=ad.block:=by unfold Addr.add;split<;>rfl
 unfold World.cell?;rw[hb,h]
theorem wV{P:Program}(w:World)(tS tR e:TypeId)(ht:P.underlying tS=some (.slice e))(size:Nat)(hz:∀w,(Go.sizeOf e).run P w= .ok size w)
  (a b:Addr) (la ca lb cb:Nat) (hne:a.block≠b.block) (tB:TypeId) (kB:Nat) (hsb:w.shape? b.block=some (tB,kB)) (hfb:∀k,w.frozen? ⟨b.block,k,none⟩=false) (ha:∃c t f,w.heap[a.block]?=some (.cells c t f)∧c.size≠0) (hbs:b.spot=none:=by rfl):
  (Extern.SlicesOverlaps.overlaps #[tS,tS] #[tR] #[.slice (some a) la ca,.slice (some b) lb cb]).run P w= .ok (.bool false) w:=by
 have hnb:(a.block !=b.block)=true:=by simpa using hne
 have hnb':(a.block==b.block)=false:=by simpa using hne
 obtain⟨c,t,f,hc,h0c⟩:=ha;have hsa:w.shape? a.block=some (t,c.size):=by simp[World.shape?,hc]
 obtain⟨bb,bo,bs⟩:=b;simp only at hbs hsb hfb hnb hnb';subst hbs;have hfb0:w.frozen? ⟨bb,bo,none⟩=false:=hfb bo;have hfb1:w.frozen? ⟨bb,kB,none⟩=false:=hfb kB;change Sem.run P (α:=Value) (do
  let some t:=(#[tS,tS]:Array TypeId)[0]?|stuck "slices.overlaps: no parameter types"
  let .slice elem←underlying t|stuck "slices.overlaps: slice type expected"
  let size←sizeOf elem
  match(some a:Option Addr),(some (⟨bb,bo,none⟩:Addr):Option Addr) with
  |some a,some b=>
   if la=0∨lb=0∨size=0 then pure (Value.bool false)
   else if a.block !=b.block&&(←frozen a)&&(←frozen b) then unsupported .addressObserved
   else do
    if a.block !=b.block then do
     noView a;noView b
     if←mayBeOne a b then return Value.bool ((←choose (.extern "sameAddr.stringBytes" 2))==1)
    pure (Value.bool (a.block==b.block&&a.off<b.off+lb*size&&b.off<a.off+la*size))
  |_,_=>pure (Value.bool false)) w=_
 by_cases h0:la=0∨lb=0∨size=0
 ·simp[run_underlying ht,hz,h0]
 ·obtain⟨kc,hkc⟩:∃kc,c.size=kc+1:=⟨c.size-1,by omega⟩;rw[hkc] at hsa;cases hfa:w.frozen? a<;>cases hfe:w.frozen? {block:=a.block,off:=kc+1}<;>
   simp[run_underlying ht,hz,h0,hnb,hnb',frozen,noView,viewAt,mayBeOne,stringish,shape,Sem.run,hsa,hsb,hfa,hfe,hfb0,hfb1]
set_option maxHeartbeats 4000000 in
theorem yQ(b n c i m vc:Nat)(ad:Addr)(C:Array Value)(news:List Value)(w:World)(hi:i<n)(hm:0<m)(hroom:n+m≤c)(hc63:c≤9223372036854775807)(hvb:ad.block≠b)
  (hb:w.heap[b]?=some (.cells C 130 (0,0))) (hC:C.size=c*6) (hvl:news.length=m*6) (hrd:∀(j:Nat) (u:Value),news[j]?=some u→w.cell? (ad.add j)=some u)
  (h1c:∀v∈C.toList.take (n*6),v.oneCell'=true) (h1v:∀v∈news,v.oneCell'=true):
  Calls Tryz.prog 274 #[.slice (some ⟨b,0,none⟩) n c,.int .i64 i,.slice (some ad) m vc] w fun e w'=>
   e= .returned (.slice (some ⟨b,0,none⟩) (n+m) c)∧∃R1 R2,w'=(w.drew.setRow b R1).setRow b R2∧w'.heap[b]?=some (.cells R2 130 (0,0))∧R2.size=c*6∧R2.toList.take ((n+m)*6)=C.toList.take (i*6)++(news++(C.toList.take (n*6)).drop (i*6)):=by
 have t0:=Tryz.underlying0;have a0:=Tryz.isAgg0;have z0:=Tryz.sizeOf0;have v0:=Tryz.zeroValue0;have t3:=Tryz.underlying3;have a3:=Tryz.isAgg3;have z3:=Tryz.sizeOf3;have v3:=Tryz.zeroValue3;have t4:=Tryz.underlying4;have a4:=Tryz.isAgg4;have z4:=Tryz.sizeOf4;have v4:=Tryz.zeroValue4;have t57:=Tryz.underlying57;have a57:=Tryz.isAgg57;have z57:=Tryz.sizeOf57;have v57:=Tryz.zeroValue57;have a130:=Tryz.isAgg130;have z130:=Tryz.sizeOf130;have u0:=run_underlying t0;have u3:=run_underlying t3;have u4:=run_underlying t4;have u57:=run_underlying t57;have mixed:Tryz.prog.follows .mixedOrders=true:=by kernel_rfl
 have hz1:¬((m:Int)=0):=by omega
 have hz2:¬((i:Int)=(n:Int)):=by omega
 obtain⟨u0',hu0⟩:∃u,news[0]?=some u:=⟨news[0]'(by omega),zc9 (by omega)⟩;have hsh:=uN (hrd 0 u0' hu0);have hov:∀o lb cb,(callFunc 327 #[.slice (some ad) m vc,.slice (some ⟨b,o,none⟩) lb cb]).run Tryz.prog w= .ok (.value (.bool false)) w:=fun o lb cb=>by
  rw[run_callFunc_extern Tryz.func327 (by kernel_rfl) (by kernel_rfl) (by kernel_rfl) (e:=Extern.SlicesOverlaps.overlaps #[57,57] #[4]) (by kernel_rfl),
   wV w 57 4 130 t57 6 z130 ad ⟨b,o,none⟩ m vc lb cb hvb 130 C.size (by simp[World.shape?,hb]) (fun k=>by simp[World.frozen?,hb]) hsh]
  rfl
 have hb1:(0:Int)≤(i:Int)+(m:Int):=by omega
 have hin:i≤n:=by omega
 have htn:((i:Int)+(m:Int)).toNat=i+m:=by omega
 have hb2:¬(c=i+m):=by omega
 have hb3:(i:Int)≤(n:Int)+(m:Int):=by omega
 have hb4:¬(c=i):=by omega
 have hw1:IntKind.i64.wrap ((i:Int)+(m:Int))=(i:Int)+(m:Int):=by rw[IntKind.wrap_i64];omega
 have hle:i*6≤n*6:=Nat.mul_le_mul_right _ hin;have hnm:(n+m)*6≤c*6:=Nat.mul_le_mul_right _ hroom;rw[Nat.add_mul] at hnm;have hnl:((C.toList.take (n*6)).drop (i*6)).length=(n-i)*6:=by
  rw[zd6,zd7,Array.length_toList,hC,Nat.sub_mul];omega
 obtain⟨R1,hR1⟩:∃R1,R1=(C.toList.take ((i+m)*6)++(C.toList.take (n*6)).drop (i*6)++C.toList.drop ((i+m)*6+((C.toList.take (n*6)).drop (i*6)).length)).toArray:=⟨_,rfl⟩;have hR1s:R1.size=c*6:=by
  have him:(i+m)*6=i*6+m*6:=Nat.add_mul ..;rw[hR1,List.size_toArray,za6,za6,hnl,zd7,zd6,Array.length_toList,hC,Nat.sub_mul];omega
 obtain⟨R2,hR2⟩:∃R2,R2=(R1.toList.take (i*6)++news++R1.toList.drop (i*6+(news).length)).toArray:=⟨_,rfl⟩;have B:AsideM (R2.size=c*6∧R2.toList.take ((n+m)*6)=C.toList.take (i*6)++(news++(C.toList.take (n*6)).drop (i*6))):=by
  have him:(i+m)*6=i*6+m*6:=Nat.add_mul ..;have hni:(n-i)*6=n*6-i*6:=Nat.sub_mul ..;have hX:C.toList.length=c*6:=by rw[Array.length_toList,hC]
  have hti:(C.toList.take (i*6)).length=i*6:=by rw[zd7,hX];omega
  have e:=yP C.toList ((C.toList.take (n*6)).drop (i*6)) (C.toList.drop ((i+m)*6+((C.toList.take (n*6)).drop (i*6)).length)) (news) (p:=(i+m)*6) (q:=i*6) (by rw[hX];omega) (by rw[hvl];omega);rw[hR1] at hR2;simp only at hR2;rw[e] at hR2;refine⟨?_,?_⟩
  ·rw[hR2,List.size_toArray];simp only[za6,hti,hvl,hnl,zd6,hX];omega
  ·rw[hR2];exact lO _ _ (by simp only[za6,hti,hvl,hnl];rw[Nat.add_mul];omega)
 have cat:∀(W:World) (g:Nat) (c0:Array Value) (o j:Nat) (v:Value),W.heap[g]?=some (.cells c0 130 (0,0))→c0[o+j]?=some v→W.cell? (Addr.add ⟨g,o,none⟩ j)=some v:=fun W g c0 o j v hg hv=>by
  rw[Addr.add_lit];simp[World.cell?,hg,hv]
 have hcp1:∀W:World,W.heap[b]?=some (.cells C 130 (0,0))→∀ty dc sc,(Builtin.copy_ #[57,57] ty #[.slice (some ⟨b,(i+m)*6,none⟩) (n+m-(i+m)) dc,.slice (some ⟨b,i*6,none⟩) (n+m-i) sc]).run Tryz.prog W= .ok (goInt (Nat.min (n+m-i) (n+m-(i+m)):Nat)) (W.setRow b R1):=fun W hW ty dc sc=>by
  rw[ki W 57 57 ty 130 6 b ((i+m)*6) (n+m-(i+m)) dc ⟨b,i*6,none⟩ (n+m-i) sc C 130 ((C.toList.take (n*6)).drop (i*6)) t57 kj hW (by rw[hnl];congr 1;simp only[Nat.min_def];split<;>omega) (fun j v hj=>cat W b C _ j v hW (by
   rw[List.getElem?_drop,List.getElem?_take] at hj;split at hj
   ·simpa using hj
   ·cases hj)) (by have him:(i+m)*6=i*6+m*6:=Nat.add_mul ..;rw[hnl,Nat.sub_mul];omega) (fun v hv=>h1c v (List.mem_of_mem_drop hv)),←hR1]
 have hcp2:∀W:World,W.heap[b]?=some (.cells R1 130 (0,0))→W.heap[ad.block]?=w.heap[ad.block]?→∀ty dc,(Builtin.copy_ #[57,57] ty #[.slice (some ⟨b,i*6,none⟩) (n+m-i) dc,.slice (some ad) m vc]).run Tryz.prog W= .ok (goInt (Nat.min m (n+m-i):Nat)) (W.setRow b R2):=fun W hW hW2 ty dc=>by
  rw[ki W 57 57 ty 130 6 b (i*6) (n+m-i) dc ad m vc R1 130 (news) t57 kj hW (by rw[hvl];congr 1;simp only[Nat.min_def];split<;>omega) (fun j v hj=>(qU hW2 j).trans (hrd j v hj)) (by rw[hvl,hR1s];omega) h1v,←hR2]
 have hd1:w.drew.heap[b]?=some (.cells C 130 (0,0)):=hb;have hd2:(w.drew.setRow b R1).heap[b]?=some (.cells R1 130 (0,0)):=setRow_heap _ b C R1 _ _ hd1;have hd3:(w.drew.setRow b R1).heap[ad.block]?=w.heap[ad.block]?:=by rw[setRow_other _ b ad.block _ hvb];rfl
 clear hR1 hR2 hnl hvl hR1s cat
 go_enter Tryz.func274,Tryz.ntmps274
 go_wp2_with (simp only[hov])
 go_region_law_o (refine step_copy_runI rfl _ _ 57 57 rfl _ _ (by simp[Act.eval,Act.put]) (by simp[Act.eval,Act.put]) (hcp1 _ hd1 _ _ _) ?_)
 go_wp2_with (at_builtin;refine wpList_copy_runI _ rfl _ _ 57 57 rfl _ _ rfl rfl (hcp2 _ hd2 hd3 _ _) ?_)
 go_ret
 exact⟨rfl,R1,R2,rfl,setRow_heap _ b R1 R2 _ _ hd2,B.out⟩
set_option maxHeartbeats 4000000 in
theorem C4(b n c m vc:Nat)(ad:Addr)(C:Array Value)(news:List Value)(w:World)(hm:0<m)(hnc:n≤c)(hc63:c≤maxLen)(hbig:(n+m)*infoM.bytes≤140737488355328)(hnm:n+m≤maxLen)
  (hb:w.heap[b]?=some (.cells C 130 (0,0))) (hC:C.size=c*6) (hvl:news.length=m*6) (hrd:∀(j:Nat) (u:Value),news[j]?=some u→w.cell? (ad.add j)=some u)
  (h1v:∀v∈news,v.oneCell'=true):
  Calls Tryz.prog 274 #[.slice (some ⟨b,0,none⟩) n c,.int .i64 n,.slice (some ad) m vc] w fun e w'=>∃v',e= .returned v'∧w'.ownsRow 0 130 6 v' (n+m) (C.toList.take (n*6)++news)∧w.grownBy w' (some b)∧v'≠ .slice none 0 0∧(v'.ownBlock=some b∨v'.ownBlock=some w.heap.size):=by
 have t0:=Tryz.underlying0;have a0:=Tryz.isAgg0;have z0:=Tryz.sizeOf0;have v0:=Tryz.zeroValue0;have t3:=Tryz.underlying3;have a3:=Tryz.isAgg3;have z3:=Tryz.sizeOf3;have v3:=Tryz.zeroValue3;have t4:=Tryz.underlying4;have a4:=Tryz.isAgg4;have z4:=Tryz.sizeOf4;have v4:=Tryz.zeroValue4;have t57:=Tryz.underlying57;have a57:=Tryz.isAgg57;have z57:=Tryz.sizeOf57;have v57:=Tryz.zeroValue57;have a130:=Tryz.isAgg130;have z130:=Tryz.sizeOf130;have u0:=run_underlying t0;have u3:=run_underlying t3;have u4:=run_underlying t4;have u57:=run_underlying t57;have mixed:Tryz.prog.follows .mixedOrders=true:=by kernel_rfl
 have hz1:¬((m:Int)=0):=by omega
 have hown:w.ownsRow 0 130 infoM.size (.slice (some ⟨b,0,none⟩) n c) n (C.toList.take (n*infoM.size)):=
  ⟨by rw[ed,zd7,Array.length_toList,hC];have:=Nat.mul_le_mul_right 6 hnc;omega,.inr ⟨b,c,C,rfl,Nat.zero_le _,hb,hnc,hc63,by rw[ed];exact hC,rfl⟩⟩
 have hnews:vu w (.slice (some ad) m vc) m news:= .inr ⟨_,_,rfl,hrd⟩;obtain⟨v',w1,hrun,ho,hgr,hnil,hob⟩:=gL (P:=Tryz.prog) w 0 57 57 130 infoM zM t57 uM pq (by rw[ed];rfl) (by rw[ed];decide) (.slice (some ⟨b,0,none⟩) n c) n (C.toList.take (n*infoM.size)) hown (.slice (some ad) m vc) m (news) hnews (by rw[ed];exact hvl) h1v hnm hbig (Nat.zero_le _);rw[ed] at ho;have A:AsideM (w1.ownsRow 0 130 6 v' (n+m) (C.toList.take (n*6)++news)∧w.grownBy w1 (some b)∧v'≠ .slice none 0 0∧(v'.ownBlock=some b∨v'.ownBlock=some w.heap.size)):=⟨ho,hgr,(fun e=>by have:=(hnil.1 e).1;cases this),hob⟩;clear ho hgr hnil hob hnews hown hvl
 go_enter Tryz.func274,Tryz.ntmps274
 go_wp2_with (at_builtin;refine Lib.wpList_append_run _ rfl _ _ _ _ rfl _ _ rfl rfl _ _ hrun ?_)
 all_goals (go_ret;exact⟨v',rfl,A.out⟩)
set_option maxHeartbeats 4000000 in
theorem Bj(b n c i m vc:Nat)(ad:Addr)(C:Array Value)(news:List Value)(w:World)(hi:i<n)(hm:0<m)(hnc:n≤c)(hroom:c<n+m)(hbig:(n+m)*infoM.bytes≤140737488355328)(hnm:n+m≤maxLen)
  (hb:w.heap[b]?=some (.cells C 130 (0,0))) (hC:C.size=c*6) (hvl:news.length=m*6) (hrd:∀(j:Nat) (u:Value),news[j]?=some u→w.cell? (ad.add j)=some u)
  (h1c:∀v∈C.toList.take (n*6),v.oneCell'=true) (h1v:∀v∈news,v.oneCell'=true):
  Calls Tryz.prog 274 #[.slice (some ⟨b,0,none⟩) n c,.int .i64 i,.slice (some ad) m vc] w fun e w'=>∃G R2,e= .returned (.slice (some ⟨w.heap.size,0,none⟩) (n+m) G)∧n+m≤G∧G≤maxLen∧w'.heap[w.heap.size]?=some (.cells R2 130 (0,0))∧R2.size=G*6∧
   R2.toList.take ((n+m)*6)=C.toList.take (i*6)++(news++(C.toList.take (n*6)).drop (i*6))∧w.grownBy w' none:=by
 have t0:=Tryz.underlying0;have a0:=Tryz.isAgg0;have z0:=Tryz.sizeOf0;have v0:=Tryz.zeroValue0;have t3:=Tryz.underlying3;have a3:=Tryz.isAgg3;have z3:=Tryz.sizeOf3;have v3:=Tryz.zeroValue3;have t4:=Tryz.underlying4;have a4:=Tryz.isAgg4;have z4:=Tryz.sizeOf4;have v4:=Tryz.zeroValue4;have t57:=Tryz.underlying57;have a57:=Tryz.isAgg57;have z57:=Tryz.sizeOf57;have v57:=Tryz.zeroValue57;have a130:=Tryz.isAgg130;have z130:=Tryz.sizeOf130;have u0:=run_underlying t0;have u3:=run_underlying t3;have u4:=run_underlying t4;have u57:=run_underlying t57;have mixed:Tryz.prog.follows .mixedOrders=true:=by kernel_rfl
 have hz1:¬((m:Int)=0):=by omega
 have hz2:¬((i:Int)=(n:Int)):=by omega
 have hz3:(c:Int)<(n:Int)+(m:Int):=by omega
 have hm63:maxLen=9223372036854775807:=rfl;have hkk:(n:Int)+(m:Int)-(i:Int)=((n+m-i:Nat):Int):=by omega
 have hik:i+(n+m-i)=n+m:=by omega
 have hle:i*6≤n*6:=Nat.mul_le_mul_right _ (by omega);have hnc6:n*6≤c*6:=Nat.mul_le_mul_right _ hnc;have hX:C.toList.length=c*6:=by rw[Array.length_toList,hC]
 have hti:(C.toList.take (i*6)).length=i*6:=by rw[zd7,hX];omega
 have hnl:((C.toList.take (n*6)).drop (i*6)).length=(n-i)*6:=by
  rw[zd6,zd7,hX,Nat.sub_mul];omega
 have cat:∀(W:World) (g:Nat) (c0:Array Value) (o j:Nat) (v:Value),W.heap[g]?=some (.cells c0 130 (0,0))→c0[o+j]?=some v→W.cell? (Addr.add ⟨g,o,none⟩ j)=some v:=fun W g c0 o j v hg hv=>by
  rw[Addr.add_lit];simp[World.cell?,hg,hv]
 have hold:(Builtin.firstCells infoM.size i (.slice (some ⟨b,0,none⟩) i c)).run Tryz.prog w.drew= .ok (C.toList.take (i*6)).toArray w.drew:=by
  rw[ed];exact run_firstCells_some w.drew 6 i ⟨b,0,none⟩ i c (C.toList.take (i*6)) hti (fun j v hj=>cat w.drew b C 0 j v hb (by
   rw[List.getElem?_take] at hj;split at hj
   ·simpa using hj
   ·cases hj))
 obtain⟨G,hG⟩:∃G,G=grownCap w (n+m) c 130:=⟨_,rfl⟩;obtain⟨ROW,hROW⟩:∃ROW:Array Value,ROW=(C.toList.take (i*6)).toArray++Builtin.zeroCells zM.cells (n+m-i)++Builtin.zeroCells zM.cells (G-(n+m)):=⟨_,rfl⟩;have hbytes:0<infoM.bytes:=by rw[show infoM.bytes=72 by kernel_rfl];decide
 have hrz:∀ty,(Builtin.append_ #[57,3] ty #[.slice (some ⟨b,0,none⟩) i c,.int .i64 ((n:Int)+(m:Int)-(i:Int))]).run Tryz.prog w=
   .ok (.slice (some ⟨w.heap.size,0,none⟩) (n+m) G) (w.drew.alloc (.cells ROW 130)):=fun ty=>by
  have hk48:(n+m-i)*infoM.bytes≤(n+m)*infoM.bytes:=Nat.mul_le_mul_right _ (by omega);have h:=Lib.run_append_grow_zeros w 57 3 ty 130 infoM zM .i64 .i64 t57 t3 uM pq (some ⟨b,0,none⟩) i c (C.toList.take (i*6)) hold (n+m-i) (by omega) (by rw[ed];decide) (by omega) (by omega) (by omega) (by rw[hik];exact growslice_fits hroom hbig);rw[hik] at h;rw[hkk,hROW,hG];exact h
 have hGn:n+m≤G:=by rw[hG];exact grownCap_ge w _ _ _
 have hG63:G≤maxLen:=by rw[hG];exact grownCap_le_maxLen w (n+m) c 130 (by omega)
 have hz6:zM.cells.size=6:=rfl;have hRs:ROW.size=G*6:=by
  have e1:(n+m-i)*6=(n+m)*6-i*6:=Nat.sub_mul ..;have e2:(G-(n+m))*6=G*6-(n+m)*6:=Nat.sub_mul ..;have e3:(n+m)*6≤G*6:=Nat.mul_le_mul_right _ hGn;have e4:(n+m)*6=n*6+m*6:=Nat.add_mul ..;rw[hROW,Array.size_append,Array.size_append,size_zeroCells,size_zeroCells,List.size_toArray,hti,hz6,e1,e2];omega
 have hRt:ROW.toList.take (i*6)=C.toList.take (i*6):=by
  rw[hROW,Array.toList_append,Array.toList_append,za8];exact lO _ _ hti
 have hbw:b<w.heap.size:=(zb7.1 hb).1;have hvw:ad.block<w.heap.size:=by
  obtain⟨u0',hu0⟩:∃u,news[0]?=some u:=⟨news[0]'(by omega),zc9 (by omega)⟩;obtain⟨c0,t0,f0,hc0,_⟩:=uN (hrd 0 u0' hu0);exact(zb7.1 hc0).1
 obtain⟨R1,hR1⟩:∃R1,R1=(ROW.toList.take (i*6)++news++ROW.toList.drop (i*6+(news).length)).toArray:=⟨_,rfl⟩;have him:(i+m)*6=i*6+m*6:=Nat.add_mul ..;have e4:(n+m)*6=n*6+m*6:=Nat.add_mul ..;have e3:(n+m)*6≤G*6:=Nat.mul_le_mul_right _ hGn;have hR1s:R1.size=G*6:=by
  rw[hR1,List.size_toArray];simp only[za6,zd7,zd6,Array.length_toList,hRs,hvl];omega
 have hR1t:R1.toList.take ((i+m)*6)=C.toList.take (i*6)++news:=by
  rw[hR1,hRt];exact lO _ _ (by rw[za6,hti,hvl,him])
 obtain⟨R2,hR2⟩:∃R2,R2=(R1.toList.take ((i+m)*6)++(C.toList.take (n*6)).drop (i*6)++R1.toList.drop ((i+m)*6+((C.toList.take (n*6)).drop (i*6)).length)).toArray:=⟨_,rfl⟩;have hni:(n-i)*6=n*6-i*6:=Nat.sub_mul ..;have hcpA:∀W:World,W.heap[w.heap.size]?=some (.cells ROW 130 (0,0))→W.heap[ad.block]?=w.heap[ad.block]?→∀ty dc,(Builtin.copy_ #[57,57] ty #[.slice (some ⟨w.heap.size,i*6,none⟩) (n+m-i) dc,.slice (some ad) m vc]).run Tryz.prog W= .ok (goInt (Nat.min m (n+m-i):Nat)) (W.setRow w.heap.size R1):=fun W hW hW2 ty dc=>by
  rw[ki W 57 57 ty 130 6 w.heap.size (i*6) (n+m-i) dc ad m vc ROW 130 (news) t57 kj hW (by rw[hvl];congr 1;simp only[Nat.min_def];split<;>omega) (fun j v hj=>(qU hW2 j).trans (hrd j v hj)) (by rw[hvl,hRs];omega) h1v,←hR1]
 have hcpB:∀W:World,W.heap[w.heap.size]?=some (.cells R1 130 (0,0))→W.heap[b]?=some (.cells C 130 (0,0))→∀ty dc sc,(Builtin.copy_ #[57,57] ty #[.slice (some ⟨w.heap.size,(i+m)*6,none⟩) (n+m-(i+m)) dc,.slice (some ⟨b,i*6,none⟩) (n-i) sc]).run Tryz.prog W= .ok (goInt (Nat.min (n-i) (n+m-(i+m)):Nat)) (W.setRow w.heap.size R2):=fun W hW hW2 ty dc sc=>by
  rw[ki W 57 57 ty 130 6 w.heap.size ((i+m)*6) (n+m-(i+m)) dc ⟨b,i*6,none⟩ (n-i) sc R1 130 ((C.toList.take (n*6)).drop (i*6)) t57 kj hW (by rw[hnl];congr 1;simp only[Nat.min_def];split<;>omega) (fun j v hj=>cat W b C _ j v hW2 (by
   rw[List.getElem?_drop,List.getElem?_take] at hj;split at hj
   ·simpa using hj
   ·cases hj)) (by rw[hnl,hR1s,hni];omega) (fun v hv=>h1c v (List.mem_of_mem_drop hv)),←hR2]
 have hal:(w.drew.alloc (.cells ROW 130)).heap[w.heap.size]?=some (.cells ROW 130 (0,0)):=cT w.drew _;have hao:∀k,k<w.heap.size→(w.drew.alloc (.cells ROW 130)).heap[k]?=w.heap[k]?:=fun k hk=>eh w.drew _ hk;obtain⟨W1,hW1⟩:∃W1,W1=(w.alloc (.cells ROW 130)).drew:=⟨_,rfl⟩;have hE1:W1.heap[w.heap.size]?=some (.cells ROW 130 (0,0)):=by rw[hW1];exact hal
 have hE2:W1.heap[ad.block]?=w.heap[ad.block]?:=by rw[hW1];exact hao ad.block hvw
 have hE3:W1.heap[b]?=some (.cells C 130 (0,0)):=by rw[hW1];exact(hao b hbw).trans hb
 have hF1:(W1.setRow w.heap.size R1).drew.heap[w.heap.size]?=some (.cells R1 130 (0,0)):=setRow_heap W1 w.heap.size ROW R1 _ _ hE1;have hF2:(W1.setRow w.heap.size R1).drew.heap[b]?=some (.cells C 130 (0,0)):=by
  show(W1.setRow w.heap.size R1).heap[b]?=_;rw[setRow_other _ _ _ _ (by omega)];exact hE3
 have Z:AsideM (n+m≤G∧G≤maxLen∧((W1.setRow w.heap.size R1).drew.setRow w.heap.size R2).heap[w.heap.size]?=some (.cells R2 130 (0,0))∧R2.size=G*6∧R2.toList.take ((n+m)*6)=C.toList.take (i*6)++(news++(C.toList.take (n*6)).drop (i*6))∧w.grownBy ((W1.setRow w.heap.size R1).drew.setRow w.heap.size R2) none):=by
  refine⟨hGn,hG63,setRow_heap _ _ R1 R2 _ _ hF1,?_,?_,?_⟩
  ·rw[hR2,List.size_toArray];simp only[za6,zd7,zd6,Array.length_toList,hR1s,hC];omega
  ·rw[hR2,hR1t];refine(lO _ _ ?_).trans (za8 ..);rw[za6,za6,hti,hvl,hnl,hni];omega
  ·refine⟨by rw[hW1];rfl,by rw[hW1];rfl,by rw[hW1];rfl,Nat.le_of_lt (zb7.1 (setRow_heap _ _ R1 R2 _ _ hF1)).1,fun k hk _=> ?_⟩;have hne:k≠w.heap.size:=by omega
   rw[setRow_other _ _ _ _ hne];show(W1.setRow w.heap.size R1).heap[k]?=_;rw[setRow_other _ _ _ _ hne,hW1];exact hao k hk
 rw[show w.drew.alloc (.cells ROW 130)=W1 from hW1.symm] at hrz;have hw1:IntKind.i64.wrap ((i:Int)+(m:Int))=(i:Int)+(m:Int):=by rw[IntKind.wrap_i64];omega
 have hb1:(0:Int)≤(i:Int)+(m:Int):=by omega
 have hin:i≤n:=by omega
 have htn:((i:Int)+(m:Int)).toNat=i+m:=by omega
 have hb3:(i:Int)≤(n:Int):=by omega
 have hGi:¬(G=i):=by omega
 have hGim:¬(G=i+m):=by omega
 have hci:¬(c=i):=by omega
 clear hkk hik hold hROW hG hRs hRt hR1 hR2 hR1s hR1t him e4 e3 hni hal hao hW1 hnl hvl hti hX cat
 go_enter Tryz.func274,Tryz.ntmps274
 go_wp2_with (first
  |(at_builtin;refine Lib.wpList_append_run _ rfl _ _ _ _ rfl _ _ rfl rfl _ _ (hrz _) ?_)
  |(at_builtin;refine wpList_copy_runI _ rfl _ _ 57 57 rfl _ _ rfl rfl (hcpA _ hE1 hE2 _ _) ?_))
 go_region_law_o (refine step_copy_runI rfl _ _ 57 57 rfl _ _ (by simp[Act.eval,Act.put]) (by simp[Act.eval,Act.put]) (hcpB _ hF1 hF2 _ _ _) ?_)
 go_wp2
 go_ret
 exact⟨G,R2,rfl,Z.out⟩
theorem JW:Gt Tryz.prog 274 130 6 72:=by
 intro w b cap len i vcap m ad c news hb hc hcm hlc hvl hrd hvb hm hil hbig h1 h2;have hby:infoM.bytes=72:=by kernel_rfl
 rw[show bS=140737488355328 from rfl,←hby] at hbig;have hml:maxLen=9223372036854775807:=rfl;have hnm:len+m≤maxLen:=by
  have:=Nat.mul_le_mul_left (len+m) (show 1≤infoM.bytes by rw[hby];decide);omega
 by_cases hil':i<len
 ·by_cases hroom:len+m≤cap
  ·refine(yQ b len cap i m vcap ad c news w hil' hm hroom (by omega) hvb hb hc hvl hrd h1 h2).mono ?_
   rintro en w' ⟨rfl,R1,R2,rfl,q1,q2,q3⟩
   refine⟨b,cap,R2,rfl,.inl rfl,q1,hroom,hcm,q2,q3,⟨rfl,rfl,rfl,?_,fun k hk hne=> ?_⟩⟩
   ·simp
   ·have hne:k≠b:=fun e=>hne (by rw[e]);rw[setRow_other _ _ _ _ hne,setRow_other _ _ _ _ hne];rfl
  ·refine(Bj b len cap i m vcap ad c news w hil' hm hlc (by omega) hbig hnm hb hc hvl hrd h1 h2).mono ?_
   rintro en w' ⟨G,R2,rfl,q1,q2,q3,q4,q5,q6⟩
   exact⟨w.heap.size,G,R2,rfl,.inr (zb0 _),q3,q1,q2,q4,q5,⟨q6.os,q6.tape,q6.output,q6.size,fun k hk _=>q6.block k hk (fun e=>by cases e)⟩⟩
 ·obtain rfl:i=len:=by omega
  refine(C4 b i cap m vcap ad c news w hm hlc hcm hbig hnm hb hc hvl hrd h2).mono ?_
  rintro en w' ⟨v',rfl,ho,hgr,hne,hob⟩
  obtain⟨g,cap',cur,rfl,q1,q2,q3,q4,q5,q6⟩:=oe ho hne;refine⟨g,cap',cur,rfl,?_,q2,q3,q4,q5,?_,hgr⟩
  ·rcases hob with h|h<;>simp[Value.ownBlock] at h
   ·exact .inl h
   ·exact .inr (by omega)
  ·rw[q6,show((c.toList.take (i*6)).drop (i*6))=[] by simp,zb3]
theorem Iq:∀vs w,(callFunc 274 vs).run Tryz.prog w= .ok (.enter 274 vs) w:=enters_of Tryz.func274 (by kernel_rfl) rfl
def Is:Inl:=Ei 130 6 72 20
theorem C5{gl:Nat→Option D}:InlOK Tryz.prog gl 274 Is:=Cn Iq (by decide) JW
end Go.Pd
end
section
namespace Go.Pd
open Go Go.Proofs Go.RowKit
def Fp:FuncId→Option Inl:=fun k=>match k with
 |274=>some Is
 |_=>none
noncomputable def Iu(call _:FuncId→List D→Option D)(L:Nat)(C:Nat→Nat):TE:={E:={P:=Tryz.prog,gl:=jo,call:=call,L:=L,inl:=Fp},cst:=fun _ _=>none,C:=C}
theorem JX{base mu:FuncId→List D→Option D}(hb:hU base){L:Nat}:EnvOK (Iu base mu L C1).E:=⟨zr hb,(fun _ _ h=>nomatch h),(fun _ _ _ h=>nomatch h),fun k i hi=>by
 have hi:Fp k=some i:=hi;unfold Fp at hi;split at hi
 ·cases hi;exact C5
 ·cases hi⟩
theorem K9{base mu:FuncId→List D→Option D}(hb:hU base){f:FuncId}{fn:Func}(hf:Tryz.prog.funcs[f]?=some fn){ord:ik}{N:bR}(hok:jt Tryz.prog ord fn=true){ds:List D}{r:D}
  (he:cv (Iu base mu LL C1) ord N .canon fn ds=some r):ci f ds r:=
 lI (Te:=Iu base mu LL C1) jT (JX hb) (fun _ _ _ h=>by cases h) rfl (fun _ _ _ h=>by cases h) hf (by simp) hok he
end Go.Pd
end
section
namespace Go.Pd
open Go Go.Proofs
set_option maxRecDepth 100000
theorem C6(K:FuncId→List D→Option D)(L:Nat)(C:Nat→Nat)(h:ByteArray)(B:Int)(M:ByteArray)(O S:Int)(U z:ByteArray)(J:Int)(V:ByteArray)(W Y:Int)(Z:ByteArray):cv (dS K L C) O0 N0 FinM.canon Tryz.f104 [D.agg [D.str h,D.int .i64 B,D.str M,D.int .i64 O,D.int .i64 S,D.str U],D.agg [D.str z,D.int .i64 J,D.str V,D.int .i64 W,D.int .i64 Y,D.str Z]]=
 (bG (Op.bytesLess (ByteArray.toList h) (ByteArray.toList z))
 (some (D.bool true))
 (bG (ByteArray.toList h==ByteArray.toList z)
 (some (D.bool (decide (B<J))))
 (some (D.bool false)))):=by kernel_rfl
theorem C7(h:FuncId→List D→Option D)(L:Nat)(C:Nat→Nat)(z:ByteArray)(B:Int)(S:ByteArray)(U V:Int)(W J:ByteArray)(K:Int)(Y:ByteArray)(Z a0:Int)(a1:ByteArray):cv (dS h L C) O0 N0 FinM.canon Tryz.f146 [D.agg [D.str z,D.int .i64 B,D.str S,D.int .i64 U,D.int .i64 V,D.str W],D.agg [D.str J,D.int .i64 K,D.str Y,D.int .i64 Z,D.int .i64 a0,D.str a1]]=
 (bV (h 217 [D.str z,D.str J]) fun r=>bH .i64 r fun x=>bV (h 101 [D.int .i64 B,D.int .i64 K]) fun M=>bH .i64 M fun a2=>bV (h 163 [D.slc true 2 [D.int .i64 x,D.int .i64 a2]]) fun O=>bH .i64 O fun a3=>some (D.int .i64 a3)):=by kernel_rfl
theorem C8(h:FuncId→List D→Option D)(L:Nat)(C:Nat→Nat)(vx vy:ByteArray):cv (dS h L C) O0 N0 FinM.canon Tryz.f217 [D.str vx,D.str vy]=
 (bV (h 272 [D.str vx]) fun r=>cH r fun b=>bV (h 272 [D.str vy]) fun B=>cH B fun z=>bG b
 (bG z
 (some (D.int .i64 0))
 (some (D.int .i64 (-1))))
 (bG z
 (some (D.int .i64 1))
 (bG (Op.bytesLess (ByteArray.toList vx) (ByteArray.toList vy))
 (some (D.int .i64 (-1)))
 (bG (!(Op.bytesLess (ByteArray.toList vx) (ByteArray.toList vy)||ByteArray.toList vx==ByteArray.toList vy))
 (some (D.int .i64 1))
 (some (D.int .i64 0)))))):=by kernel_rfl
theorem C9(h:FuncId→List D→Option D)(L:Nat)(C:Nat→Nat)(vx:ByteArray):cv (dS h L C) O0 N0 FinM.canon Tryz.f272 [D.str vx]=
 (some (D.bool !ByteArray.toList vx==ByteArray.toList vx)):=by kernel_rfl
def Fq:bR:=fun p=>match p with
 |60=>nm [0,2,4,8,9,10] [] [4]
 |_=>none
noncomputable def lP(h:FuncId→List D→Option D)(L:Nat)(C:Nat→Nat)(n:Nat)(a0:Bool)(a1:Nat)(Y:List D)(M:ByteArray)(O:Int)(S:ByteArray)(U V:Int)(W:ByteArray)(K z B:Int):Option D:=
 dW (dS h L C) O0 Fq FinM.canon Tryz.f273 (bt 5 7) [] n (St.mk (D.slc a0 a1 Y::J::D.fn (Fn.func 146) [] []::J::D.loc 4 0 0::J::J::J::D.int .i64 K::D.int .i64 z::D.int .i64 B::jn 38 []) (Z::Z::Z::Z::(1,some (Ob.box [D.str M,D.int .i64 O,D.str S,D.int .i64 U,D.int .i64 V,D.str W] false))::zn 44 []))
theorem pt(J:FuncId→List D→Option D)(L:Nat)(C:Nat→Nat)(n:Nat)(Z:Bool)(W:Nat)(z:List D)(K:ByteArray)(M:Int)(O:ByteArray)(S U:Int)(V:ByteArray)(Y h B:Int):lP J L C (n+1) Z W z K M O S U V Y h B=
 (bG (decide (h<B))
 (bB (decide (0≤IntKind.wrap .i64 (Int.fdiv (IntKind.wrap IntKind.u64 (IntKind.wrap .i64 (h+B))) (2^1))∧IntKind.wrap .i64 (Int.fdiv (IntKind.wrap IntKind.u64 (IntKind.wrap .i64 (h+B))) (2^1))<(W:Int)))
 (br z (Int.toNat (IntKind.wrap .i64 (Int.fdiv (IntKind.wrap IntKind.u64 (IntKind.wrap .i64 (h+B))) (2^1)))*6+0) fun d=>bN d fun s=>br z (Int.toNat (IntKind.wrap .i64 (Int.fdiv (IntKind.wrap IntKind.u64 (IntKind.wrap .i64 (h+B))) (2^1)))*6+1) fun a0=>bH .i64 a0 fun x=>br z (Int.toNat (IntKind.wrap .i64 (Int.fdiv (IntKind.wrap IntKind.u64 (IntKind.wrap .i64 (h+B))) (2^1)))*6+2) fun a3=>bN a3 fun ac=>br z (Int.toNat (IntKind.wrap .i64 (Int.fdiv (IntKind.wrap IntKind.u64 (IntKind.wrap .i64 (h+B))) (2^1)))*6+3) fun a4=>bH .i64 a4 fun ah=>br z (Int.toNat (IntKind.wrap .i64 (Int.fdiv (IntKind.wrap IntKind.u64 (IntKind.wrap .i64 (h+B))) (2^1)))*6+4) fun a5=>bH .i64 a5 fun ai=>br z (Int.toNat (IntKind.wrap .i64 (Int.fdiv (IntKind.wrap IntKind.u64 (IntKind.wrap .i64 (h+B))) (2^1)))*6+5) fun a6=>bN a6 fun ad=>bV (J 146 [D.agg [D.str s,D.int .i64 x,D.str ac,D.int .i64 ah,D.int .i64 ai,D.str ad],D.agg [D.str K,D.int .i64 M,D.str O,D.int .i64 S,D.int .i64 U,D.str V]]) fun r=>bH .i64 r fun aj=>bG (decide (aj<0))
 (lP J L C n Z W z K M O S U V Y (IntKind.wrap .i64 (IntKind.wrap .i64 (Int.fdiv (IntKind.wrap IntKind.u64 (IntKind.wrap .i64 (h+B))) (2^1))+1)) B)
 (lP J L C n Z W z K M O S U V Y h (IntKind.wrap .i64 (Int.fdiv (IntKind.wrap IntKind.u64 (IntKind.wrap .i64 (h+B))) (2^1))))))
 (bG (decide (h<Y))
 (bB (decide (0≤h∧h<(W:Int)))
 (br z (Int.toNat h*6+0) fun a7=>bN a7 fun ae=>br z (Int.toNat h*6+1) fun a8=>bH .i64 a8 fun ak=>br z (Int.toNat h*6+2) fun a9=>bN a9 fun af=>br z (Int.toNat h*6+3) fun aa=>bH .i64 aa fun al=>br z (Int.toNat h*6+4) fun a1=>bH .i64 a1 fun am=>br z (Int.toNat h*6+5) fun a2=>bN a2 fun ag=>bV (J 146 [D.agg [D.str ae,D.int .i64 ak,D.str af,D.int .i64 al,D.int .i64 am,D.str ag],D.agg [D.str K,D.int .i64 M,D.str O,D.int .i64 S,D.int .i64 U,D.str V]]) fun ab=>bH .i64 ab fun an=>some (D.tup [D.int .i64 h,D.bool (an==0)])))
 (some (D.tup [D.int .i64 h,D.bool false])))):=by kernel_rfl
theorem Da(z:FuncId→List D→Option D)(L:Nat)(C:Nat→Nat)(V:Bool)(h:Nat)(U:List D)(B:ByteArray)(J:Int)(K:ByteArray)(M O:Int)(S:ByteArray):cv (dS z L C) O0 Fq FinM.canon Tryz.f273 [D.slc V h U,D.agg [D.str B,D.int .i64 J,D.str K,D.int .i64 M,D.int .i64 O,D.str S],D.fn (Fn.func 146) [] []]=
 (lP z L C L V h U B J K M O S ((h:Int)) 0 ((h:Int))):=by kernel_rfl
theorem Fr(h:FuncId→List D→Option D)(L:Nat)(C:Nat→Nat)(J:ByteArray)(z:Int)(K:ByteArray)(B M:Int)(O:ByteArray):cv (dS h L C) O0 N0 FinM.canon Tryz.f64 [D.agg [D.str J,D.int .i64 z,D.str K,D.int .i64 B,D.int .i64 M,D.str O]]=
 (bV (h 80 [D.str J]) fun r=>cH r fun b=>bG (!b)
 (some (D.int .i64 8))
 (bG (decide (z<1))
 (some (D.int .i64 3))
 (bG (decide (z>1000))
 (some (D.int .i64 3))
 (bV (h 80 [D.str K]) fun U=>cH U fun S=>bG (!S)
 (some (D.int .i64 8))
 (bG (decide (B<1))
 (some (D.int .i64 3))
 (bG (decide (B>36))
 (some (D.int .i64 3))
 (bV (h 145 [D.agg [D.int .i64 M,D.str O]]) fun V=>bH .i64 V fun x=>some (D.int .i64 x)))))))):=by kernel_rfl
theorem Fs(h:FuncId→List D→Option D)(L:Nat)(C:Nat→Nat)(z:ByteArray)(B:Int)(J:ByteArray)(K M:Int)(O:ByteArray):cv (dS h L C) O0 N0 FinM.canon Tryz.f66 [D.agg [D.str z,D.int .i64 B,D.str J,D.int .i64 K,D.int .i64 M,D.str O]]=
 (bV (h 111 [D.str z]) fun r=>cH r fun b=>bV (h 119 [D.bool !b,D.int .i64 8]) fun W=>bH .i64 W fun x=>bV (h 118 [D.int .i64 B,D.int .i64 1,D.int .i64 1000]) fun Y=>cH Y fun S=>bV (h 119 [D.bool S,D.int .i64 3]) fun Z=>bH .i64 Z fun a6=>bV (h 111 [D.str J]) fun a0=>cH a0 fun U=>bV (h 119 [D.bool !U,D.int .i64 8]) fun a1=>bH .i64 a1 fun a7=>bV (h 118 [D.int .i64 K,D.int .i64 1,D.int .i64 36]) fun a2=>cH a2 fun V=>bV (h 119 [D.bool V,D.int .i64 3]) fun a3=>bH .i64 a3 fun a8=>bV (h 147 [D.agg [D.int .i64 M,D.str O]]) fun a4=>bH .i64 a4 fun a9=>bV (h 87 [D.slc true 5 [D.int .i64 x,D.int .i64 a6,D.int .i64 a7,D.int .i64 a8,D.int .i64 a9]]) fun a5=>bH .i64 a5 fun aa=>some (D.int .i64 aa)):=by kernel_rfl
def JY:bR:=fun p=>match p with
 |58=>nm [1,11,12,13] [4] [1,4]
 |_=>none
noncomputable def mq(K:FuncId→List D→Option D)(L:Nat)(C:Nat→Nat)(n:Nat)(z:Bool)(B:Nat)(h:List D)(M O:Int):Option D:=
 dW (dS K L C) O0 JY FinM.canon Tryz.f65 (bt 5 11) [] n (St.mk (J::D.loc 1 0 0::jn 9 (D.slc z B h::D.int .i64 M::D.int .i64 O::jn 26 [])) (Z::(1,some (Ob.box [D.slc z B h] false))::zn 38 []))
theorem qV(B:FuncId→List D→Option D)(L:Nat)(C:Nat→Nat)(n:Nat)(M:Bool)(J:Nat)(z:List D)(K h:Int):mq B L C (n+1) M J z K h=
 (bG (decide (h<K))
 (bB (decide (0≤h∧h<(J:Int)))
 (br z (Int.toNat h*6+0) fun d=>bN d fun s=>br z (Int.toNat h*6+1) fun a0=>bH .i64 a0 fun x=>br z (Int.toNat h*6+2) fun a3=>bN a3 fun O=>br z (Int.toNat h*6+3) fun a4=>bH .i64 a4 fun U=>br z (Int.toNat h*6+4) fun a5=>bH .i64 a5 fun W=>br z (Int.toNat h*6+5) fun a6=>bN a6 fun S=>bV (B 66 [D.agg [D.str s,D.int .i64 x,D.str O,D.int .i64 U,D.int .i64 W,D.str S]]) fun r=>bH .i64 r fun Y=>bG (decide (h>0))
 (bB (decide (0≤IntKind.wrap .i64 (h-1)∧IntKind.wrap .i64 (h-1)<(J:Int)))
 (br z (Int.toNat (IntKind.wrap .i64 (h-1))*6+0) fun a7=>bN a7 fun ag=>br z (Int.toNat (IntKind.wrap .i64 (h-1))*6+1) fun a8=>bH .i64 a8 fun ak=>br z (Int.toNat (IntKind.wrap .i64 (h-1))*6+2) fun a9=>bN a9 fun ah=>br z (Int.toNat (IntKind.wrap .i64 (h-1))*6+3) fun aa=>bH .i64 aa fun al=>br z (Int.toNat (IntKind.wrap .i64 (h-1))*6+4) fun a1=>bH .i64 a1 fun am=>br z (Int.toNat (IntKind.wrap .i64 (h-1))*6+5) fun a2=>bN a2 fun ai=>bV (B 146 [D.agg [D.str ag,D.int .i64 ak,D.str ah,D.int .i64 al,D.int .i64 am,D.str ai],D.agg [D.str s,D.int .i64 x,D.str O,D.int .i64 U,D.int .i64 W,D.str S]]) fun ab=>bH .i64 ab fun an=>bV (B 119 [D.bool (decide (an≥0)),D.int .i64 11]) fun ac=>bH .i64 ac fun ao=>bV (B 87 [D.slc true 2 [D.int .i64 Y,D.int .i64 ao]]) fun ad=>bH .i64 ad fun Z=>bG (Z !=0)
 (some (D.int .i64 Z))
 (mq B L C n M J z K (IntKind.wrap .i64 (h+1)))))
 (bV (B 119 [D.bool false,D.int .i64 11]) fun ae=>bH .i64 ae fun aj=>bV (B 87 [D.slc true 2 [D.int .i64 Y,D.int .i64 aj]]) fun af=>bH .i64 af fun V=>bG (V !=0)
 (some (D.int .i64 V))
 (mq B L C n M J z K (IntKind.wrap .i64 (h+1))))))
 (some (D.int .i64 0))):=by kernel_rfl
theorem Ft(z:FuncId→List D→Option D)(L:Nat)(C:Nat→Nat)(J:Bool)(h:Nat)(B:List D):cv (dS z L C) O0 JY FinM.canon Tryz.f65 [D.agg [D.slc J h B]]=
 (bG (decide ((h:Int)>1000))
 (some (D.int .i64 5))
 (mq z L C L J h B ((h:Int)) 0)):=by kernel_rfl
def Iv:bR:=fun p=>match p with
 |58=>nm [0,3] [] []
 |467=>nm [0,3] [] []
 |3731=>nm [0,3,4] [] []
 |_=>none
noncomputable def sw(h:FuncId→List D→Option D)(L:Nat)(C:Nat→Nat)(n:Nat)(K:Bool)(M:Nat)(B:List D)(z:Int):Option D:=
 gA (dS h L C) O0 Iv FinM.canon Tryz.f35 (bt 8 203) [n] (C 467) (St.mk (D.slc K M B::J::J::D.int .i64 z::jn 37 []) (zn 41 []))
noncomputable def gC(h:FuncId→List D→Option D)(L:Nat)(C:Nat→Nat)(n:Nat)(M:Bool)(O:Nat)(K:List D)(B z:Int):Option D:=
 gA (dS h L C) O0 Iv FinM.canon Tryz.f35 (bt 11 1611) [n] (C 3731) (St.mk (D.slc M O K::J::J::D.int .i64 B::D.int .i64 z::jn 36 []) (zn 41 []))
noncomputable def pu(h:FuncId→List D→Option D)(L:Nat)(C:Nat→Nat)(n:Nat)(K:Bool)(M:Nat)(B:List D)(z:Int):Option D:=
 dW (dS h L C) O0 Iv FinM.canon Tryz.f35 (bt 5 11) [] n (St.mk (D.slc K M B::J::J::D.int .i64 z::jn 37 []) (zn 41 []))
theorem wW(h:FuncId→List D→Option D)(L:Nat)(C:Nat→Nat)(n:Nat)(J:Bool)(K:Nat)(B:List D)(z:Int)(hC:∀t,C t=1):sw h L C n J K B z=
 (pu h L C n J K B (IntKind.wrap .i64 (z+1))):=by
 unfold sw;rw[hC]
 kernel_rfl
theorem uO(z:FuncId→List D→Option D)(L:Nat)(C:Nat→Nat)(n:Nat)(K:Bool)(M:Nat)(J:List D)(B h:Int)(hC:∀t,C t=1):gC z L C n K M J B h=
 (bG (h !=0)
 (some (D.int .i64 h))
 (sw z L C n K M J B)):=by
 unfold gC;rw[hC]
 kernel_rfl
theorem qW(J:FuncId→List D→Option D)(L:Nat)(C:Nat→Nat)(n:Nat)(K:Bool)(B:Nat)(z:List D)(h:Int):pu J L C (n+1) K B z h=
 (bG (decide (h<(B:Int)))
 (bB (decide (0≤h∧h<(B:Int)))
 (br z (Int.toNat h*6+0) fun d=>bN d fun s=>br z (Int.toNat h*6+1) fun O=>bH .i64 O fun x=>br z (Int.toNat h*6+2) fun a2=>bN a2 fun ab=>br z (Int.toNat h*6+3) fun a3=>bH .i64 a3 fun aj=>br z (Int.toNat h*6+4) fun a4=>bH .i64 a4 fun ak=>br z (Int.toNat h*6+5) fun a5=>bN a5 fun ac=>bV (J 64 [D.agg [D.str s,D.int .i64 x,D.str ab,D.int .i64 aj,D.int .i64 ak,D.str ac]]) fun r=>bH .i64 r fun M=>bG (M==0)
 (bG (decide (h>0))
 (bB (decide (0≤IntKind.wrap .i64 (h-1)∧IntKind.wrap .i64 (h-1)<(B:Int)))
 (br z (Int.toNat (IntKind.wrap .i64 (h-1))*6+0) fun a6=>bN a6 fun ad=>br z (Int.toNat (IntKind.wrap .i64 (h-1))*6+1) fun a7=>bH .i64 a7 fun al=>br z (Int.toNat (IntKind.wrap .i64 (h-1))*6+2) fun a8=>bN a8 fun ae=>br z (Int.toNat (IntKind.wrap .i64 (h-1))*6+3) fun a9=>bH .i64 a9 fun am=>br z (Int.toNat (IntKind.wrap .i64 (h-1))*6+4) fun S=>bH .i64 S fun an=>br z (Int.toNat (IntKind.wrap .i64 (h-1))*6+5) fun U=>bN U fun af=>bB (decide (0≤h∧h<(B:Int)))
 (br z (Int.toNat h*6+0) fun V=>bN V fun ag=>br z (Int.toNat h*6+1) fun W=>bH .i64 W fun ao=>br z (Int.toNat h*6+2) fun Y=>bN Y fun ah=>br z (Int.toNat h*6+3) fun Z=>bH .i64 Z fun ap=>br z (Int.toNat h*6+4) fun a0=>bH .i64 a0 fun aq=>br z (Int.toNat h*6+5) fun a1=>bN a1 fun ai=>bV (J 104 [D.agg [D.str ad,D.int .i64 al,D.str ae,D.int .i64 am,D.int .i64 an,D.str af],D.agg [D.str ag,D.int .i64 ao,D.str ah,D.int .i64 ap,D.int .i64 aq,D.str ai]]) fun aa=>cH aa fun b=>bG (!b)
 (gC J L C n K B z h 11)
 (gC J L C n K B z h M))))
 (gC J L C n K B z h M))
 (gC J L C n K B z h M)))
 (some (D.int .i64 0))):=by kernel_rfl
theorem Fv(z:FuncId→List D→Option D)(L:Nat)(C:Nat→Nat)(J:Bool)(h:Nat)(B:List D):cv (dS z L C) O0 Iv FinM.canon Tryz.f35 [D.slc J h B]=
 (bG (decide ((h:Int)>1000))
 (some (D.int .i64 5))
 (pu z L C L J h B 0)):=by kernel_rfl
theorem Db(h:FuncId→List D→Option D)(L:Nat)(C:Nat→Nat)(B:Bool)(J:Nat)(z:List D)(M:Bool)(O:Nat)(K:List D):cv (dS h L C) O0 N0 FinM.canon Tryz.f148 [D.agg [D.slc B J z],D.agg [D.slc M O K]]=
 (bV (h 219 [D.slc B J z,D.slc M O K,D.fn (Fn.func 146) [] []]) fun r=>fZ r 2 fun c=>br c 0 fun d=>ee d fun f n U=>br c 1 fun V=>cH V fun b=>bV (h 119 [D.bool !b,D.int .i64 29]) fun W=>bH .i64 W fun x=>bV (h 119 [D.bool (decide ((n:Int)>1000)),D.int .i64 5]) fun Y=>bH .i64 Y fun a0=>bV (h 87 [D.slc true 2 [D.int .i64 x,D.int .i64 a0]]) fun Z=>bH .i64 Z fun S=>bG (S !=0)
 (some (D.tup [D.agg [D.slc true 0 []],D.int .i64 S]))
 (some (D.tup [D.agg [D.slc f n U],D.int .i64 0]))):=by kernel_rfl
theorem Fw(h:FuncId→List D→Option D)(L:Nat)(C:Nat→Nat)(B:Bool)(J:Nat)(z:List D)(K:ByteArray)(M:Int)(O:ByteArray)(S U:Int)(V:ByteArray):cv (dS h L C) O0 N0 FinM.canon Tryz.f67 [D.agg [D.slc B J z],D.agg [D.str K,D.int .i64 M,D.str O,D.int .i64 S,D.int .i64 U,D.str V]]=
 (bV (h 65 [D.agg [D.slc B J z]]) fun r=>bH .i64 r fun x=>bV (h 66 [D.agg [D.str K,D.int .i64 M,D.str O,D.int .i64 S,D.int .i64 U,D.str V]]) fun a2=>bH .i64 a2 fun a5=>bV (h 87 [D.slc true 2 [D.int .i64 x,D.int .i64 a5]]) fun a3=>bH .i64 a3 fun W=>bG (W !=0)
 (some (D.tup [D.agg [D.slc true 0 []],D.int .i64 W]))
 (bV (h 148 [D.agg [D.slc B J z],D.agg [D.slc true 1 [D.str K,D.int .i64 M,D.str O,D.int .i64 S,D.int .i64 U,D.str V]]]) fun a4=>fZ a4 2 fun c=>br c 0 fun d=>mW d 1 fun Y=>br Y 0 fun a0=>ee a0 fun f n Z=>br c 1 fun a1=>bH .i64 a1 fun a6=>some (D.tup [D.agg [D.slc f n Z],D.int .i64 a6]))):=by kernel_rfl
theorem Fy(h:FuncId→List D→Option D)(L:Nat)(C:Nat→Nat)(B:Bool)(J:Nat)(z:List D)(M:Bool)(O:Nat)(K:List D):cv (dS h L C) O0 N0 FinM.canon Tryz.f68 [D.agg [D.slc B J z],D.agg [D.slc M O K]]=
 (bV (h 65 [D.agg [D.slc B J z]]) fun r=>bH .i64 r fun x=>bV (h 65 [D.agg [D.slc M O K]]) fun Z=>bH .i64 Z fun a2=>bV (h 87 [D.slc true 2 [D.int .i64 x,D.int .i64 a2]]) fun a0=>bH .i64 a0 fun S=>bG (S !=0)
 (some (D.tup [D.agg [D.slc true 0 []],D.int .i64 S]))
 (bV (h 148 [D.agg [D.slc B J z],D.agg [D.slc M O K]]) fun a1=>fZ a1 2 fun c=>br c 0 fun d=>mW d 1 fun U=>br U 0 fun W=>ee W fun f n V=>br c 1 fun Y=>bH .i64 Y fun a3=>some (D.tup [D.agg [D.slc f n V],D.int .i64 a3]))):=by kernel_rfl
theorem FA(h:FuncId→List D→Option D)(L:Nat)(C:Nat→Nat)(B:Bool)(J:Nat)(z:List D):cv (dS h L C) O0 N0 FinM.canon Tryz.f69 [D.agg [D.slc B J z]]=
 (bV (h 65 [D.agg [D.slc B J z]]) fun r=>bH .i64 r fun x=>bG (x !=0)
 (some (D.tup [D.slc true 0 [],D.int .i64 x]))
 (bV (h 98 [D.agg [D.slc B J z]]) fun O=>fZ O 2 fun c=>br c 0 fun d=>ee d fun f n K=>br c 1 fun M=>ee M fun _f_1 _n_1 _c_2=>some (D.tup [D.slc f n K,D.int .i64 0]))):=by kernel_rfl
theorem FB(h:FuncId→List D→Option D)(L:Nat)(C:Nat→Nat)(B:Bool)(J:Nat)(z:List D):cv (dS h L C) O0 N0 FinM.canon Tryz.f70 [D.agg [D.slc B J z]]=
 (bV (h 65 [D.agg [D.slc B J z]]) fun r=>bH .i64 r fun x=>bG (x !=0)
 (some (D.tup [D.slc true 0 [],D.int .i64 x]))
 (bV (h 98 [D.agg [D.slc B J z]]) fun U=>fZ U 2 fun c=>br c 0 fun d=>ee d fun _f _n _c_1=>br c 1 fun M=>ee M fun O S K=>some (D.tup [D.slc O S K,D.int .i64 0]))):=by kernel_rfl
def I6:bR:=fun p=>match p with
 |31=>nm [6,7] [] []
 |58=>nm [1,6,7,8] [] []
 |_=>none
noncomputable def j2(h:FuncId→List D→Option D)(L:Nat)(C:Nat→Nat)(J:Bool)(K:Nat)(B:List D)(z:Int):Option D:=
 gA (dS h L C) O0 I6 FinM.canon Tryz.f71 [true,true,true,true] [] (C 31) (St.mk (jn 6 (D.slc J K B::D.int .i64 z::jn 32 [])) (zn 40 []))
noncomputable def sx(h:FuncId→List D→Option D)(L:Nat)(C:Nat→Nat)(n:Nat)(B:Bool)(K:Nat)(z:List D)(U:Bool)(V:Nat)(S:List D)(M O:Int):Option D:=
 dW (dS h L C) O0 I6 FinM.canon Tryz.f71 (bt 5 11) [] n (St.mk (J::D.slc B K z::J::J::J::J::D.slc U V S::D.int .i64 M::D.int .i64 O::jn 31 []) (zn 40 []))
theorem ms(K:FuncId→List D→Option D)(L:Nat)(C:Nat→Nat)(B:Bool)(J:Nat)(z:List D)(h:Int)(hC:∀t,C t=1):j2 K L C B J z h=
 (bG (h !=0)
 (some (D.tup [D.slc true 0 [],D.int .i64 h]))
 (some (D.tup [D.slc B J z,D.int .i64 0]))):=by
 unfold j2;rw[hC]
 kernel_rfl
theorem mt(B:FuncId→List D→Option D)(L:Nat)(C:Nat→Nat)(n:Nat)(U:Bool)(S:Nat)(J:List D)(O:Bool)(z:Nat)(M:List D)(K h:Int):sx B L C (n+1) U S J O z M K h=
 (bG (decide (h<(S:Int)))
 (bG (K==0)
 (bB (decide (0≤h∧h<(S:Int)))
 (br J (Int.toNat h*6+0) fun d=>bN d fun s=>br J (Int.toNat h*6+1) fun W=>bH .i64 W fun x=>br J (Int.toNat h*6+2) fun Y=>bN Y fun a5=>br J (Int.toNat h*6+3) fun Z=>bH .i64 Z fun a7=>br J (Int.toNat h*6+4) fun a0=>bH .i64 a0 fun a8=>br J (Int.toNat h*6+5) fun a1=>bN a1 fun a6=>bV (B 149 [D.slc O z M,D.agg [D.str s,D.int .i64 x,D.str a5,D.int .i64 a7,D.int .i64 a8,D.str a6]]) fun r=>fZ r 2 fun c=>br c 0 fun a2=>ee a2 fun f a4 V=>br c 1 fun a3=>bH .i64 a3 fun a9=>sx B L C n U S J f a4 V a9 (IntKind.wrap .i64 (h+1))))
 (bG (K==0)
 (bG (decide ((z:Int)>1000))
 (j2 B L C O z M 5)
 (j2 B L C O z M K))
 (j2 B L C O z M K)))
 (bG (K==0)
 (bG (decide ((z:Int)>1000))
 (j2 B L C O z M 5)
 (j2 B L C O z M K))
 (j2 B L C O z M K))):=by kernel_rfl
theorem FC(h:FuncId→List D→Option D)(L:Nat)(C:Nat→Nat)(B:Bool)(J:Nat)(z:List D)(M:Bool)(O:Nat)(K:List D):cv (dS h L C) O0 I6 FinM.canon Tryz.f71 [D.slc B J z,D.slc M O K]=
 (sx h L C L M O K B J z 0 0):=by kernel_rfl
def JZ:bR:=fun p=>match p with
 |58=>nm [3,6,7,8] [5] [5,15]
 |_=>none
noncomputable def mv(z:FuncId→List D→Option D)(L:Nat)(C:Nat→Nat)(n:Nat)(O:Bool)(S:Nat)(M:List D)(h:Ow)(B K:Int):Option D:=
 dW (dS z L C) O0 JZ FinM.canon Tryz.f30 (bt 5 11) [] n (St.mk (J::J::J::oF 15 h::J::J::D.slc O S M::D.int .i64 B::D.int .i64 K::jn 9 []) (zn 15 [rO 131 6 h,Z,Z]))
theorem pv(K:FuncId→List D→Option D)(L:Nat)(C:Nat→Nat)(n:Nat)(M:Bool)(J:Nat)(z:List D)(B h:Int):mv K L C (n+1) M J z (Ow.nil) B h=
 (bG (decide (h<B))
 (bB (decide (0≤h∧h<(J:Int)))
 (br z (Int.toNat h*6+0) fun d=>bN d fun s=>br z (Int.toNat h*6+1) fun O=>bH .i64 O fun x=>br z (Int.toNat h*6+2) fun S=>bN S fun Y=>br z (Int.toNat h*6+3) fun U=>bH .i64 U fun a0=>br z (Int.toNat h*6+4) fun V=>bH .i64 V fun a1=>br z (Int.toNat h*6+5) fun W=>bN W fun Z=>mv K L C n M J z (Ow.own 1 [D.str s,D.int .i64 x,D.str Y,D.int .i64 a0,D.int .i64 a1,D.str Z]) B (IntKind.wrap .i64 (h+1))))
 (some (D.slc true 0 []))):=by kernel_rfl
theorem pw(O:FuncId→List D→Option D)(L:Nat)(C:Nat→Nat)(n:Nat)(S:Bool)(K:Nat)(z:List D)(B:Nat)(M:List D)(J h:Int):mv O L C (n+1) S K z (Ow.own B M) J h=
 (bG (decide (h<J))
 (bB (decide (0≤h∧h<(K:Int)))
 (br z (Int.toNat h*6+0) fun W=>bN W fun a1=>br z (Int.toNat h*6+1) fun Y=>bH .i64 Y fun a4=>br z (Int.toNat h*6+2) fun Z=>bN Z fun a2=>br z (Int.toNat h*6+3) fun a0=>bH .i64 a0 fun a5=>br z (Int.toNat h*6+4) fun U=>bH .i64 U fun a6=>br z (Int.toNat h*6+5) fun V=>bN V fun a3=>bB (decide ((B+1)*72≤bS∧B+1≤9223372036854775807))
 (mv O L C n S K z (Ow.own (B+1) (M++[D.str a1,D.int .i64 a4,D.str a2,D.int .i64 a5,D.int .i64 a6,D.str a3])) J (IntKind.wrap .i64 (h+1)))))
 (some (D.slc false B M))):=by kernel_rfl
theorem FD(z:FuncId→List D→Option D)(L:Nat)(C:Nat→Nat)(J:Bool)(h:Nat)(B:List D):cv (dS z L C) O0 JZ FinM.canon Tryz.f30 [D.slc J h B]=
 (mv z L C L J h B (Ow.nil) ((h:Int)) 0):=by kernel_rfl
def J0:bR:=fun p=>match p with
 |58=>nm [0,5] [] []
 |_=>none
noncomputable def px(h:FuncId→List D→Option D)(L:Nat)(C:Nat→Nat)(n:Nat)(K:Bool)(M:Nat)(B:List D)(z:Int):Option D:=
 dW (dS h L C) O0 J0 FinM.canon Tryz.f31 (bt 5 11) [] n (St.mk (D.slc K M B::J::J::J::J::D.int .i64 z::jn 36 []) (zn 42 []))
theorem qX(J:FuncId→List D→Option D)(L:Nat)(C:Nat→Nat)(n:Nat)(K:Bool)(z:Nat)(B:List D)(h:Int):px J L C (n+1) K z B h=
 (bG (decide (h<(z:Int)))
 (bB (decide (0≤h∧h<(z:Int)))
 (br B (Int.toNat h*6+0) fun d=>bN d fun s=>bG (decide (((ByteArray.size s):Int)>60))
 (some (D.bool false))
 (bB (decide (0≤h∧h<(z:Int)))
 (br B (Int.toNat h*6+2) fun M=>bN M fun S=>bG (decide (((ByteArray.size S):Int)>60))
 (some (D.bool false))
 (bB (decide (0≤h∧h<(z:Int)))
 (br B (Int.toNat h*6+4+1) fun O=>bN O fun U=>bG (decide (((ByteArray.size U):Int)>60))
 (some (D.bool false))
 (px J L C n K z B (IntKind.wrap .i64 (h+1)))))))))
 (some (D.bool true))):=by kernel_rfl
theorem FE(z:FuncId→List D→Option D)(L:Nat)(C:Nat→Nat)(J:Bool)(h:Nat)(B:List D)(K:Int):cv (dS z L C) O0 J0 FinM.canon Tryz.f31 [D.slc J h B,D.int .i64 K]=
 (bG (decide ((h:Int)>K))
 (some (D.bool false))
 (px z L C L J h B 0)):=by kernel_rfl
def J1:bR:=fun p=>match p with
 |26=>nm [5,6,7] [] []
 |_=>none
noncomputable def wX(h:FuncId→List D→Option D)(L:Nat)(C:Nat→Nat)(n:Nat)(K:Bool)(M:Nat)(J:List D)(z B:Int):Option D:=
 dW (dS h L C) O0 J1 FinM.canon Tryz.f34 [true,false,true,false] [] n (St.mk (jn 5 (D.slc K M J::D.int .i64 z::D.int .i64 B::jn 7 [])) (zn 15 []))
theorem mw(K:FuncId→List D→Option D)(L:Nat)(C:Nat→Nat)(n:Nat)(M:Bool)(J:Nat)(B:List D)(z h:Int):wX K L C (n+1) M J B z h=
 (bG (decide (h<z))
 (bB (decide (0≤h∧h<(J:Int)))
 (br B (Int.toNat h*1) fun d=>bH .i64 d fun x=>bG (x !=0)
 (some (D.int .i64 x))
 (wX K L C n M J B z (IntKind.wrap .i64 (h+1)))))
 (some (D.int .i64 0))):=by kernel_rfl
theorem FF(z:FuncId→List D→Option D)(L:Nat)(C:Nat→Nat)(J:Bool)(h:Nat)(B:List D):cv (dS z L C) O0 J1 FinM.canon Tryz.f34 [D.slc J h B]=
 (wX z L C L J h B ((h:Int)) 0):=by kernel_rfl
end Go.Pd
end
