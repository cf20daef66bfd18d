import Derived.Test.YtmhbhlbnlmbhlaaGreatDoorPdFb
import Derived.MapKept
import Derived.WalkSpells
import Derived.RangeFuncCalls
import Derived.Orders
section
namespace Go.Pd
open Go.RowKit
section
variable {E:Env}{I0:Nat→Prop}{B:Nat→Prop}{I:Nat→Prop}{A:Nat→Nat→Option Gh}{σ:St}{a:Act}{w:World}{G:Nat→Nat}
theorem AR{f:Value→Value→Bool}:∀{l:List Value},(∀v∈l,f v v=true)→((l.zip l).all fun x=>f x.1 x.2)=true
 |[],_=>rfl
 |v::l,h=>by
  simp only[List.zip_cons_cons,List.all_cons,h v (za4 ..),Bool.true_and];exact AR fun u hu=>h u (za5 _ hu)
theorem Fc{k:D}{v:Value}(hv:RelV I A G w k v){P:Program}{t:TypeId}(hkk:dg P t k=true)(n:Nat):Instr.sameBits (n+1) v v=true:=by
 have hkk0:=hkk;unfold dg at hkk;split at hkk
 ·rw[hv.int_inv];simp[Instr.sameBits]
 ·rw[hv.str_inv];simp[Instr.sameBits,(MapKept.bytes_beq _ _).2 rfl]
 ·rw[hv.bool_inv];simp[Instr.sameBits]
 ·obtain⟨fs,hu,_,hkf⟩:=eK hkk0;obtain⟨vs,h1,h2,_⟩:=g9 hkf;rw[hv.toV1 (u:= .agg vs.toArray) (by simp[D.toV1,h1])];unfold Instr.sameBits;simp only[ze7,Bool.true_and];refine AR (f:=fun x y=>Instr.sameBits n x y) fun v hv=> ?_;obtain⟨k,a,rfl⟩:=h2 v hv;cases n<;>simp[Instr.sameBits]
 ·cases hkk
def ew(w:World)(b:Nat)(o:Obj):World:={w with heap:=w.heap.setIfInBounds b o}
theorem cB(w:World)(b:Nat)(o:Obj):(ew w b o).heap.size=w.heap.size:=by simp[ew]
theorem cY(w:World)(b:Nat)(o:Obj){k:Nat}(h:k≠b):(ew w b o).heap[k]?=w.heap[k]?:=by
 simp[ew,Ne.symm h]
theorem ee{w:World}{b:Nat}{o:Obj}(h:b<w.heap.size):(ew w b o).heap[b]?=some o:=by
 simp[ew,h]
theorem pC{B:Nat→Prop}{w:World}{b:Nat}(hb:¬B b)(o:Obj):Blw B w (ew w b o):=
 ⟨rfl,rfl,rfl,by simp[ew],fun k hk=>cY w b o (fun e=>hb (e▸hk))⟩
theorem AS{P:Program}{t:TypeId}{k:D}(h:dg P t k=true):Clo k:=by
 have h0:=h;unfold dg at h;split at h
 ·exact .atom rfl
 ·exact .atom rfl
 ·exact .atom rfl
 ·obtain⟨fs,hu,_,hkf⟩:=eK h0;obtain⟨vs,h1,h2,h3⟩:=g9 hkf;exact .agg _ fun d hd=>by
   obtain⟨k,a,rfl⟩:=h3 d hd;exact .atom rfl
 ·cases h
theorem mt(h:Inv I0 B I A σ a w){t:TypeId}{m k x:D}{σ':St}(hs:cU E σ t m k x=some σ'){vm vk vx:Value}(hm:RelV I A (bG σ.H) w m vm)(hk:RelV I A (bG σ.H) w k vk)(hx:RelV I A (bG σ.H) w x vx):
  ∃w',(Instr.mapUpdate t vm vk vx).run E.P w= .ok () w'∧Step I0 B I a w (.tup []) σ' undef w':=by
 unfold cU at hs;split at hs
 ·rename_i kt et s g hmt;split at hs
  ·rename_i hkk;obtain⟨kd,hkd⟩:=ni hkk;split at hs
   ·rename_i ks vs hl;split at hs
    ·cases hs
    ·rename_i x' ss hsn;split at hs
     ·cases hs
     ·rename_i hns;have hns':s∉ss:=by simpa using hns
      obtain⟨b1,b2⟩:=c7 h depth _ _ _ hsn;obtain⟨hfz,hRf⟩:=h.freeze ss b1.free;obtain⟨y,hy,hyB,es,ck,hb,hkl,hvl,hkr,hvr,hfr,hclo⟩:=h.ob s g _ hl;have hnI:¬I y.b:=fun hi=>by have:=hfr.2 hi;cases this
      have hnI':¬eB I A ss y.b:=by
       rintro (hi|⟨s',hs',g',y',hy',hb'⟩)
       ·exact hnI hi
       ·exact hns' ((h.inj _ _ _ _ _ _ hy hy' hb').1▸hs')
      have hlf:bE (σ.freeze ss).H s g=some (.map ks vs false):=by
       have:=cP ss σ.H s g;simpa [hns',hl,St.freeze] using this
      have hlt:y.b<w.heap.size:=(zc0.1 hb).1;have hu:=nk hmt;have hck:=pB (w:=w) hkk hk false 9998;rw[hm.mloc_inv hy];have hck2:Clo k:=AS hkk;have hcx:Clo x':=(b2 vx hx).clo;have fin:∀(ks' vs':List D) (es':Array MapEntry) (ck':Nat),ks'.length=es'.size→vs'.length=es'.size→
        (∀(j:Nat) (d:D) (e:MapEntry),ks'[j]?=some d→es'[j]?=some e→RelV (eB I A ss) A (bG (σ.freeze ss).H) w d e.key)→(∀(j:Nat) (d:D) (e:MapEntry),vs'[j]?=some d→es'[j]?=some e→RelV (eB I A ss) A (bG (σ.freeze ss).H) w d e.val)→(∀d,(d∈ks'∨d∈vs')→Clo d)→
        Step I0 B I a w (.tup []) ((σ.freeze ss).setOb s (some (.map ks' vs' false))) undef (ew w y.b (.map es' ck')):=by
       intro ks' vs' es' ck' h1 h2 h3 h4 h5;obtain⟨hi',hR⟩:=hfz.set (o':= .map ks' vs' false) hlf hy hnI' (w':=ew w y.b (.map es' ck')) (cB _ _ _) (fun b hb'=>cY w y.b _ hb') (fun hR=>
        ⟨es',ck',ee hlt,h1,h2,fun j d e hd he=>hR _ _ (h3 j d e hd he),fun j d e hd he=>hR _ _ (h4 j d e hd he),⟨(fun hh=>by cases hh),fun hi=>absurd hi hnI'⟩,h5⟩)
       exact⟨eB I A ss,A,hi',iD,fun _ hb=> .inl hb,fun b hb'=>cY w y.b _ (fun e=>hnI (e▸hb')),pC (hyB.resolve_left hnI) _⟩
      split at hs
      ·rename_i i hf;simp only[za0] at hs;subst hs;obtain⟨j,e,dk,rfl,he,hdk,heq,hfn⟩:=pA hk hkd hkk hf (es:=es.toList) (by simpa using hkl) (fun j d e hd he=>hkr j d e hd (by simpa using he));rw[Nat.zero_add] at hfn ⊢;have he':es[j]?=some e:=by simpa using he
       have hjlt:j<es.size:=(zc0.1 he').1;have hdk':=Cx heq;subst hdk';have hke:e.key=vk:=by
        have r1:=hkr j _ e hdk he';obtain⟨u,hu'⟩:=AL hkk;rw[r1.toV1 hu',hk.toV1 hu']
       have hkts:(Instr.keyThatStays (((es[j]?).map (·.key)).getD vk) vk).run E.P w= .ok vk w:=by
        rw[he'];simp only[Option.map_some,Option.getD_some,hke];simp[Instr.keyThatStays,Fc hk hkk]
       refine⟨ew w y.b (.map (es.modify j fun e=>{e with key:=vk,val:=vx}) ck),?_,fin _ _ _ _ (by simpa using hkl) (by simpa using hvl) (fun j' d e' hd he=> ?_) (fun j' d e' hd he=> ?_) (fun d hd=>by
        rcases hd with h1|h1
        ·exact hclo d (.inl h1)
        ·rcases List.mem_or_eq_of_mem_set h1 with h2|h2
         ·exact hclo d (.inr h2)
         ·rw[h2];exact hcx)⟩
       ·simp only[Instr.mapUpdate,Sem.run_bind,run_underlying hu,Result.andThen_ok,getObj,Sem.run,hb,hck,hfn,hkts,setObj,ew]
       ·rw[Array.getElem?_modify] at he;by_cases ej:j=j'
        ·subst ej;rw[if_pos rfl,he'] at he;simp only[Option.map_some,za0] at he;subst he;rw[hdk] at hd;cases hd;exact hRf _ _ hk
        ·rw[if_neg ej] at he;exact hRf _ _ (hkr j' d e' hd he)
       ·rw[Array.getElem?_modify] at he;by_cases ej:j=j'
        ·subst ej;rw[if_pos rfl,he'] at he;simp only[Option.map_some,za0] at he;subst he;rw[List.getElem?_set_self (by omega)] at hd;cases hd;exact .clo (b2 vx hx)
        ·rw[if_neg ej] at he;rw[List.getElem?_set_ne ej] at hd;exact hRf _ _ (hvr j' d e' hd he)
      ·rename_i hf;simp only[za0] at hs;subst hs;have hfn:=pA hk hkd hkk hf (es:=es.toList) (by simpa using hkl) (fun j d e hd he=>hkr j d e hd (by simpa using he));refine⟨ew w y.b (.map (es.push {key:=vk,val:=vx,born:=ck}) (ck+1)),?_,fin _ _ _ _ (by simp[hkl]) (by simp[hvl]) (fun j' d e' hd he=> ?_) (fun j' d e' hd he=> ?_) (fun d hd=>by
        rcases hd with h1|h1
        ·rcases za9.1 h1 with h2|h2
         ·exact hclo d (.inl h2)
         ·rw[zd4.1 h2];exact hck2
        ·rcases za9.1 h1 with h2|h2
         ·exact hclo d (.inr h2)
         ·rw[zd4.1 h2];exact hcx)⟩
       ·simp only[Instr.mapUpdate,Sem.run_bind,run_underlying hu,Result.andThen_ok,getObj,Sem.run,hb,hck,hfn,setObj,ew]
       ·rw[Array.getElem?_push] at he;by_cases ej:j'=es.size
        ·rw[if_pos ej] at he;cases he;rw[zb8 (by omega),ej,hkl] at hd;simp at hd;subst hd;exact hRf _ _ hk
        ·rw[if_neg ej] at he;have hj:=(zc0.1 he).1;rw[zb9 (by omega)] at hd;exact hRf _ _ (hkr j' d e' hd he)
       ·rw[Array.getElem?_push] at he;by_cases ej:j'=es.size
        ·rw[if_pos ej] at he;cases he;rw[zb8 (by omega),ej,hvl] at hd;simp at hd;subst hd;exact .clo (b2 vx hx)
        ·rw[if_neg ej] at he;have hj:=(zc0.1 he).1;rw[zb9 (by omega)] at hd;exact hRf _ _ (hvr j' d e' hd he)
      ·cases hs
   ·cases hs
  ·cases hs
 ·cases hs
theorem Fd(h:Inv I0 B I A σ a w)(hB:∀k,B k→k<w.heap.size){dst:Option Tmp}{d:D}{σ':St}(hn:cM σ dst (.map [] [] false) (fun s g=> .mloc s g)=some (d,σ'))(t:TypeId):
  ∃u w',(Instr.makeMap t none).run E.P w= .ok u w'∧Step I0 B I a w d σ' u w':=by
 refine⟨.map (some w.heap.size),w.alloc (.map #[] 0),by simp[Instr.makeMap],?_⟩;refine pn (w1:=w) (x:=⟨w.heap.size,0,0⟩) h hB hn (fun _ _=>rfl) (Blw.refl _ _) rfl rfl rfl (fun A' G' hR=> ?_) (fun s g A' G' hA hg=> ?_)
 ·exact⟨#[],0,dM w _,rfl,rfl,(fun j d e hd=>by simp at hd),(fun j d e hd=>by simp at hd),⟨(fun hh=>by cases hh),fun hi=>by have:=h.iw _ hi;exact absurd this (zd1 _)⟩,fun d hd=>by rcases hd with h|h<;>cases h⟩
 ·exact .mloc _ _ _ hg fun y hy=>by rw[hA] at hy;cases hy;rfl
theorem Cy(h:Inv I0 B I A σ a w)(hB:∀k,B k→k<w.heap.size){dst:Option Tmp}{t:TypeId}{x d:D}{σ':St}(hn:lm E σ dst t x=some (d,σ')){v:Value}(hv:RelV I A (bG σ.H) w x v):
  ∃u w',(Instr.range t v).run E.P w= .ok u w'∧Step I0 B I a w d σ' u w':=by
 unfold lm at hn;split at hn
 ·rename_i s hu;rw[hv.str_inv];refine⟨.pointer (some ⟨w.heap.size,0,none⟩),w.alloc (.stringIter s 0),by simp[Instr.range,run_underlying hu],?_⟩;refine pn (w1:=w) (x:=⟨w.heap.size,0,0⟩) h hB hn (fun _ _=>rfl) (Blw.refl _ _) rfl rfl rfl (fun A' G' hR=> ?_) (fun s g A' G' hA hg=> ?_)
  ·exact⟨dM w _,fun hi=>by have:=h.iw _ hi;exact absurd this (zd1 _)⟩
  ·exact .loc _ _ _ _ hg fun y hy=>by rw[hA] at hy;cases hy;rfl
 ·cases hn
theorem Fe(h:Inv I0 B I A σ a w){x d:D}{σ':St}(hs:j0 σ x=some (d,σ')){v:Value}(hv:RelV I A (bG σ.H) w x v)(ty:TypeId):
  ∃u w',(Instr.next v true ty).run E.P w= .ok u w'∧Step I0 B I a w d σ' u w':=by
 unfold j0 at hs;split at hs
 ·rename_i s g;split at hs
  ·rename_i b pos hl;obtain⟨y,hy,hyB,hb,hnI⟩:=h.ob s g _ hl;rw[hv.loc_inv hy];split at hs
   ·rename_i hlt;simp only[za0,zb3] at hs;obtain⟨rfl,rfl⟩:=hs;refine⟨.tuple #[.bool true,.int .i64 pos,.int .i32 (Utf8.decode b pos).1],ew w y.b (.stringIter b (pos+(Utf8.decode b pos).2)),?_,?_⟩
    ·simp only[Instr.next,Sem.run_bind,getObj,Sem.run,hb,Result.andThen_ok,hlt,if_true,setObj,Sem.run_pure,goInt,ew]
    ·have hlt':y.b<w.heap.size:=(zc0.1 hb).1;obtain⟨hi',hR⟩:=h.set (o':= .sit b (pos+(Utf8.decode b pos).2)) hl hy hnI (w':=ew w y.b (.stringIter b (pos+(Utf8.decode b pos).2))) (cB _ _ _) (fun k hk=>cY w y.b _ hk) (fun hR=>⟨ee hlt',hnI⟩);refine⟨I,A,hi',.clo (.tup _ _ rfl fun j d' u hd hu=> ?_),fun _ hb=>hb,fun k hk=>cY w y.b _ (fun e=>hnI (e▸hk)),pC (hyB.resolve_left hnI) _⟩
     match j,hd,hu with
     |0,hd,hu=>simp at hd hu;subst hd hu;exact .bool _
     |1,hd,hu=>simp at hd hu;subst hd hu;exact .int _ _
     |2,hd,hu=>simp at hd hu;subst hd hu;exact .int _ _
     |j+3,hd,_=>simp at hd
   ·rename_i hlt;simp only[za0,zb3] at hs;obtain⟨rfl,rfl⟩:=hs;refine⟨.tuple #[.bool false],w,?_,Step.pure h (.clo (.tup _ _ rfl fun j d' u hd hu=> ?_))⟩
    ·simp only[Instr.next,Sem.run_bind,getObj,Sem.run,hb,Result.andThen_ok,hlt,if_false,Sem.run_pure]
    ·match j,hd,hu with
     |0,hd,hu=>simp at hd hu;subst hd hu;exact .bool _
     |j+1,hd,_=>simp at hd
  ·cases hs
 ·cases hs
theorem ch{o:BinOp}{t:TypeId}{x y:Operand}{ad ad':Option Addr}{n c n' c':Nat}:(eqGuard o t x y (.slice ad n c) (.slice ad' n' c')).run E.P w= .ok () w:=by
 cases o<;>rfl
theorem Cz{o:BinOp}{t:TypeId}{x y:Operand}{dx dy d:D}(hs:fi E o t dx dy=some d){vx vy:Value}(hx:RelV I A G w dx vx)(hy:RelV I A G w dy vy):
  ∃u,(do eqGuard o t x y vx vy;binOp o t vx vy:Sem Value).run E.P w= .ok u w∧RelV I A G w d u:=by
 unfold fi at hs;split at hs
 ·rename_i e hu;have q1:∀(ad:Addr) (n c:Nat),(binOp .eql t (.slice (some ad) n c) (.slice none 0 0)).run E.P w= .ok (.bool false) w:=fun ad n c=>Lib.run_eql_slice_nil w t e (some ad) n c 0 0 hu;have q2:∀(ad:Addr) (n c:Nat),(binOp .neq t (.slice (some ad) n c) (.slice none 0 0)).run E.P w= .ok (.bool true) w:=fun ad n c=>run_neq_slice_nil_any w t e (some ad) n c 0 0 hu;have q3:∀(ad:Addr) (n c:Nat),(binOp .eql t (.slice none 0 0) (.slice (some ad) n c)).run E.P w= .ok (.bool false) w:=fun ad n c=>run_eql_nil_slice w t e (some ad) n c 0 0 hu;have q4:∀(ad:Addr) (n c:Nat),(binOp .neq t (.slice none 0 0) (.slice (some ad) n c)).run E.P w= .ok (.bool true) w:=fun ad n c=>run_neq_nil_slice w t e (some ad) n c 0 0 hu;have q5:(binOp .eql t (.slice none 0 0) (.slice none 0 0)).run E.P w= .ok (.bool true) w:=Lib.run_eql_slice_nil w t e none 0 0 0 0 hu;have q6:(binOp .neq t (.slice none 0 0) (.slice none 0 0)).run E.P w= .ok (.bool false) w:=run_neq_slice_nil_any w t e none 0 0 0 0 hu;split at hs
  ·rw[hy.nils_inv];rcases hx.osl_inv with⟨rfl,rfl⟩|⟨rfl,ad,n,c,rfl⟩
   ·split at hs<;>(try cases hs)
    ·exact⟨.bool true,by simp only[Sem.run_bind,ch,Result.andThen_ok,q5],.clo (.bool _)⟩
    ·exact⟨.bool false,by simp only[Sem.run_bind,ch,Result.andThen_ok,q6],.clo (.bool _)⟩
   ·split at hs<;>(try cases hs)
    ·exact⟨.bool false,by simp only[Sem.run_bind,ch,Result.andThen_ok,q1],.clo (.bool _)⟩
    ·exact⟨.bool true,by simp only[Sem.run_bind,ch,Result.andThen_ok,q2],.clo (.bool _)⟩
  ·rw[hx.nils_inv];rcases hy.osl_inv with⟨rfl,rfl⟩|⟨rfl,ad,n,c,rfl⟩
   ·split at hs<;>(try cases hs)
    ·exact⟨.bool true,by simp only[Sem.run_bind,ch,Result.andThen_ok,q5],.clo (.bool _)⟩
    ·exact⟨.bool false,by simp only[Sem.run_bind,ch,Result.andThen_ok,q6],.clo (.bool _)⟩
   ·split at hs<;>(try cases hs)
    ·exact⟨.bool false,by simp only[Sem.run_bind,ch,Result.andThen_ok,q3],.clo (.bool _)⟩
    ·exact⟨.bool true,by simp only[Sem.run_bind,ch,Result.andThen_ok,q4],.clo (.bool _)⟩
  ·rw[hy.nils_inv];obtain⟨ad,cap,rfl,_⟩:=pp (k:=0) hx;split at hs<;>(try cases hs)
   ·exact⟨.bool false,by simp only[Sem.run_bind,ch,Result.andThen_ok,q1],.clo (.bool _)⟩
   ·exact⟨.bool true,by simp only[Sem.run_bind,ch,Result.andThen_ok,q2],.clo (.bool _)⟩
  ·rw[hy.nils_inv];split at hs<;>(try (cases hs;done));rename_i hpos;obtain⟨ad,cap,rfl,_⟩:=ut (k:=0) hpos hx;split at hs<;>(try cases hs)
   ·exact⟨.bool false,by simp only[Sem.run_bind,ch,Result.andThen_ok,q1],.clo (.bool _)⟩
   ·exact⟨.bool true,by simp only[Sem.run_bind,ch,Result.andThen_ok,q2],.clo (.bool _)⟩
  ·rw[hy.nils_inv];obtain⟨ad,cap,rfl,_⟩:=hx.win_inv;split at hs<;>(try cases hs)
   ·exact⟨.bool false,by simp only[Sem.run_bind,ch,Result.andThen_ok,q1],.clo (.bool _)⟩
   ·exact⟨.bool true,by simp only[Sem.run_bind,ch,Result.andThen_ok,q2],.clo (.bool _)⟩
  ·rw[hx.nils_inv];obtain⟨ad,cap,rfl,_⟩:=hy.win_inv;split at hs<;>(try cases hs)
   ·exact⟨.bool false,by simp only[Sem.run_bind,ch,Result.andThen_ok,q3],.clo (.bool _)⟩
   ·exact⟨.bool true,by simp only[Sem.run_bind,ch,Result.andThen_ok,q4],.clo (.bool _)⟩
  ·rw[hx.nils_inv];obtain⟨ad,cap,rfl,_⟩:=pp (k:=0) hy;split at hs<;>(try cases hs)
   ·exact⟨.bool false,by simp only[Sem.run_bind,ch,Result.andThen_ok,q3],.clo (.bool _)⟩
   ·exact⟨.bool true,by simp only[Sem.run_bind,ch,Result.andThen_ok,q4],.clo (.bool _)⟩
  ·rw[hx.nils_inv];split at hs<;>(try (cases hs;done));rename_i hpos;obtain⟨ad,cap,rfl,_⟩:=ut (k:=0) hpos hy;split at hs<;>(try cases hs)
   ·exact⟨.bool false,by simp only[Sem.run_bind,ch,Result.andThen_ok,q3],.clo (.bool _)⟩
   ·exact⟨.bool true,by simp only[Sem.run_bind,ch,Result.andThen_ok,q4],.clo (.bool _)⟩
  ·cases hs
 ·cases hs
theorem CA(h:Inv I0 B I A σ a w){t:TypeId}{x d:D}{σ':St}(hs:iJ E σ t x=some (d,σ')){v:Value}(hv:RelV I A (bG σ.H) w x v)(ty:TypeId):∃u w',(Builtin.clear_ #[t] ty #[v]).run E.P w= .ok u w'∧Step I0 B I a w d σ' u w':=by
 unfold iJ at hs;split at hs
 ·rename_i e y he hy;obtain⟨s,g,off,len⟩:=y;obtain⟨ad,cap,rfl,hcap,hg,had⟩:=qr hy hv;split at hs
  ·rename_i n z e' m cs hn hz hl;simp only at hs hl;split at hs
   ·rename_i h0;simp only[za0,zb3] at hs;obtain⟨rfl,rfl⟩:=hs;subst h0;refine⟨.tuple #[],w,?_,Step.pure h iD⟩;simp[Builtin.clear_,run_underlying (eu he)]
   ·rename_i h0;split at hs
    ·rename_i hcond;simp only[zc4,zc7] at hcond;obtain⟨hzl,hone,hle⟩:=hcond;simp only[za0,zb3] at hs;obtain⟨rfl,rfl⟩:=hs;obtain⟨x,hx,hxB,c,hb,hcs,hm,hlc,hcl,hrel,hfz,hclo⟩:=h.ob s g _ hl;have hle':x.len*m≤x.cap*m:=Nat.mul_le_mul_right _ hlc;have hnI:¬I x.b:=fun hi=>by have:=hfz.2 hi;cases this
     have had:=(had (by omega) x hx).1;subst had;obtain⟨i,zv,hi,hzv,ho⟩:=gh hz;have hzr0:RelV I (fun _ _=>none) (fun _=>0) w z zv:= .clo (f9 ho);obtain⟨c1,c2,c3⟩:=hzr0.cells hone;obtain⟨k1,k2⟩:=ux (R:=RelC I w) c1 (fun j x u hx hu=>(c2 j x u hx hu).toC) len;have hzs:zv.cells.size=n:=by omega
     obtain⟨zs,hzsd⟩:∃zs,zs=(Builtin.zeroCells zv.cells len).toList:=⟨_,rfl⟩;have hzlen:zs.length=len*n:=by rw[hzsd];simp[Builtin.zeroCells,hzs]
     have hz1:∀u∈zs,u.oneCell'=true:=fun u hu=>by
      rw[hzsd] at hu;unfold Builtin.zeroCells at hu;simp only[Array.toList_map,zd8] at hu;obtain⟨j,hj,rfl⟩:=hu;have hpos:0<zv.cells.size:=by
       rcases Nat.eq_zero_or_pos zv.cells.size with h0|h0
       ·rw[h0,Nat.mul_zero] at hj;simp at hj
       ·exact h0
      have hlt:j%zv.cells.size<zv.cells.size:=ze1 _ hpos;rw[getElem!_pos zv.cells _ hlt];exact c3 _ (by simp)
     have hst:=run_storeCells_at (P:=E.P) x.b off e' zs 0 c w hb (by simp only[Nat.add_zero];rw[hzlen];omega) hz1;simp only[Nat.add_zero] at hst;refine⟨.tuple #[],w.setRow x.b (c.toList.take off++zs++c.toList.drop (off+zs.length)).toArray,?_,?_⟩
     ·obtain⟨l',rfl⟩:∃l',len=l'+1:=⟨len-1,by omega⟩;have hzvr:(zeroValue e).run E.P w= .ok zv w:=by
       simp[zeroValue,typeInfo,hi,hzv]
      rw[hzsd] at hst ⊢;simp[Builtin.clear_,run_underlying (eu he),hzvr,hst]
     ·obtain⟨hi',hR⟩:=h.set (o':= .arr e' m (de cs off (fk len z.cells)) false) hl hx hnI (w':=w.setRow x.b (c.toList.take off++zs++c.toList.drop (off+zs.length)).toArray) (by simp) (fun b hb'=>setRow_other w x.b b _ hb') (fun hR=>by
       have hrl:(fk len z.cells).length=len*n:=by rw[jq,hzl]
       have hzr:∀(j:Nat) (d:D) (v:Value),(fk len z.cells)[j]?=some d→zs[j]?=some v→RelC I w d v:=fun j d v hd hv=>by
        refine k2 j d v hd ?_;rw[hzsd] at hv;rw[←Array.getElem?_toList];exact hv
       refine⟨_,setRow_heap w x.b c _ e' _ hb,?_,hm,hlc,by rw[gp,hcl],fun j d v hd hv=> ?_,⟨(fun hh=>by cases hh),fun hi=>absurd hi hnI⟩,fun d hd=> ?_⟩
       ·rw[jI _ _ _ (by omega),hcs]
       ·refine hR _ _ (iN (R:=RelV I A (bG σ.H) w) (c:=c.toList) (vs:=zs) (by simp;omega) (by omega) (by omega) (fun j d v hd hv=>hrel j d v hd (by simpa using hv)) (fun j d v hd hv=> .clo (hzr j d v hd hv)) j d v hd (by simpa using hv))
       ·rcases mo _ _ _ _ hd with h1|h1
        ·exact hclo d h1
        ·obtain⟨j,hj,rfl⟩:=List.getElem_of_mem h1;exact(hzr j _ _ (zd5 hj) (zd5 (by omega:j<zs.length))).clo)
      exact⟨I,A,hi',iD,fun _ hb=>hb,fun b hb'=>setRow_other w x.b b _ (fun e=>hnI (e▸hb')),iM (hxB.resolve_left hnI) _⟩
    ·cases hs
  ·cases hs
 ·cases hs
end
def AT(P:Program)(gl:Nat→Option D)(k:FuncId)(g:pc):Prop:=
 (∀vs w,(callFunc k vs).run P w= .ok (.enter k vs) w)∧
 ∀(I:Nat→Prop) (w:World) (b cap n len:Nat) (e:TypeId) (c:Array Value) (cs rest cs':List D) (m:Option Nat) (vrest:Array Value),
  (∀b,I b→b<w.heap.size)→Gl gl I w→¬I b→w.heap[b]?=some (.cells c e (0,0))→c.size=cap*n→cap≤maxLen→len≤cap→cs.length=len*n→cs.all D.plainZ=true→
  (∀(j:Nat) (d:D) (v:Value),cs[j]?=some d→c[j]?=some v→d.toVZ=some v)→rest.length=vrest.size→(∀(j:Nat) (d:D) (v:Value),rest[j]?=some d→vrest[j]?=some v→RelC I w d v)→
  g cs len rest=some (cs',m)→cs'.all D.plainZ=true→(match m with|none=>cs'.length=cs.length|some m=>cs'.length=m*n∧m≤len)→
  Calls P k (#[.slice (some ⟨b,0,none⟩) len cap]++vrest) w fun en w'=>en= .returned (match m with|none=> .tuple #[]|some m=> .slice (some ⟨b,0,none⟩) m cap)∧
   ∃c',w'.heap[b]?=some (.cells c' e (0,0))∧c'.size=c.size∧(∀(j:Nat) (d:D) (v:Value),cs'[j]?=some d→c'[j]?=some v→d.toVZ=some v)∧
    w.heap.size≤w'.heap.size∧(∀k,k<w.heap.size→k≠b→w'.heap[k]?=w.heap[k]?)∧w'.os=w.os∧w'.tape=w.tape∧w'.output=w.output
def AU(P:Program)(gl:Nat→Option D)(k:FuncId)(p:Nat)(g:List D→Option D):Prop:=
 (∀vs w,(callFunc k vs).run P w= .ok (.enter k vs) w)∧
 ∀(I:Nat→Prop) (w:World) (b cap n len m:Nat) (e:TypeId) (f:Bool) (c:Array Value) (ds cs cs':List D) (r:D) (vs:Array Value),
  (∀b,I b→b<w.heap.size)→Gl gl I w→¬I b→w.heap[b]?=some (.cells c e (0,0))→c.size=cap*n→cap≤maxLen→len≤cap→cs.length=len*n→cs.all D.plain=true→
  (∀(j:Nat) (d:D) (v:Value),cs[j]?=some d→c[j]?=some v→d.toV=some v)→p<ds.length→ds.length=vs.size→vs[p]?=some (.slice (some ⟨b,0,none⟩) len cap)→(∀(j:Nat) (d:D) (v:Value),j≠p→ds[j]?=some d→vs[j]?=some v→RelC I w d v)→
  g (ds.set p (.slc false len cs))=some (.tup [.slc f m cs',r])→cs'.all D.plain=true→cs'.length=cs.length→
  Calls P k vs w fun en w'=>∃v c',en= .returned v∧RelC (fun x=>I x∨(w.heap.size≤x∧x<w'.heap.size)) w' r v∧w'.heap[b]?=some (.cells c' e (0,0))∧c'.size=c.size∧(∀(j:Nat) (d:D) (v:Value),cs'[j]?=some d→c'[j]?=some v→d.toV=some v)∧
    w.heap.size≤w'.heap.size∧(∀k,k<w.heap.size→k≠b→w'.heap[k]?=w.heap[k]?)∧w'.os=w.os∧w'.tape=w.tape∧w'.output=w.output
def HG(P:Program)(gl:Nat→Option D)(k:FuncId)(p:Nat)(g:List D→Option D):Prop:=
 (∀vs w,(callFunc k vs).run P w= .ok (.enter k vs) w)∧
 ∀(I:Nat→Prop) (w:World) (b cap n tot off len capw m:Nat) (e:TypeId) (f:Bool) (c:Array Value) (ds ca cs':List D) (r:D) (vs:Array Value),
  (∀b,I b→b<w.heap.size)→Gl gl I w→¬I b→w.heap[b]?=some (.cells c e (0,0))→c.size=cap*n→cap≤maxLen→tot≤cap→ca.length=tot*n→ca.all D.plain=true→
  (∀(j:Nat) (d:D) (v:Value),ca[j]?=some d→c[j]?=some v→d.toV=some v)→0<len→off+len*n≤ca.length→len≤capw→(off=0→capw=cap)→off+capw*n=cap*n→0<n→p<ds.length→ds.length=vs.size→vs[p]?=some (.slice (some ⟨b,off,none⟩) len capw)→(∀(j:Nat) (d:D) (v:Value),j≠p→ds[j]?=some d→vs[j]?=some v→RelC I w d v)→
  g (ds.set p (.slc false len ((ca.drop off).take (len*n))))=some (.tup [.slc f m cs',r])→cs'.all D.plain=true→cs'.length=len*n→
  Calls P k vs w fun en w'=>∃v c',en= .returned v∧RelC (fun x=>I x∨(w.heap.size≤x∧x<w'.heap.size)) w' r v∧w'.heap[b]?=some (.cells c' e (0,0))∧c'.size=c.size∧(∀(j:Nat) (d:D) (v:Value),(de ca off cs')[j]?=some d→c'[j]?=some v→d.toV=some v)∧
    w.heap.size≤w'.heap.size∧(∀k,k<w.heap.size→k≠b→w'.heap[k]?=w.heap[k]?)∧w'.os=w.os∧w'.tape=w.tape∧w'.output=w.output
def HH(P:Program)(gl:Nat→Option D)(k:FuncId):Mu→Prop
 | .plc p g=>AU P gl k p g
 | .plw p g=>HG P gl k p g
 |mu=>AT P gl k mu.f
def S9(P:Program)(gl:Nat→Option D)(k:FuncId)(g:List (Nat×Option Ob)→List D→Option (D×List (Nat×Option Ob))):Prop:=
 ∀(I0 B I:Nat→Prop) (A:Nat→Nat→Option Gh) (T:List D) (a:Act) (w:World) (H H':List (Nat×Option Ob)) (ds:List D) (vs:Array Value) (r:D),Inv I0 B I A ⟨T,H⟩ a w→Gl gl I w→(∀k,B k→k<w.heap.size)→g H ds=some (r,H')→
  ds.length=vs.size→(∀(j:Nat) (d:D) (v:Value),ds[j]?=some d→vs[j]?=some v→RelV I A (bG H) w d v)→Calls P k vs w fun e w'=>∃v,e= .returned v∧Step I0 B I a w r ⟨T,H'⟩ v w'
def CB(i:Inl):Prop:=∀{α:Type} (lf:Option D→Option α) (ef:List D→(Bool→Option α)→Option α) (H:List (Nat×Option Ob)) (ds:List D) (c:D→List (Nat×Option Ob)→Tree) (x:α),bR lf ef (i.t H ds c)=some x→∃r H',i.g H ds=some (r,H')∧bR lf ef (c r H')=some x
structure InlOK(P:Program)(gl:Nat→Option D)(k:FuncId)(i:Inl):Prop where
 en:∀vs w,(callFunc k vs).run P w= .ok (.enter k vs) w
 ok:S9 P gl k i.g
 tr:CB i
section
variable {E:Env}{I0:Nat→Prop}{B:Nat→Prop}{I:Nat→Prop}{A:Nat→Nat→Option Gh}{σ:St}{a:Act}{w:World}
theorem wF{l:List D}(h:l.all D.plain=true){j:Nat}{d:D}(hd:l[j]?=some d):d.plain=true:=by
 rw[zd9] at h;exact h d (List.mem_of_getElem? hd)
theorem RelV.toVZ{I:Nat→Prop}{A:Nat→Nat→Option Gh}{G:Nat→Nat}{w:World}{d:D}{v u:Value}(h:RelV I A G w d v)(hd:d.toVZ=some u):v=u:=by
 unfold D.toVZ at hd;split at hd
 ·cases hd;exact(h.closed (.atom rfl)).toVZ rfl
 ·exact h.toV hd
theorem HI{o:Bool}{k:FuncId}{g:pc}(hg:AT E.P E.gl k g)(h:Inv I0 B I A σ a w)(hgl:Gl E.gl I w)(hB:∀k,B k→k<w.heap.size){dst:Option Tmp}{args:List D}{d:D}{σ':St}(hs:pi o σ dst g args=some (d,σ'))
  {vargs:Array Value} (hl:args.length=vargs.size) (hr:∀(j:Nat) (d:D) (v:Value),args[j]?=some d→vargs[j]?=some v→RelV I A (bG σ.H) w d v):
  Calls E.P k vargs w fun e w'=>∃v,e= .returned v∧Step I0 B I a w d σ' v w':=by
 unfold pi at hs;split at hs
 ·rename_i s g0 len rest;split at hs
  ·rename_i e n cs hlive;split at hs
   ·rename_i rest' ss hsn;split at hs
    ·cases hs
    ·rename_i hc;simp only[Bool.or_eq_true,Bool.not_eq_true',not_or,Bool.not_eq_false,zc6] at hc;obtain⟨hns,hpl⟩:=hc;have hns:s∉ss:=by simpa using hns
     have hpl:=qo hpl;obtain⟨a1,a2,a3⟩:=eY (I:=I) (A:=A) (w:=w) (c7 h depth) _ _ _ hsn;obtain⟨hfz,hRf⟩:=h.freeze ss a2.free;obtain⟨y,hy,hyB,c,hb,hcs,hm,hlc,hcl,hrel,hfr,hclo⟩:=h.ob s g0 _ hlive;have hnI:¬I y.b:=fun hi=>by have:=hfr.2 hi;cases this
     have hnI':¬eB I A ss y.b:=by
      rintro (hi'|⟨s',hs',g',y',hy',hb'⟩)
      ·exact hnI hi'
      ·exact hns ((h.inj _ _ _ _ _ _ hy hy' hb').1▸hs')
     have hgl':Gl E.gl (eB I A ss) w:=fun g d hg=>(hgl g d hg).mono (fun _ hb=> .inl hb) (fun _ _=>rfl);have hv0:∃v0,vargs[0]?=some v0:=⟨vargs[0]'(by rw[←hl];simp),by simp⟩;obtain⟨v0,hv0⟩:=hv0;obtain⟨hvv,hk⟩:=(hr 0 _ v0 rfl hv0).own_inv hy;subst hk;have hva:vargs= #[v0]++vargs.extract 1 vargs.size:=by
      have h1:0<vargs.size:=by rw[←hl];simp
      have e1:vargs[0]=v0:=by rw[Array.getElem?_eq_getElem h1] at hv0;exact Option.some.inj hv0
      apply Array.ext
      ·simp;omega
      ·intro j hj1 hj2;rw[Array.getElem_append];split
       ·rename_i h2;have:j=0:=by simpa using h2
        subst this;simp[e1]
       ·rename_i h2;simp at h2;simp[show 1+(j-1)=j by omega]
     have hbs:y.b<w.heap.size:=(zc0.1 hb).1;have hcells:∀(j:Nat) (d:D) (v:Value),cs[j]?=some d→c[j]?=some v→d.toVZ=some v:=fun j d v hd hv=>by
      have h1:=hrel j d v hd hv;have hp:=zd9.1 hpl d (List.mem_of_getElem? hd);unfold D.plainZ at hp;obtain⟨u,hu⟩:=Option.isSome_iff_exists.1 hp;rw[hu,h1.toVZ hu]
     have hrest:∀(j:Nat) (d:D) (v:Value),rest'[j]?=some d→(vargs.extract 1 vargs.size)[j]?=some v→RelC (eB I A ss) w d v:=fun j d v hd hv=>by
      obtain⟨d0,hd0,hr0⟩:=a3 j d hd;refine hr0 v (hr (j+1) d0 v (by simpa using hd0) ?_);rw[Array.getElem?_extract] at hv;split at hv
      ·rw[Nat.add_comm];exact hv
      ·cases hv
     have hrl:rest'.length=(vargs.extract 1 vargs.size).size:=by rw[a1];simp;simp at hl;omega
     rw[hva,hvv];split at hs
     ·
      rename_i cs' hgo;split at hs
      ·rename_i hc2;simp only[zc4,zc7] at hc2;simp only[za0,zb3] at hs;obtain⟨rfl,rfl⟩:=hs;refine(hg.2 (eB I A ss) w y.b y.cap n y.len e c cs rest' cs' none _ hfz.iw hgl' hnI' hb hcs hm hlc hcl hpl hcells hrl hrest hgo (qo hc2.2) hc2.1).mono ?_
       rintro en w' ⟨rfl,c',q1,q2,q3,q4,q5,q6,q7,q8⟩
       refine⟨_,rfl,?_⟩;obtain⟨hi1,hR1⟩:=h.set (o':= .arr e n cs' false) hlive hy hnI (w':=ew w y.b (.cells c' e (0,0))) (cB _ _ _) (fun b hb=>cY _ _ _ hb) (fun hR=>⟨c',ee hbs,by rw[q2];exact hcs,hm,hlc,by rw[hc2.1];exact hcl,
        fun j d v hd hv=> .clo (pm (q3 j d v hd hv)),⟨(fun hh=>by cases hh),fun hi=>absurd hi hnI⟩,fun d hd=>by
         obtain⟨j,hj,rfl⟩:=List.getElem_of_mem hd;have hjv:j<c'.size:=by rw[q2,hcs];have:=Nat.mul_le_mul_right n hlc;omega
         exact(pm (w:=w) (I:=I) (q3 j _ _ (zd5 hj) (Array.getElem?_eq_getElem hjv))).clo⟩)
       obtain⟨hi2,hR2⟩:=hi1.world (w':=w') (I':=I) (by rw[cB];exact q4) (fun b hb'=>by
        rw[cB] at hb';by_cases e1:b=y.b
        ·subst e1;rw[q1,ee hbs]
        ·rw[q5 b hb' e1,cY _ _ _ e1]) (fun _ hb=>hb) (fun _ hb=> .inl hb) (by rw[cB];exact hB)
       exact⟨I,A,hi2,iD,fun _ hb=>hb,fun b hb'=>q5 b (h.iw b hb') (fun e1=>hnI (e1▸hb')),⟨q6,q7,q8,q4,fun b hb'=>q5 b (hB b hb') (fun e=>(hyB.resolve_left hnI) (e▸hb'))⟩⟩
      ·cases hs
     ·
      rename_i cs' m hgo;split at hs
      ·rename_i hc2;simp only[zc4,zc7] at hc2;refine(hg.2 (eB I A ss) w y.b y.cap n y.len e c cs rest' cs' (some m) _ hfz.iw hgl' hnI' hb hcs hm hlc hcl hpl hcells hrl hrest hgo (qo hc2.2) hc2.1).mono ?_
       rintro en w' ⟨rfl,c',q1,q2,q3,q4,q5,q6,q7,q8⟩
       refine⟨_,rfl,?_⟩;obtain⟨A1,hk1,hk2,hk3,hk4⟩:=h.kill s (eJ hlive);have hA1:∀s' g' y',A1 s' g'=some y'→y'.b≠y.b:=fun s' g' y' hy' e=>by
        by_cases es:s'=s
        ·subst es;rw[hk3] at hy';cases hy'
        ·rw[hk2 _ _ es] at hy';exact es (h.inj _ _ _ _ _ _ hy' hy e).1
       exact iW hk1 hs (hyB.resolve_left hnI) hnI hA1 (fun b hb'=>q5 b (h.iw b hb') (fun e1=>hnI (e1▸hb'))) (fun s' g' y' hy'=>q5 _ (hk1.A_lt hy') (hA1 _ _ _ hy')) (fun y' j b' hb'=>by
        obtain⟨p1,_,_,p4⟩:=h.rw.sep _ _ _ (hb'.unkill hk2 hk3);exact⟨p4 _ _ _ hy,q5 b' p1 (Ne.symm (p4 _ _ _ hy))⟩) ⟨q6,q7,q8,q4,fun b hb'=>q5 b (hB b hb') (fun e=>(hyB.resolve_left hnI) (e▸hb'))⟩
        q1 (by rw[q2];exact hcs) hm (by omega) hc2.1.1 (fun j x u hx hu=>pm (q3 j x u hx hu))
      ·cases hs
     ·cases hs
   ·cases hs
  ·cases hs
 ·cases hs
theorem HJ{k:FuncId}{p:Nat}{g:List D→Option D}(hg:AU E.P E.gl k p g)(h:Inv I0 B I A σ a w)(hgl:Gl E.gl I w)(hB:∀k,B k→k<w.heap.size){args:List D}{d:D}{σ':St}(hs:qY σ p g args=some (d,σ'))
  {vargs:Array Value} (hl:args.length=vargs.size) (hr:∀(j:Nat) (d:D) (v:Value),args[j]?=some d→vargs[j]?=some v→RelV I A (bG σ.H) w d v):
  Calls E.P k vargs w fun e w'=>∃v,e= .returned v∧Step I0 B I a w d σ' v w':=by
 unfold qY at hs;split at hs
 ·rename_i s g0 len hp;split at hs
  ·rename_i e n cs hlive;split at hs
   ·rename_i ds ss hsn;split at hs
    ·cases hs
    ·rename_i hc;simp only[Bool.or_eq_true,Bool.not_eq_true',not_or,Bool.not_eq_false,zc6] at hc;obtain⟨hns,hpl⟩:=hc;have hns:s∉ss:=by simpa using hns
     obtain⟨a1,a2,a3⟩:=eY (I:=I) (A:=A) (w:=w) (c7 h depth) _ _ _ hsn;obtain⟨hfz,hRf⟩:=h.freeze ss a2.free;obtain⟨y,hy,hyB,c,hb,hcs,hm,hlc,hcl,hrel,hfr,hclo⟩:=h.ob s g0 _ hlive;have hnI:¬I y.b:=fun hi=>by have:=hfr.2 hi;cases this
     have hnI':¬eB I A ss y.b:=by
      rintro (hi'|⟨s',hs',g',y',hy',hb'⟩)
      ·exact hnI hi'
      ·exact hns ((h.inj _ _ _ _ _ _ hy hy' hb').1▸hs')
     have hgl':Gl E.gl (eB I A ss) w:=fun g d hg=>(hgl g d hg).mono (fun _ hb=> .inl hb) (fun _ _=>rfl);have hpa:p<args.length:=(zc1.1 hp).1;obtain⟨v0,hv0⟩:∃v0,vargs[p]?=some v0:=⟨vargs[p]'(by rw[←hl];exact hpa),by simp⟩;obtain⟨hvv,hk⟩:=(hr p _ v0 hp hv0).own_inv hy;subst hk;have hbs:y.b<w.heap.size:=(zc0.1 hb).1;have hcells:∀(j:Nat) (d:D) (v:Value),cs[j]?=some d→c[j]?=some v→d.toV=some v:=fun j d v hd hv=>by
      have h1:=hrel j d v hd hv;have hp:=wF hpl hd;unfold D.plain at hp;obtain⟨u,hu⟩:=Option.isSome_iff_exists.1 hp;rw[hu,h1.toV hu]
     have hrest:∀(j:Nat) (d:D) (v:Value),j≠p→ds[j]?=some d→vargs[j]?=some v→RelC (eB I A ss) w d v:=fun j d v hj hd hv=>by
      obtain⟨d0,hd0,hr0⟩:=a3 j d hd;rw[List.getElem?_set_ne (Ne.symm hj)] at hd0;exact hr0 v (hr j d0 v hd0 hv)
     have hdl:ds.length=vargs.size:=by rw[a1];simpa using hl
     split at hs
     ·rename_i f m cs' r hgo;split at hs
      ·rename_i hc2;simp only[zc4,zc7] at hc2;simp only[za0,zb3] at hs;obtain⟨rfl,rfl⟩:=hs;refine(hg.2 (eB I A ss) w y.b y.cap n y.len m e f c ds cs cs' r vargs hfz.iw hgl' hnI' hb hcs hm hlc hcl hpl hcells (by omega) hdl (by rw[hv0,hvv]) hrest hgo hc2.2 hc2.1).mono ?_
       rintro en w' ⟨v,c',rfl,hrv,q1,q2,q3,q4,q5,q6,q7,q8⟩
       refine⟨v,rfl,?_⟩;have hlive':bE (σ.freeze ss).H s g0=some (.arr e n cs false):=by
        show bE (bN σ.H ss) s g0=_;rw[cP,if_neg hns];exact hlive
       obtain⟨hi1,hR1⟩:=hfz.set (o':= .arr e n cs' false) hlive' hy hnI' (w':=ew w y.b (.cells c' e (0,0))) (cB _ _ _) (fun b hb=>cY _ _ _ hb) (fun hR=>⟨c',ee hbs,by rw[q2];exact hcs,hm,hlc,by rw[hc2.1];exact hcl,
        fun j d v hd hv=> .clo (gF (q3 j d v hd hv)),⟨(fun hh=>by cases hh),fun hi=>absurd hi hnI'⟩,fun d hd=>by
         obtain⟨j,hj,rfl⟩:=List.getElem_of_mem hd;have hjv:j<c'.size:=by rw[q2,hcs];have:=Nat.mul_le_mul_right n hlc;omega
         exact(gF (w:=w) (I:=I) (q3 j _ _ (zd5 hj) (Array.getElem?_eq_getElem hjv))).clo⟩)
       obtain⟨hi2,hR2⟩:=hi1.world (w':=w') (I':=fun b=>eB I A ss b∨(w.heap.size≤b∧b<w'.heap.size)) (by rw[cB];exact q4) (fun b hb'=>by
        rw[cB] at hb';by_cases e1:b=y.b
        ·subst e1;rw[q1,ee hbs]
        ·rw[q5 b hb' e1,cY _ _ _ e1]) (fun _ hb=> .inl hb) (fun _ hb=>by rw[cB];exact hb) (by rw[cB];exact hB)
       exact⟨_,A,hi2,.clo hrv,fun _ hb=> .inl (.inl hb),fun b hb'=>q5 b (h.iw b hb') (fun e1=>hnI (e1▸hb')),⟨q6,q7,q8,q4,fun b hb'=>q5 b (hB b hb') (fun e=>(hyB.resolve_left hnI) (e▸hb'))⟩⟩
      ·cases hs
     ·cases hs
   ·cases hs
  ·cases hs
 ·cases hs
theorem HL{k:FuncId}{p:Nat}{g:List D→Option D}(hg:HG E.P E.gl k p g)(h:Inv I0 B I A σ a w)(hgl:Gl E.gl I w)(hB:∀k,B k→k<w.heap.size){args:List D}{d:D}{σ':St}(hs:qZ σ p g args=some (d,σ'))
  {vargs:Array Value} (hl:args.length=vargs.size) (hr:∀(j:Nat) (d:D) (v:Value),args[j]?=some d→vargs[j]?=some v→RelV I A (bG σ.H) w d v):
  Calls E.P k vargs w fun e w'=>∃v,e= .returned v∧Step I0 B I a w d σ' v w':=by
 unfold qZ at hs;split at hs
 ·rename_i x0 hp;split at hs
  ·rename_i y0 hy0;obtain⟨s,g0,off,len⟩:=y0;dsimp only at hs;split at hs
   ·rename_i e n cs hlive;split at hs
    ·rename_i ds ss hsn;split at hs
     ·cases hs
     ·rename_i hc;simp only[Bool.or_eq_true,Bool.not_eq_true',not_or,Bool.not_eq_false,zc6,zc4,zc7] at hc;obtain⟨⟨hns,hn0,hwn⟩,hpl,hpos,hbd⟩:=hc;have hns:s∉ss:=by simpa using hns
      obtain⟨a1,a2,a3⟩:=eY (I:=I) (A:=A) (w:=w) (c7 h depth) _ _ _ hsn;obtain⟨hfz,hRf⟩:=h.freeze ss a2.free;obtain⟨y,hy,hyB,c,hb,hcs,hm,hlc,hcl,hrel,hfr,hclo⟩:=h.ob s g0 _ hlive;have hnI:¬I y.b:=fun hi=>by have:=hfr.2 hi;cases this
      have hnI':¬eB I A ss y.b:=by
       rintro (hi'|⟨s',hs',g',y',hy',hb'⟩)
       ·exact hnI hi'
       ·exact hns ((h.inj _ _ _ _ _ _ hy hy' hb').1▸hs')
      have hgl':Gl E.gl (eB I A ss) w:=fun g d hg=>(hgl g d hg).mono (fun _ hb=> .inl hb) (fun _ _=>rfl);have hpa:p<args.length:=(zc1.1 hp).1;obtain⟨v0,hv0⟩:∃v0,vargs[p]?=some v0:=⟨vargs[p]'(by rw[←hl];exact hpa),by simp⟩;obtain⟨ad,capw,hvv,hcapw,hgg,had⟩:=qr hy0 (hr p _ v0 hp hv0);obtain⟨had,hoff,hcn⟩:=had hpos y hy;subst had;have hbs:y.b<w.heap.size:=(zc0.1 hb).1;have hcells:∀(j:Nat) (d:D) (v:Value),cs[j]?=some d→c[j]?=some v→d.toV=some v:=fun j d v hd hv=>by
       have h1:=hrel j d v hd hv;have hp:=wF hpl hd;unfold D.plain at hp;obtain⟨u,hu⟩:=Option.isSome_iff_exists.1 hp;rw[hu,h1.toV hu]
      have hrest:∀(j:Nat) (d:D) (v:Value),j≠p→ds[j]?=some d→vargs[j]?=some v→RelC (eB I A ss) w d v:=fun j d v hj hd hv=>by
       obtain⟨d0,hd0,hr0⟩:=a3 j d hd;rw[List.getElem?_set_ne (Ne.symm hj)] at hd0;exact hr0 v (hr j d0 v hd0 hv)
      have hdl:ds.length=vargs.size:=by rw[a1];simpa using hl
      split at hs
      ·rename_i f m cs' r hgo;split at hs
       ·rename_i hc2;simp only[zc4,zc7] at hc2;simp only[za0,zb3] at hs;obtain⟨rfl,rfl⟩:=hs;refine(hg.2 (eB I A ss) w y.b y.cap n y.len off len capw m e f c ds cs cs' r vargs hfz.iw hgl' hnI' hb hcs hm hlc hcl hpl hcells hpos hbd hcapw hoff (hcn n hwn) hn0 (by omega) hdl (by rw[hv0,hvv]) hrest hgo hc2.2 hc2.1).mono ?_
        rintro en w' ⟨v,c',rfl,hrv,q1,q2,q3,q4,q5,q6,q7,q8⟩
        refine⟨v,rfl,?_⟩;have hlive':bE (σ.freeze ss).H s g0=some (.arr e n cs false):=by
         show bE (bN σ.H ss) s g0=_;rw[cP,if_neg hns];exact hlive
        have hwl:(de cs off cs').length=y.len*n:=by rw[gp];exact hcl
        obtain⟨hi1,hR1⟩:=hfz.set (o':= .arr e n (de cs off cs') false) hlive' hy hnI' (w':=ew w y.b (.cells c' e (0,0))) (cB _ _ _) (fun b hb=>cY _ _ _ hb) (fun hR=>⟨c',ee hbs,by rw[q2];exact hcs,hm,hlc,hwl,
         fun j d v hd hv=> .clo (gF (q3 j d v hd hv)),⟨(fun hh=>by cases hh),fun hi=>absurd hi hnI'⟩,fun d hd=>by
          obtain⟨j,hj,rfl⟩:=List.getElem_of_mem hd;have hjv:j<c'.size:=by rw[q2,hcs];have:=Nat.mul_le_mul_right n hlc;omega
          exact(gF (w:=w) (I:=I) (q3 j _ _ (zd5 hj) (Array.getElem?_eq_getElem hjv))).clo⟩)
        obtain⟨hi2,hR2⟩:=hi1.world (w':=w') (I':=fun b=>eB I A ss b∨(w.heap.size≤b∧b<w'.heap.size)) (by rw[cB];exact q4) (fun b hb'=>by
         rw[cB] at hb';by_cases e1:b=y.b
         ·subst e1;rw[q1,ee hbs]
         ·rw[q5 b hb' e1,cY _ _ _ e1]) (fun _ hb=> .inl hb) (fun _ hb=>by rw[cB];exact hb) (by rw[cB];exact hB)
        exact⟨_,A,hi2,.clo hrv,fun _ hb=> .inl (.inl hb),fun b hb'=>q5 b (h.iw b hb') (fun e1=>hnI (e1▸hb')),⟨q6,q7,q8,q4,fun b hb'=>q5 b (hB b hb') (fun e=>(hyB.resolve_left hnI) (e▸hb'))⟩⟩
       ·cases hs
      ·cases hs
    ·cases hs
   ·cases hs
  ·cases hs
 ·cases hs
end
def VR(P:Program)(gl:Nat→Option D)(k:FuncId)(ds:List D)(r:D):Prop:=
 ∀(I:Nat→Prop) (w:World) (vs:Array Value),(∀b,I b→b<w.heap.size)→Gl gl I w→ds.length=vs.size→(∀(j:Nat) (d:D) (v:Value),ds[j]?=some d→vs[j]?=some v→RelC I w d v)→
  Calls P k vs w fun e w'=>∃v,e= .returned v∧RelC (fun b=>I b∨(w.heap.size≤b∧b<w'.heap.size)) w' r v∧Blw (·<w.heap.size) w w'
def CallOK(P:Program)(gl:Nat→Option D)(k:FuncId)(ds:List D)(r:D):Prop:=
 (∀vs w,(callFunc k vs).run P w= .ok (.enter k vs) w)∧VR P gl k ds r
def Ta(P:Program)(gl:Nat→Option D)(k:FuncId)(ds:List D)(r:D):Prop:=
 ∀(I:Nat→Prop) (w:World) (vs:Array Value),(∀b,I b→b<w.heap.size)→Gl gl I w→ds.length=vs.size→(∀(j:Nat) (d:D) (v:Value),ds[j]?=some d→vs[j]?=some v→RelC I w d v)→
  ∃v,(callFunc k vs).run P w= .ok (.value v) w∧RelC I w r v
def CC(P:Program)(gl:Nat→Option D)(k:FuncId)(e:TypeId)(n:Nat)(ds:List D)(len:Nat)(cs:List D):Prop:=
 ∀(I:Nat→Prop) (w:World) (vs:Array Value),(∀b,I b→b<w.heap.size)→Gl gl I w→ds.length=vs.size→(∀(j:Nat) (d:D) (v:Value),ds[j]?=some d→vs[j]?=some v→RelC I w d v)→
  Calls P k vs w fun en w'=>Blw (·<w.heap.size) w w'∧∃(b cap:Nat) (c:Array Value),en= .returned (.slice (some ⟨b,0,none⟩) len cap)∧w.heap.size≤b∧w'.heap[b]?=some (.cells c e (0,0))∧c.size=cap*n∧cap≤maxLen∧len≤cap∧cs.length=len*n∧
   ∀(j:Nat) (d:D) (v:Value),cs[j]?=some d→c[j]?=some v→d.toV=some v
structure EnvOK(E:Env):Prop where
 call:∀k ds r,E.call k ds=some r→CallOK E.P E.gl k ds r∨((∀e n,E.wr k≠some (.own e n))∧Ta E.P E.gl k ds r)
 wr:∀k g,E.wr k=some g→HH E.P E.gl k g
 ow:∀k e n,E.wr k=some (.own e n)→∀ds len cs,E.call k ds=some (.slc false len cs)→CC E.P E.gl k e n ds len cs
 inl:∀k i,E.inl k=some i→InlOK E.P E.gl k i
theorem yk{P:Program}{gl:Nat→Option D}{wr:FuncId→Option Mu}{call:FuncId→List D→Option D}(h:∀k ds r,call k ds=some r→CallOK P gl k ds r):∀k ds r,call k ds=some r→CallOK P gl k ds r∨((∀e n,wr k≠some (.own e n))∧Ta P gl k ds r):=
 fun k ds r hc=> .inl (h k ds r hc)
theorem EnvOK.stillF{E:Env}(h:EnvOK E)(fs:List (Nat×Nat)):EnvOK (E.stillF fs):=by
 have hk:∀k mu,(E.stillF fs).wr k=some mu→E.wr k=some mu∧∃e n,mu= .own e n:=fun k mu hk=>by
  unfold Env.stillF at hk;dsimp only at hk;split at hk
  ·rename_i hw;cases hk;exact⟨hw,_,_,rfl⟩
  ·cases hk
 exact⟨fun k ds r hc=>(h.call k ds r hc).imp id fun hx=>⟨fun e n hw=>hx.1 e n (hk k _ hw).1,hx.2⟩,fun k g hg=>h.wr k g (hk k g hg).1,fun k e n hg=>h.ow k e n (hk k _ hg).1,fun _ _ hi=>nomatch hi⟩
theorem EnvOK.still{E:Env}(h:EnvOK E):EnvOK E.still:=⟨fun k ds r hc=>(h.call k ds r hc).imp id fun hx=>⟨fun e n hw=>(by cases hw),hx.2⟩,fun k g hk=>(by cases hk),fun k e n hk=>(by cases hk),fun _ _ hi=>nomatch hi⟩
def Wide(F:Fence):Prop:=F=Fence.wide∨∃l,F=Fence.wide.inRound l
theorem Wide.fn{F:Fence}(h:Wide F)(f:FuncId):F.fn f:=by rcases h with rfl|⟨l,rfl⟩<;>exact trivial
theorem Wide.depth{F:Fence}(h:Wide F):F.depth=none:=by rcases h with rfl|⟨l,rfl⟩<;>rfl
theorem Wide.calls{F:Fence}(h:Wide F){n:Nat}{P:Program}{f:FuncId}{vs:Array Value}{w:World}{R:Ending→World→Prop}(hc:Calls P f vs w R):CallsIn F n P f vs w R:=by
 rcases h with rfl|⟨l,rfl⟩
 ·exact callsIn_wide.2 hc
 ·exact(callsIn_wide.2 hc).inRound l
section
variable {F:Fence}{n:Nat}{P:Program}{o:Oper}{a:Act}{w w':World}{K:Act→World→Prop}{Q:Exit→Act→World→Prop}
theorem nP(hF:Wide F)(hd:∀c,o.op≠ .defer c){v:Value}(hrun:(execOp a.eval o).run P w= .ok (.value v) w')(hK:K (a.put o.dst v) w'):o.wpIn F n P a w K Q:=
 ⟨fun f _=>hF.fn f,by rw[Oper.semAt_plain F _ _ hd,hrun];exact hK⟩
theorem iO(hF:Wide F)(hd:∀c,o.op≠ .defer c)(hrun:(execOp a.eval o).run P w= .ok .skip w')(hK:K (a.put o.dst undef) w'):o.wpIn F n P a w K Q:=
 ⟨fun f _=>hF.fn f,by rw[Oper.semAt_plain F _ _ hd,hrun];exact hK⟩
theorem lq(hF:Wide F)(hd:∀c,o.op≠ .defer c){f:FuncId}{vs:Array Value}(hrun:(execOp a.eval o).run P w= .ok (.enter f vs) w')
  (hK:Calls P f vs w' fun e w''=>∃v,e= .returned v∧K (a.put o.dst v) w''):o.wpIn F n P a w K Q:=by
 refine⟨fun f _=>hF.fn f,?_⟩;rw[Oper.semAt_plain F _ _ hd,hrun];refine⟨(fun hs=>by rw[hF.depth] at hs;cases hs),(hF.calls hK).mono ?_⟩
 rintro e w'' ⟨v,rfl,hk⟩
 exact hk
end
section
variable {E:Env}{I0:Nat→Prop}{B:Nat→Prop}{I:Nat→Prop}{A:Nat→Nat→Option Gh}{σ:St}{a:Act}{w:World}
theorem mv(h:Inv I0 B I A σ a w)(hgl:Gl E.gl I w):∀{l:List Operand} {ds:List D},gS E σ l=some ds→
  ds.length=l.length∧∀(j:Nat) (d:D) (v:Value),ds[j]?=some d→(l.map a.eval)[j]?=some v→RelV I A (bG σ.H) w d v
 |[],ds,hs=>by
  simp only[gS,za0] at hs;subst hs;exact⟨rfl,fun j d v hd=>by simp at hd⟩
 |x::l,ds,hs=>by
  simp only[gS] at hs;split at hs
  ·cases hs
  ·rename_i d0 hd0;split at hs
   ·cases hs
   ·rename_i r hr;simp only[za0] at hs;subst hs;obtain⟨h1,h2⟩:=mv h hgl hr;refine⟨by simp[h1],fun j d v hd hv=> ?_⟩;cases j with
    |zero=>simp at hd hv;subst hd hv;exact cr h hgl hd0
    |succ j=>simp at hd;exact h2 j d v hd (by simpa using hv)
theorem wG(hcall:EnvOK E)(h:Inv I0 B I A σ a w)(hgl:Gl E.gl I w)(hB:∀k,B k→k<w.heap.size){f d:D}{args:List D}{σ':St}(hs:g7 E σ f args=some (d,σ'))
  {vf:Value} {vargs:Array Value} (hf:RelV I A (bG σ.H) w f vf) (hl:args.length=vargs.size) (hr:∀(j:Nat) (d:D) (v:Value),args[j]?=some d→vargs[j]?=some v→RelV I A (bG σ.H) w d v):
  (∃k vs,(do let t←Deferred.ofValue vf vargs;invoke t.target t.args:Sem Next).run E.P w= .ok (.enter k vs) w∧Calls E.P k vs w fun e w'=>∃v,e= .returned v∧Step I0 B I a w d σ' v w')∨
   ∃v,(do let t←Deferred.ofValue vf vargs;invoke t.target t.args:Sem Next).run E.P w= .ok (.value v) w∧Step I0 B I a w d σ' v w:=by
 unfold g7 at hs;split at hs
 ·rename_i k first caps
  split at hs
  ·cases hs
  ·rename_i ds ss hsn;split at hs
   ·cases hs
   ·rename_i r hc;simp only[za0,zb3] at hs;obtain⟨rfl,rfl⟩:=hs;obtain⟨vx,vy,rfl,hx,hy,hrx,hry⟩:=hf.fn_inv;obtain⟨a1,a2,a3⟩:=eY (I:=I) (A:=A) (w:=w) (c7 h depth) _ _ _ hsn;obtain⟨hfz,hRf⟩:=h.freeze ss a2.free;have hgl':Gl E.gl (eB I A ss) w:=fun g d hg=>(hgl g d hg).mono (fun _ hb=> .inl hb) (fun _ _=>rfl);have hargs:∀(j:Nat) (d:D) (v:Value),ds[j]?=some d→(vx++vargs++vy)[j]?=some v→RelC (eB I A ss) w d v:=fun j d v hd hv=>by
     obtain⟨d0,hd0,hr0⟩:=a3 j d hd;refine hr0 v ?_;by_cases c1:j<first.length
     ·rw[za8,zb9 c1] at hd0;rw[Array.append_assoc,Array.getElem?_append_left (by omega)] at hv;exact hrx j d0 v hd0 hv
     ·rw[za8,zb8 (by omega)] at hd0;rw[Array.append_assoc,Array.getElem?_append_right (by omega),←hx] at hv;by_cases c2:j-first.length<args.length
      ·rw[zb9 c2] at hd0;rw[Array.getElem?_append_left (by omega)] at hv;exact hr _ d0 v hd0 hv
      ·rw[zb8 (by omega)] at hd0;rw[Array.getElem?_append_right (by omega),←hl] at hv;exact hry _ d0 v hd0 hv
    rcases hcall.call k ds r hc with⟨henter,hok⟩|⟨_,hx0⟩
    case inr=>
     obtain⟨v,hv1,hv2⟩:=hx0 (eB I A ss) w (vx++vargs++vy) hfz.iw hgl' (by simp[a1,hx,hy,hl]) hargs;refine .inr ⟨v,by simp only[Array.append_assoc] at hv1;simp[Deferred.ofValue,invoke,hv1],?_⟩;by_cases hp:r.plain=true
     ·rw[if_pos hp];exact⟨I,A,h,.clo (hv2.plain hp),fun _ hb=>hb,fun _ _=>rfl,Blw.refl _ _⟩
     ·rw[if_neg hp];exact⟨_,A,hfz,.clo hv2,fun _ hb=> .inl hb,fun _ _=>rfl,Blw.refl _ _⟩
    refine .inl ⟨k,vx++vargs++vy,by simp[Deferred.ofValue,invoke,henter],?_⟩;refine(hok (eB I A ss) w (vx++vargs++vy) hfz.iw hgl' (by simp[a1,hx,hy,hl]) hargs).mono ?_
    ·rintro e w' ⟨v,rfl,hrv,hbel⟩
     refine⟨v,rfl,?_⟩;by_cases hp:r.plain=true
     ·rw[if_pos hp];obtain⟨hi',hR'⟩:=h.world (w':=w') (I':=I) hbel.size (fun b hb=>hbel.block b hb) (fun _ hb=>hb) (fun _ hb=> .inl hb) hB;exact⟨I,A,hi',.clo (hrv.plain hp),fun _ hb=>hb,fun b hb=>hbel.block b (h.iw b hb),Blw.of hbel hB⟩
     ·rw[if_neg hp];obtain⟨hi',hR'⟩:=hfz.world (w':=w') (I':=fun b=>eB I A ss b∨(w.heap.size≤b∧b<w'.heap.size)) hbel.size (fun b hb=>hbel.block b hb) (fun _ hb=> .inl hb) (fun _ hb=>hb) hB;exact⟨_,A,hi',.clo hrv,fun _ hb=> .inl (.inl hb),fun b hb=>hbel.block b (h.iw b hb),Blw.of hbel hB⟩
 ·cases hs
theorem HM{k0:FuncId}{e0:TypeId}{n0:Nat}{dst:Option Tmp}(hcall:EnvOK E)(hmu:E.wr k0=some (.own e0 n0))(h:Inv I0 B I A σ a w)(hgl:Gl E.gl I w)(hB:∀k,B k→k<w.heap.size){d:D}{args:List D}{σ':St}(hs:mm E σ dst e0 n0 (.fn (.func k0) [] []) args=some (d,σ'))
  {vf:Value} {vargs:Array Value} (hf:RelV I A (bG σ.H) w (.fn (.func k0) [] []) vf) (hl:args.length=vargs.size) (hr:∀(j:Nat) (d:D) (v:Value),args[j]?=some d→vargs[j]?=some v→RelV I A (bG σ.H) w d v):
  (∃k vs,(do let t←Deferred.ofValue vf vargs;invoke t.target t.args:Sem Next).run E.P w= .ok (.enter k vs) w∧Calls E.P k vs w fun e w'=>∃v,e= .returned v∧Step I0 B I a w d σ' v w')∨
   ∃v,(do let t←Deferred.ofValue vf vargs;invoke t.target t.args:Sem Next).run E.P w= .ok (.value v) w∧Step I0 B I a w d σ' v w:=by
 unfold mm at hs;split at hs
 ·rename_i len cs hres;unfold ml at hres;dsimp only at hres;split at hres
  ·cases hres
  ·rename_i ds ss hsn;split at hres
   ·rename_i len' cs' hc;cases hres;split at hs
    ·rename_i hp;simp only[zc4,zc7] at hp;rcases hcall.call k0 ds _ hc with⟨henter,_⟩|⟨hnw,_⟩
     case inr=>exact absurd hmu (hnw _ _)
     have hown:=hcall.ow k0 e0 n0 hmu ds len cs hc;obtain⟨vx,vy,rfl,hx,hy,hrx,hry⟩:=hf.fn_inv;have ex:vx= #[]:=by simpa using hx.symm
     have ey:vy= #[]:=by simpa using hy.symm
     subst ex ey;rw[zb7,zb6] at hsn;obtain⟨a1,a2,a3⟩:=eY (I:=I) (A:=A) (w:=w) (c7 h depth) _ _ _ hsn;obtain⟨hfz,hRf⟩:=h.freeze ss a2.free;refine .inl ⟨k0,vargs,by simp[Deferred.ofValue,invoke,henter],?_⟩;have hgl':Gl E.gl (eB I A ss) w:=fun g d hg=>(hgl g d hg).mono (fun _ hb=> .inl hb) (fun _ _=>rfl);refine(hown (eB I A ss) w vargs hfz.iw hgl' (by rw[a1,hl]) (fun j d v hd hv=> ?_)).mono ?_
     ·obtain⟨d0,hd0,hr0⟩:=a3 j d hd;exact hr0 v (hr j d0 v hd0 hv)
     ·rintro e w' ⟨hbel,b,cap,c,rfl,q1,q2,q3,q4,q5,q6,q7⟩
      refine⟨_,rfl,?_⟩;exact iW h hs (fun hb=>absurd (hB b hb) (by omega)) (fun hb=>absurd (h.iw b hb) (by omega)) (fun s' g' y hy=>fun e1=>absurd (h.A_lt hy) (by omega)) (fun b' hb'=>hbel.block b' (h.iw b' hb')) (fun s' g' y hy=>hbel.block _ (h.A_lt hy)) (fun y j b' hb'=>⟨by have:=(h.rw.sep y j b' hb').1;omega,hbel.block b' (h.rw.sep y j b' hb').1⟩) (Blw.of hbel hB)
       q2 q3 q4 q5 q6 (fun j x u hx hu=>gF (q7 j x u hx hu))
    ·cases hs
   ·cases hres
 ·exact wG hcall h hgl hB hs hf hl hr
theorem wH(h:Inv I0 B I A σ a w)(hgl:Gl E.gl I w){x:Option Operand}{d:Option D}(hs:eI E σ x=some d)(k:Nat):uy k d (x.map a.eval):=by
 unfold eI at hs;split at hs
 ·simp only[za0] at hs;subst hs;exact wD (I:=I) (A:=A) (G:=bG σ.H) (w:=w) trivial
 ·split at hs
  ·rename_i d0 hd0;simp only[za0] at hs;subst hs;exact wD (I:=I) (A:=A) (G:=bG σ.H) (w:=w) (cr h hgl hd0)
  ·cases hs
theorem cH{σ σ':St}{x:Option D}{d:D}(h:fW σ x=some (d,σ')):x=some d∧σ=σ':=by
 unfold fW at h;split at h
 ·simp only[za0,zb3] at h;obtain⟨rfl,rfl⟩:=h;exact⟨rfl,rfl⟩
 ·cases h
theorem fK{σ':St}{x:Option St}{d:D}(h:unit x=some (d,σ')):x=some σ'∧d= .tup []:=by
 unfold unit at h;split at h
 ·simp only[za0,zb3] at h;obtain⟨rfl,rfl⟩:=h;exact⟨rfl,rfl⟩
 ·cases h
theorem Lb{F:Fence}{n:Nat}(hF:Wide F)(hcall:EnvOK E)(h:Inv I0 B I A σ a w)(hgl:Gl E.gl I w)(hB:∀k,B k→k<w.heap.size){o:Oper}{d:D}{σ':St}(hev:cS E σ o=some (d,σ'))
  {K:Act→World→Prop} {Q:Exit→Act→World→Prop} (hK:∀v w',Step I0 B I a w d σ' v w'→K (a.put o.dst v) w'):o.wpIn F n E.P a w K Q:=by
 have value:(∀c,o.op≠ .defer c)→(∃u w',(execOp a.eval o).run E.P w= .ok (.value u) w'∧Step I0 B I a w d σ' u w')→o.wpIn F n E.P a w K Q:=fun hd ⟨u,w',h1,h2⟩=>nP hF hd h1 (hK u w' h2);have viaScal:(∀c,o.op≠ .defer c)→fW σ (eN E σ o)=some (d,σ')→o.wpIn F n E.P a w K Q:=fun hd hp=>by
  obtain⟨h1,rfl⟩:=cH hp;obtain⟨v,hv,hr⟩:=La h hgl h1;exact value hd ⟨v,w,hv,Step.pure h hr⟩
 unfold cS at hev;split at hev
 ·
  rename_i x ho;obtain⟨h1,rfl⟩:=cH hev;exact value (fun c e=>by rw[ho] at e;cases e) ⟨a.eval x,w,by unfold execOp;rw[ho];rfl,Step.pure h (cr h hgl h1)⟩
 ·
  rename_i x ho;obtain⟨h1,rfl⟩:=cH hev;exact value (fun c e=>by rw[ho] at e;cases e) ⟨a.eval x,w,by unfold execOp;rw[ho];rfl,Step.pure h (cr h hgl h1)⟩
 ·
  rename_i c x y ho;split at hev
  ·rename_i t hc;obtain⟨h1,rfl⟩:=cH hev;have hcv:=(cr h hgl hc).bool_inv;refine value (fun c e=>by rw[ho] at e;cases e) ⟨if t then a.eval x else a.eval y,w,by unfold execOp;rw[ho];simp[hcv,asBool],Step.pure h ?_⟩;cases t with
   |true=>exact cr h hgl h1
   |false=>exact cr h hgl h1
  ·cases hev
 ·
  rename_i x i ho;split at hev
  ·rename_i ds hx;obtain⟨h1,rfl⟩:=cH hev;obtain⟨vs,hv,hl,hr⟩:=(cr h hgl hx).tup_inv;have hlt:i<vs.size:=by rw[←hl];exact(zc1.1 h1).1
   exact value (fun c e=>by rw[ho] at e;cases e) ⟨vs[i],w,by unfold execOp;rw[ho];simp[hv,Instr.extract,hlt],Step.pure h (hr i d _ h1 (Array.getElem?_eq_getElem hlt))⟩
  ·cases hev
 ·
  rename_i t ho;obtain⟨v,w',h1,h2⟩:=Co h hB hev;exact value (fun c e=>by rw[ho] at e;cases e) ⟨v,w',by unfold execOp;rw[ho];simp[h1],h2⟩
 ·
  rename_i t x ho;split at hev
  ·rename_i d0 hx;obtain⟨v,w',h1,h2⟩:=HA (E:=E) (t:=t) h hB hev (cr h hgl hx);exact value (fun c e=>by rw[ho] at e;cases e) ⟨v,w',by unfold execOp;rw[ho];simp[h1],h2⟩
  ·cases hev
 ·
  rename_i t ps ho;split at hev
  ·rename_i l hl;obtain⟨h1,rfl⟩:=cH hev;obtain⟨q1,q2⟩:=qq h hgl hl;obtain⟨v,r1,r2⟩:=Cu (I:=I) (A:=A) (G:=bG σ.H) (w:=w) h1 (vl:=ps.map fun(i,x)=>(i,a.eval x)) (by simp[q1]) (fun j i x v i' hx hv=>by
    obtain⟨y,hy,hr⟩:=q2 j i x hx;rw[Array.toList_map,zc3,hy] at hv;simp at hv;obtain⟨rfl,rfl⟩:=hv;exact⟨rfl,hr⟩)
   exact value (fun c e=>by rw[ho] at e;cases e) ⟨v,w,by unfold execOp;rw[ho];simp only[Sem.run_bind,r1,Result.andThen_ok,Sem.run_pure],Step.pure h r2⟩
  ·cases hev
 ·
  rename_i t m ps ho;split at hev
  ·rename_i l hl;obtain⟨q1,q2⟩:=qq h hgl hl;obtain⟨v,w',r1,r2⟩:=rB h hB hev (vl:=ps.map fun(i,x)=>(i,a.eval x)) (by simp[q1]) (fun j i x v i' hx hv=>by
    obtain⟨y,hy,hr⟩:=q2 j i x hx;rw[Array.toList_map,zc3,hy] at hv;simp at hv;obtain⟨rfl,rfl⟩:=hv;exact⟨rfl,hr⟩)
   exact value (fun c e=>by rw[ho] at e;cases e) ⟨v,w',by unfold execOp;rw[ho];simp only[Sem.run_bind,r1,Result.andThen_ok,Sem.run_pure],r2⟩
  ·cases hev
 ·
  rename_i t x ho;split at hev
  ·rename_i p hp;split at hev
   ·obtain⟨u,r1,r2⟩:=E8 h hev (cr h hgl hp);exact value (fun c e=>by rw[ho] at e;cases e) ⟨u,w,by unfold execOp;rw[ho];simp[r1],r2⟩
   ·obtain⟨h1,rfl⟩:=cH hev;obtain⟨u,r1,r2⟩:=wz h h1 (cr h hgl hp);exact value (fun c e=>by rw[ho] at e;cases e) ⟨u,w,by unfold execOp;rw[ho];simp[r1],Step.pure h r2⟩
  ·cases hev
 ·
  rename_i t p x ho;split at hev
  ·rename_i dp dx hp hx;split at hev
   ·obtain⟨h1,rfl⟩:=fK hev;obtain⟨w',r1,r2⟩:=HB h h1 (cr h hgl hp) (cr h hgl hx);exact iO hF (fun c e=>by rw[ho] at e;cases e) (by unfold execOp;rw[ho];simp only[Sem.run_bind,r1,Result.andThen_ok,Sem.run_pure]) (hK _ _ r2)
   ·obtain⟨h1,rfl⟩:=fK hev;obtain⟨w',r1,r2⟩:=Cr h h1 (cr h hgl hp) (cr h hgl hx);exact iO hF (fun c e=>by rw[ho] at e;cases e) (by unfold execOp;rw[ho];simp only[Sem.run_bind,r1,Result.andThen_ok,Sem.run_pure]) (hK _ _ r2)
  ·cases hev
 ·
  rename_i t x f ho;split at hev
  ·rename_i p hp;obtain⟨h1,rfl⟩:=cH hev;obtain⟨u,r1,r2⟩:=ur h1 (cr h hgl hp);exact value (fun c e=>by rw[ho] at e;cases e) ⟨u,w,by unfold execOp;rw[ho];simp only[Sem.run_bind,r1,Result.andThen_ok,Sem.run_pure],Step.pure h r2⟩
  ·cases hev
 ·
  rename_i t x f ho;split at hev
  ·rename_i p hp;obtain⟨h1,rfl⟩:=cH hev;obtain⟨u,r1,r2⟩:=Ct h1 (cr h hgl hp);exact value (fun c e=>by rw[ho] at e;cases e) ⟨u,w,by unfold execOp;rw[ho];simp only[Sem.run_bind,r1,Result.andThen_ok,Sem.run_pure],Step.pure h r2⟩
  ·cases hev
 ·
  rename_i t x i ho;split at hev
  ·rename_i p j hp hj;obtain⟨h1,rfl⟩:=cH hev;obtain⟨u,r1,r2⟩:=uu h1 (cr h hgl hp) (cr h hgl hj);exact value (fun c e=>by rw[ho] at e;cases e) ⟨u,w,by unfold execOp;rw[ho];simp only[Sem.run_bind,r1,Result.andThen_ok,Sem.run_pure],Step.pure h r2⟩
  ·cases hev
 ·
  rename_i x ho;split at hev
  ·rename_i s g k hx;simp only[za0,zb3] at hev;obtain⟨rfl,rfl⟩:=hev;have hr:=cr h hgl hx;obtain⟨ad,hv,_⟩:=yi (k:=0) hr;exact value (fun c e=>by rw[ho] at e;cases e) ⟨a.eval x,w,by unfold execOp;rw[ho];simp only[hv];rfl,Step.pure h hr⟩
  ·rename_i cs k hx;simp only[za0,zb3] at hev;obtain⟨rfl,rfl⟩:=hev;have hr:=cr h hgl hx;obtain⟨ad,hv,_⟩:=uq (k:=0) hr;exact value (fun c e=>by rw[ho] at e;cases e) ⟨a.eval x,w,by unfold execOp;rw[ho];simp only[hv];rfl,Step.pure h hr⟩
  ·rename_i f y z hx;simp only[za0,zb3] at hev;obtain⟨rfl,rfl⟩:=hev;have hr:=cr h hgl hx;obtain⟨vx,vy,hv,_⟩:=hr.fn_inv;exact value (fun c e=>by rw[ho] at e;cases e) ⟨a.eval x,w,by unfold execOp;rw[ho];simp only[hv];rfl,Step.pure h hr⟩
  ·cases hev
 ·
  rename_i f x y ho;split at hev
  ·rename_i k;split at hev
   ·rename_i dx dy hx hy;simp only[za0,zb3] at hev;obtain⟨rfl,rfl⟩:=hev;obtain⟨a1,a2⟩:=mv h hgl hx;obtain⟨b1,b2⟩:=mv h hgl hy;exact value (fun c e=>by rw[ho] at e;cases e) ⟨_,w,by unfold execOp;rw[ho];rfl,Step.pure h (.fn _ _ _ _ _ (by simp[a1]) (by simp[b1])
     (fun j d v hd hv=>a2 j d v hd (by simpa using hv)) (fun j d v hd hv=>b2 j d v hd (by simpa using hv)))⟩
   ·cases hev
  ·cases hev
 ·
  rename_i t x ho;split at hev
  ·rename_i dx hx;split at hev
   ·cases hev
   ·rename_i td hn hu;split at hev
    ·rename_i h1;simp only[za0,zb3] at hev;obtain⟨rfl,rfl⟩:=hev;have hr:=cr h hgl hx;refine value (fun c e=>by rw[ho] at e;cases e) ⟨.iface t (a.eval x),w,?_,Step.pure h (.ifc _ _ _ hr)⟩;unfold execOp;rw[ho];simp only[Instr.makeInterface,Sem.run_bind,run_underlying hu,Result.andThen_ok];simp
    ·cases hev
   ·cases hev
  ·cases hev
 ·
  rename_i t r ho;split at hev
  ·obtain⟨v,w',h1,h2⟩:=Fd (E:=E) h hB hev t;exact value (fun c e=>by rw[ho] at e;cases e) ⟨v,w',by unfold execOp;rw[ho];simp[h1],h2⟩
  ·cases hev
 ·
  rename_i t x k ok ho;split at hev
  ·rename_i dx dk hx hk;obtain⟨h1,rfl⟩:=cH hev;obtain⟨u,r1,r2⟩:=AQ h h1 (cr h hgl hx) (cr h hgl hk);exact value (fun c e=>by rw[ho] at e;cases e) ⟨u,w,by unfold execOp;rw[ho];simp only[Sem.run_bind,r1,Result.andThen_ok,Sem.run_pure],Step.pure h r2⟩
  ·cases hev
 ·
  rename_i t m k x ho;split at hev
  ·rename_i dm dk dx hm hk hx;obtain⟨h1,rfl⟩:=fK hev;obtain⟨w',r1,r2⟩:=mt h h1 (cr h hgl hm) (cr h hgl hk) (cr h hgl hx);exact iO hF (fun c e=>by rw[ho] at e;cases e) (by unfold execOp;rw[ho];simp only[Sem.run_bind,r1,Result.andThen_ok,Sem.run_pure]) (hK _ _ r2)
  ·cases hev
 ·
  rename_i t m k x ho;split at hev
  ·rename_i dm dk dx hm hk hx;obtain⟨h1,rfl⟩:=fK hev;obtain⟨w',r1,r2⟩:=mt h h1 (cr h hgl hm) (cr h hgl hk) (cr h hgl hx);exact iO hF (fun c e=>by rw[ho] at e;cases e) (by unfold execOp;rw[ho];simp only[Sem.run_bind,r1,Result.andThen_ok,Sem.run_pure]) (hK _ _ r2)
  ·cases hev
 ·
  rename_i t l c ho;split at hev
  ·rename_i dl dc hl hc;obtain⟨u,w',r1,r2⟩:=uz h hB hev (cr h hgl hl) (cr h hgl hc);exact value (fun c e=>by rw[ho] at e;cases e) ⟨u,w',by unfold execOp;rw[ho];simp only[Sem.run_bind,r1,Result.andThen_ok,Sem.run_pure],r2⟩
  ·cases hev
 ·
  rename_i t x lo hi mx ho;split at hev
  ·exact viaScal (fun c e=>by rw[ho] at e;cases e) hev
  ·rename_i dx hx;split at hev
   ·rename_i l hh hlo hhi;obtain⟨u,w',r1,r2⟩:=Cv h hev (cr h hgl ‹_›) (fun k=>wH h hgl hlo k) (fun k=>wH h hgl hhi k);exact value (fun c e=>by rw[ho] at e;cases e) ⟨u,w',by unfold execOp;rw[ho];simp only[Option.map_none,Sem.run_bind,r1,Result.andThen_ok,Sem.run_pure],r2⟩
   ·cases hev
  ·cases hev
 ·
  rename_i t x ho;split at hev
  ·rename_i dx hx;obtain⟨u,w',r1,r2⟩:=Cy h hB hev (cr h hgl hx);exact value (fun c e=>by rw[ho] at e;cases e) ⟨u,w',by unfold execOp;rw[ho];simp only[Sem.run_bind,r1,Result.andThen_ok,Sem.run_pure],r2⟩
  ·cases hev
 ·
  rename_i it isS ho;split at hev
  ·rename_i dx hx;obtain⟨u,w',r1,r2⟩:=Fe (E:=E) h hev (cr h hgl hx) o.type;exact value (fun c e=>by rw[ho] at e;cases e) ⟨u,w',by unfold execOp;rw[ho];simp only[Sem.run_bind,r1,Result.andThen_ok,Sem.run_pure],r2⟩
  ·cases hev
 ·
  rename_i c ho;split at hev
  ·rename_i f hc;split at hev
   ·rename_i g as hg has;obtain⟨q1,q2⟩:=mv h hgl has;have hq:∀(j:Nat) (d:D) (v:Value),as[j]?=some d→(c.args.map a.eval)[j]?=some v→RelV I A (bG σ.H) w d v:=fun j d v hd hv=>q2 j d v hd (by
     rw[←Array.getElem?_toList,Array.toList_map] at hv;exact hv)
    have hvf:=cr h hgl hg;split at hev
    ·
     rename_i i hi;obtain⟨k,first,caps,hgk,hik⟩:∃k first caps,g= .fn (.func k) first caps∧E.inl k=some i.1∧i.2=(first,caps):=by
      unfold wu at hi;split at hi
      ·split at hi
       ·rename_i j hj;cases hi;exact⟨_,_,_,rfl,hj,rfl⟩
       ·cases hi
      ·cases hi
     obtain⟨hik,hi2⟩:=hik;subst hgk;have hok:=hcall.inl k _ hik;obtain⟨vx,vy,hvx,hx,hy,hrx,hry⟩:=hvf.fn_inv;have q3:as.length=c.args.size:=by simpa using q1
     unfold wv at hev;split at hev
     ·rename_i p hp;cases hev;rw[hi2] at hp;refine lq hF (fun c e=>by rw[ho] at e;cases e) (f:=k) (vs:=vx++(c.args.map a.eval++vy)) ?_ ((hok.ok I0 B I A σ.T a w σ.H p.2 _ (vx++(c.args.map a.eval++vy)) p.1 h hgl hB hp (by simp[q1,hx,hy]) fun j d v hd hv=> ?_).mono ?_)
      ·unfold execOp;rw[ho];simp[resolve,hc,hvx,Deferred.ofValue,invoke,hok.en]
      ·dsimp only at hd;by_cases c1:j<first.length
       ·rw[zb9 c1] at hd;rw[Array.getElem?_append_left (by omega)] at hv;exact hrx j d v hd hv
       ·rw[zb8 (by omega)] at hd;rw[Array.getElem?_append_right (by omega),←hx] at hv;by_cases c2:j-first.length<as.length
        ·rw[zb9 c2] at hd;rw[Array.getElem?_append_left (by simp;omega)] at hv;exact hq _ d v hd hv
        ·rw[zb8 (by omega)] at hd;rw[Array.getElem?_append_right (by simp;omega)] at hv;exact hry _ d v hd (by simpa [q1] using hv)
      ·rintro e w' ⟨v,rfl,hst⟩
       exact⟨v,rfl,hK _ _ hst⟩
     ·cases hev
    rename_i hnone;clear hnone;split at hev
    ·rename_i en hen;obtain⟨e0,n0⟩:=en;obtain⟨k,hgk,hwk⟩:∃k,g= .fn (.func k) [] []∧E.wr k=some (.own e0 n0):=by
      unfold nh at hen;split at hen
      ·rename_i e1 n1 hmu;cases hen;unfold jZ at hmu;split at hmu
       ·exact⟨_,rfl,hmu⟩
       ·cases hmu
      ·cases hen
     subst hgk;rcases HM hcall hwk h hgl hB hev hvf (vargs:=c.args.map a.eval) (by simp[q1]) hq with⟨k,vs,r1,r2⟩|⟨v,r1,r2⟩
     case inr=>exact nP hF (fun c e=>by rw[ho] at e;cases e) (v:=v) (w':=w) (by unfold execOp;rw[ho];simp only[resolve,hc];exact r1) (hK _ _ r2)
     refine lq hF (fun c e=>by rw[ho] at e;cases e) (f:=k) (vs:=vs) ?_ (r2.mono ?_)
     ·unfold execOp;rw[ho];simp only[resolve,hc];exact r1
     ·rintro e w' ⟨v,rfl,hst⟩
      exact⟨v,rfl,hK _ _ hst⟩
    ·split at hev
     ·rename_i m hm;obtain⟨k,hgk,hen,hmx⟩:∃k,g= .fn (.func k) [] []∧(∀vs w,(callFunc k vs).run E.P w= .ok (.enter k vs) w)∧Calls E.P k (c.args.map a.eval) w fun e w'=>∃v,e= .returned v∧Step I0 B I a w d σ' v w':=by
       unfold ug at hm;split at hm
       ·rename_i p mp hmu;split at hm
        ·unfold jZ at hmu;split at hmu
         ·rename_i k _;have hpk:AU E.P E.gl k p mp:=hcall.wr k _ hmu;cases hm;simp only[mn] at hev;exact⟨k,rfl,hpk.1,HJ (E:=E) hpk h hgl hB hev (vargs:=c.args.map a.eval) (by simp[q1]) hq⟩
         ·cases hmu
        ·cases hm
       ·rename_i p mp hmu;split at hm
        ·split at hm
         ·unfold jZ at hmu;split at hmu
          ·rename_i k _;have hpk:HG E.P E.gl k p mp:=hcall.wr k _ hmu;cases hm;simp only[mn] at hev;exact⟨k,rfl,hpk.1,HL (E:=E) hpk h hgl hB hev (vargs:=c.args.map a.eval) (by simp[q1]) hq⟩
          ·cases hmu
         ·cases hm
        ·cases hm
       ·rename_i mu hnp hnw hmu;split at hm
        ·unfold jZ at hmu;split at hmu
         ·rename_i k _;have hmk:AT E.P E.gl k mu.f:=by
           have h1:=hcall.wr k _ hmu;cases mu with
           |plc p mp=>exact absurd rfl (hnp p mp)
           |plw p mp=>exact absurd rfl (hnw p mp)
           |fn g=>exact h1
           |tab t g=>exact h1
           |own e n=>exact h1
          cases hm;simp only[mn] at hev;exact⟨k,rfl,hmk.1,HI (E:=E) hmk h hgl hB hev (vargs:=c.args.map a.eval) (by simp[q1]) hq⟩
         ·cases hmu
        ·cases hm
       ·cases hm
      ·subst hgk;obtain⟨vx,vy,hvx,hx,hy,_⟩:=hvf.fn_inv;have ex:vx= #[]:=by simpa using hx.symm
       have ey:vy= #[]:=by simpa using hy.symm
       subst ex ey;refine lq hF (fun c e=>by rw[ho] at e;cases e) (f:=k) (vs:=c.args.map a.eval) ?_ (hmx.mono ?_)
       ·unfold execOp;rw[ho];simp[resolve,hc,hvx,Deferred.ofValue,invoke,hen]
       ·rintro e w' ⟨v,rfl,hst⟩
        exact⟨v,rfl,hK _ _ hst⟩
     ·rcases wG hcall h hgl hB hev hvf (vargs:=c.args.map a.eval) (by simp[q1]) hq with⟨k,vs,r1,r2⟩|⟨v,r1,r2⟩
      case inr=>exact nP hF (fun c e=>by rw[ho] at e;cases e) (v:=v) (w':=w) (by unfold execOp;rw[ho];simp only[resolve,hc];exact r1) (hK _ _ r2)
      refine lq hF (fun c e=>by rw[ho] at e;cases e) (f:=k) (vs:=vs) ?_ (r2.mono ?_)
      ·unfold execOp;rw[ho];simp only[resolve,hc];exact r1
      ·rintro e w' ⟨v,rfl,hst⟩
       exact⟨v,rfl,hK _ _ hst⟩
   ·cases hev
  ·rename_i hc;split at hev
   ·rename_i s x t u' ha ht;split at hev
    ·rename_i ds dx hs hx;split at hev
     ·rename_i htu;subst htu;obtain⟨u,w',r1,r2⟩:=AM h hB hev (cr h hgl hs) (cr h hgl hx) o.type;refine value (fun c e=>by rw[ho] at e;cases e) ⟨u,w',?_,r2⟩;have e1:c.args= #[s,x]:=by rw[←Array.toArray_toList (xs:=c.args),ha]
      have e2:c.argTypes= #[t,t]:=by rw[←Array.toArray_toList (xs:=c.argTypes),ht]
      unfold execOp;rw[ho];simp only[resolve,hc,e1,e2,invoke,builtin,pure_bind,Sem.run_bind,Sem.run_pure,Result.andThen_ok,List.map_toArray,List.map_cons,List.map_nil,r1]
     ·cases hev
    ·cases hev
   ·cases hev
  ·rename_i hc;split at hev
   ·rename_i x t ha ht;have e1:c.args= #[x]:=by rw[←Array.toArray_toList (xs:=c.args),ha]
    have e2:c.argTypes= #[t]:=by rw[←Array.toArray_toList (xs:=c.argTypes),ht]
    split at hev
    ·rename_i dx e' hx hu;obtain⟨h1,rfl⟩:=cH hev;obtain⟨u,r1,r2⟩:=HD (E:=E) (w:=w) hu h1 (cr h hgl hx) o.type;refine value (fun c e=>by rw[ho] at e;cases e) ⟨u,w,?_,Step.pure h r2⟩;unfold execOp;rw[ho];simp only[resolve,hc,e1,e2,invoke,builtin,pure_bind,Sem.run_bind,Sem.run_pure,Result.andThen_ok,List.map_toArray,List.map_cons,List.map_nil,r1]
    ·rename_i dx k' e' hx hu;obtain⟨h1,rfl⟩:=cH hev;obtain⟨u,r1,r2⟩:=Fa h hu h1 (cr h hgl hx) o.type;refine value (fun c e=>by rw[ho] at e;cases e) ⟨u,w,?_,Step.pure h r2⟩;unfold execOp;rw[ho];simp only[resolve,hc,e1,e2,invoke,builtin,pure_bind,Sem.run_bind,Sem.run_pure,Result.andThen_ok,List.map_toArray,List.map_cons,List.map_nil,r1]
    ·exact viaScal (fun c e=>by rw[ho] at e;cases e) hev
    ·cases hev
   ·cases hev
  ·exact viaScal (fun c e=>by rw[ho] at e;cases e) hev
  ·exact viaScal (fun c e=>by rw[ho] at e;cases e) hev
  ·rename_i hc;split at hev
   ·rename_i x t ha ht;have e1:c.args= #[x]:=by rw[←Array.toArray_toList (xs:=c.args),ha]
    have e2:c.argTypes= #[t]:=by rw[←Array.toArray_toList (xs:=c.argTypes),ht]
    split at hev
    ·rename_i dx hx;obtain⟨u,w',r1,r2⟩:=CA h hev (cr h hgl hx) o.type;refine value (fun c e=>by rw[ho] at e;cases e) ⟨u,w',?_,r2⟩;unfold execOp;rw[ho];simp only[resolve,hc,e1,e2,invoke,builtin,pure_bind,Sem.run_bind,Sem.run_pure,Result.andThen_ok,List.map_toArray,List.map_cons,List.map_nil,r1]
    ·cases hev
   ·cases hev
  ·cases hev
 ·
  rename_i op t x y s ho;split at hev
  ·rename_i dx dy hx hy;split at hev
   ·rename_i d1 h1;simp only[za0,zb3] at hev;obtain⟨rfl,rfl⟩:=hev;obtain⟨u,r1,r2⟩:=Cz (E:=E) (w:=w) (x:=x) (y:=y) h1 (cr h hgl hx) (cr h hgl hy);exact value (fun c e=>by rw[ho] at e;cases e) ⟨u,w,by unfold execOp;rw[ho];rw[Sem.run_bind,r1];rfl,Step.pure h r2⟩
   ·exact viaScal (fun c e=>by rw[ho] at e;cases e) hev
  ·cases hev
 ·rename_i ho;exact viaScal (fun c e=>by rw[ho] at e;cases e) hev
 ·rename_i ho;exact viaScal (fun c e=>by rw[ho] at e;cases e) hev
 ·rename_i ho;exact viaScal (fun c e=>by rw[ho] at e;cases e) hev
 ·cases hev
end
end Go.Pd
end
section
namespace Go.Pd
def pD(T2:List D):Option (D×St)→Option (D×St)
 |some (d,σ)=>some (d,⟨T2,σ.H⟩)
 |none=>none
def PO(T2:List D):Option St→Option St
 |some σ=>some ⟨T2,σ.H⟩
 |none=>none
@[simp] theorem Tb(T2:List D):pD T2 none=none:=rfl
@[simp] theorem HN(T2:List D)(d:D)(σ:St):pD T2 (some (d,σ))=some (d,⟨T2,σ.H⟩):=rfl
@[simp] theorem Tc(T2:List D):PO T2 none=none:=rfl
@[simp] theorem Td(T2:List D)(σ:St):PO T2 (some σ)=some ⟨T2,σ.H⟩:=rfl
section
variable {E:Env}{T T2:List D}{H:List (Nat×Option Ob)}
theorem eR(x:Option D):fW ⟨T2,H⟩ x=pD T2 (fW ⟨T,H⟩ x):=by cases x<;>rfl
theorem ym(x:Option St):unit (PO T2 x)=pD T2 (unit x):=by cases x<;>rfl
theorem iP(dst:Option Tmp)(o:Ob)(mk:Nat→Nat→D):cM ⟨T2,H⟩ dst o mk=pD T2 (cM ⟨T,H⟩ dst o mk):=by
 unfold cM;cases dst with
 |none=>rfl
 |some s=>dsimp only;split<;>rfl
theorem HO(dst:Option Tmp)(o:Ob)(mk:Nat→Nat→D)(ss:List Nat):cM (St.freeze ⟨T2,H⟩ ss) dst o mk=pD T2 (cM (St.freeze ⟨T,H⟩ ss) dst o mk):=iP dst o mk
theorem HP(dst:Option Tmp)(o:Ob)(mk:Nat→Nat→D)(ss:List Nat)(s:Nat):cM ((St.freeze ⟨T2,H⟩ ss).setOb s none) dst o mk=pD T2 (cM ((St.freeze ⟨T,H⟩ ss).setOb s none) dst o mk):=iP dst o mk
theorem Ff(dst:Option Tmp)(t:TypeId):ll E ⟨T2,H⟩ dst t=pD T2 (ll E ⟨T,H⟩ dst t):=by
 unfold ll;split
 ·split
  ·split<;>exact iP ..
  ·rfl
 ·rfl
theorem Lc(dst:Option Tmp)(x:D):uc ⟨T2,H⟩ dst x=pD T2 (uc ⟨T,H⟩ dst x):=by
 unfold uc;split
 ·exact iP ..
 ·rfl
theorem Fg(t:TypeId)(p x:D):fh E ⟨T2,H⟩ t p x=PO T2 (fh E ⟨T,H⟩ t p x):=by
 unfold fh;dsimp only
 repeat' (first|rfl|split)
theorem HQ(dst:Option Tmp)(t:TypeId)(p:D):mi E ⟨T2,H⟩ dst t p=pD T2 (mi E ⟨T,H⟩ dst t p):=by
 unfold mi;dsimp only
 repeat' (first|rfl|split)
theorem Ld(t:TypeId)(p x:D):qX E ⟨T2,H⟩ t p x=PO T2 (qX E ⟨T,H⟩ t p x):=by
 unfold qX;dsimp only
 repeat' (first|rfl|split)
theorem uE(t:TypeId)(n:Nat)(l:List (Nat×D)):dz E ⟨T2,H⟩ t n l=pD T2 (dz E ⟨T,H⟩ t n l):=by
 unfold dz;dsimp only
 repeat' (first|rfl|split)
theorem CD(dst:Option Tmp)(e:TypeId)(n b m:Nat)(news:List D)(ss:List Nat)(s:D):du ⟨T2,H⟩ dst e n b m news ss s=pD T2 (du ⟨T,H⟩ dst e n b m news ss s):=by
 unfold du;dsimp only
 repeat' (first|rfl|exact HO .. |exact HP .. |split)
theorem CE(dst:Option Tmp)(t:TypeId)(s x:D):eX E ⟨T2,H⟩ dst t s x=pD T2 (eX E ⟨T,H⟩ dst t s x):=by
 unfold eX;dsimp only
 repeat' (first|rfl|exact CD .. |split)
theorem vv(dst:Option Tmp)(t:TypeId)(s x:D):d9 E ⟨T2,H⟩ dst t s x=pD T2 (d9 E ⟨T,H⟩ dst t s x):=by
 unfold d9
 repeat' (first|rfl|exact iP .. |split)
theorem Le(e:TypeId)(x:D)(y:Nat×Nat×Nat×Nat)(lo hi:Option D):ue E ⟨T2,H⟩ e x y lo hi=pD T2 (ue E ⟨T,H⟩ e x y lo hi):=by
 unfold ue
 repeat' (first|rfl|split)
theorem Fh(t:TypeId)(x:D)(lo hi:Option D):ec E ⟨T2,H⟩ t x lo hi=pD T2 (ec E ⟨T,H⟩ t x lo hi):=by
 unfold ec;dsimp only
 repeat' (first|rfl|exact Le .. |split)
theorem Fi(t:TypeId)(x:D):iJ E ⟨T2,H⟩ t x=pD T2 (iJ E ⟨T,H⟩ t x):=by
 unfold iJ;dsimp only
 repeat' (first|rfl|split)
theorem nn(t:TypeId)(m k v:D):cU E ⟨T2,H⟩ t m k v=PO T2 (cU E ⟨T,H⟩ t m k v):=by
 unfold cU;dsimp only
 repeat' (first|rfl|split)
theorem AV(f:D)(args:List D):g7 E ⟨T2,H⟩ f args=pD T2 (g7 E ⟨T,H⟩ f args):=by
 unfold g7;dsimp only
 repeat' (first|rfl|split)
 all_goals simp[pD]
theorem Lf(o:Bool)(dst:Option Tmp)(g:pc)(args:List D):pi o ⟨T2,H⟩ dst g args=pD T2 (pi o ⟨T,H⟩ dst g args):=by
 unfold pi;dsimp only
 repeat' (first|rfl|exact iP .. |split)
theorem Lg(p:Nat)(g:List D→Option D)(args:List D):qY ⟨T2,H⟩ p g args=pD T2 (qY ⟨T,H⟩ p g args):=by
 unfold qY;dsimp only
 repeat' (first|rfl|split)
theorem Lh(p:Nat)(g:List D→Option D)(args:List D):qZ ⟨T2,H⟩ p g args=pD T2 (qZ ⟨T,H⟩ p g args):=by
 unfold qZ;dsimp only
 repeat' (first|rfl|split)
theorem Li(g:List (Nat×Option Ob)→List D→Option (D×List (Nat×Option Ob)))(ds:List D):wv ⟨T2,H⟩ g ds=pD T2 (wv ⟨T,H⟩ g ds):=by
 unfold wv;dsimp only;split<;>rfl
theorem HR(dst:Option Tmp)(m:MutX)(args:List D):mn ⟨T2,H⟩ dst m args=pD T2 (mn ⟨T,H⟩ dst m args):=by
 cases m with
 |fst o g=>exact Lf ..
 |plc p g=>exact Lg ..
 |plw p g=>exact Lh ..
theorem HS(f:D)(args:List D):ml E ⟨T2,H⟩ f args=ml E ⟨T,H⟩ f args:=rfl
theorem Lj(dst:Option Tmp)(e:TypeId)(n:Nat)(f:D)(args:List D):mm E ⟨T2,H⟩ dst e n f args=pD T2 (mm E ⟨T,H⟩ dst e n f args):=by
 unfold mm;rw[HS (T2:=T2) (T:=T)];split
 ·split
  ·exact iP ..
  ·rfl
 ·exact AV ..
theorem Fj(dst:Option Tmp)(t:TypeId)(x:D):lm E ⟨T2,H⟩ dst t x=pD T2 (lm E ⟨T,H⟩ dst t x):=by
 unfold lm;split
 ·exact iP ..
 ·rfl
theorem HT(x:D):j0 ⟨T2,H⟩ x=pD T2 (j0 ⟨T,H⟩ x):=by
 unfold j0;dsimp only
 repeat' (first|rfl|split)
def Same(T T2:List D)(l:List Operand):Prop:=∀t,.tmp t∈l→T2[t]?=T[t]?
theorem Same.val{l:List Operand}(h:Same T T2 l){H H':List (Nat×Option Ob)}{x:Operand}(hx:x∈l):St.val E ⟨T2,H⟩ x=St.val E ⟨T,H'⟩ x:=by
 cases x with
 |tmp t=>exact h t hx
 |const v=>rfl
 |global g=>rfl
 |func f=>rfl
theorem sr{l:List Operand}(h:Same T T2 l):gS E ⟨T2,H⟩ l=gS E ⟨T,H⟩ l:=by
 induction l with
 |nil=>rfl
 |cons x xs ih=>
  simp only[gS];rw[h.val (H:=H) (H':=H) (za4 ..),ih fun t ht=>h t (za5 _ ht)]
theorem uF{l:List (Nat×Operand)}(h:Same T T2 (l.map (·.2))):gC E ⟨T2,H⟩ l=gC E ⟨T,H⟩ l:=by
 induction l with
 |nil=>rfl
 |cons p xs ih=>
  obtain⟨i,x⟩:=p;simp only[gC];rw[h.val (H:=H) (H':=H) (by simp),ih fun t ht=>h t (by simp;right;simpa using ht)]
theorem AW{x:Option Operand}(h:∀y,x=some y→St.val E ⟨T2,H⟩ y=St.val E ⟨T,H⟩ y):eI E ⟨T2,H⟩ x=eI E ⟨T,H⟩ x:=by
 cases x with
 |none=>rfl
 |some y=>simp only[eI];rw[h y rfl]
theorem HU{o:Oper}{H H':List (Nat×Option Ob)}(h:Same T T2 o.op.operands.toList):eN E ⟨T2,H⟩ o=eN E ⟨T,H'⟩ o:=by
 have h1:∀x∈o.op.operands,jj E ⟨T2,H⟩ x=jj E ⟨T,H'⟩ x:=fun x hx=>by
  unfold jj;rw[h.val (H:=H) (H':=H') (by simpa using hx)]
 have h2:∀x∈o.op.operands,fC E ⟨T2,H⟩ x=fC E ⟨T,H'⟩ x:=fun x hx=>by
  unfold fC;rw[h.val (H:=H) (H':=H') (by simpa using hx)]
 unfold eN;split
 ·rfl
 ·rename_i hs;rw[execOp_congr o (fun cs b e=>hs cs b e) h1];have:o.op.operands.all (fC E ⟨T2,H⟩)=o.op.operands.all (fC E ⟨T,H'⟩):=by
   rw[Bool.eq_iff_iff];simp only[Array.all_eq_true'];exact⟨fun hh x hx=>(h2 x hx)▸hh x hx,fun hh x hx=>(h2 x hx).symm▸hh x hx⟩
  rw[this]
theorem HV{o:Oper}(h:Same T T2 o.op.operands.toList):cS E ⟨T2,H⟩ o=pD T2 (cS E ⟨T,H⟩ o):=by
 have hsc:=HU (E:=E) (H:=H) (H':=H) h;have V:∀x,x∈o.op.operands.toList→St.val E ⟨T2,H⟩ x=St.val E ⟨T,H⟩ x:=fun x hx=>h.val hx;unfold cS;cases ho:o.op<;>rw[ho] at V h<;>simp only[Op.operands] at V h<;>dsimp only
 case move x=>rw[V x (by simp)];exact eR _
 case assign x=>rw[V x (by simp)];exact eR _
 case pick c x y=>
  rw[V c (by simp)];split
  ·rename_i t _;cases t<;>simp only[Bool.false_eq_true,if_false,if_true]
   ·rw[V y (by simp)];exact eR _
   ·rw[V x (by simp)];exact eR _
  ·rfl
 case extract x i=>rw[V x (by simp)];split<;>first|exact eR _|rfl
 case alloc t=>exact Ff ..
 case box t x=>rw[V x (by simp)];split<;>first|exact Lc .. |rfl
 case build t ps=>rw[uF (T:=T) (by simpa using h)];split<;>first|exact eR _|rfl
 case buildSlice t n ps=>rw[uF (T:=T) (by simpa using h)];split<;>first|exact uE .. |rfl
 case load t x=>rw[V x (by simp)];split<;>first|(split<;>first|exact HQ .. |exact eR _)|rfl
 case store t x y=>rw[V x (by simp),V y (by simp)];split<;>first|(split<;>first|(rw[Ld (T:=T)];exact ym _)|(rw[Fg (T:=T)];exact ym _))|rfl
 case fieldAddr t x f=>rw[V x (by simp)];split<;>first|exact eR _|rfl
 case field t x f=>rw[V x (by simp)];split<;>first|exact eR _|rfl
 case indexAddr t x i=>rw[V x (by simp),V i (by simp)];split<;>first|exact eR _|rfl
 case nilCheck x=>rw[V x (by simp)];split<;>rfl
 case makeFunc f x y=>
  split
  ·rw[sr (T:=T) (fun t ht=>h t (by simp at ht ⊢;exact .inl ht)),sr (T:=T) (fun t ht=>h t (by simp at ht ⊢;exact .inr ht))];split<;>rfl
  ·rfl
 case makeInterface t x=>rw[V x (by simp)];repeat' (first|rfl|split)
 case makeMap t r=>cases r<;>first|exact iP .. |rfl
 case lookup t x k ok=>rw[V x (by simp),V k (by simp)];split<;>first|exact eR _|rfl
 case mapUpdate t x k y=>rw[V x (by simp),V k (by simp),V y (by simp)];split<;>first|(rw[nn (T:=T)];exact ym _)|rfl
 case insert t x k y=>rw[V x (by simp),V k (by simp),V y (by simp)];split<;>first|(rw[nn (T:=T)];exact ym _)|rfl
 case makeSlice t l c=>rw[V l (by simp),V c (by simp)];split<;>first|exact vv .. |rfl
 case slice t x lo hi mx=>
  rw[V x (by simp),AW (T:=T) (x:=lo) (fun y hy=>V y (by simp[hy])),AW (T:=T) (x:=hi) (fun y hy=>V y (by simp[hy])),hsc];split
  ·exact eR _
  ·split<;>first|exact Fh .. |rfl
  ·rfl
 case range t x=>rw[V x (by simp)];split<;>first|exact Fj .. |rfl
 case next it s=>rw[V it (by simp)];split<;>first|exact HT .. |rfl
 case call c=>
  split
  ·rename_i f hc;rw[V f (by simp[Call.operands,hc]),sr (T:=T) (fun t ht=>h t (by simp[Call.operands] at ht ⊢;exact .inr ht))];split
   ·split
    ·exact Li ..
    split
    ·exact Lj ..
    ·split
     ·exact HR ..
     ·exact AV ..
   ·rfl
  ·split
   ·rename_i s x t u ha ht;rw[V s (by simp[Call.operands,ha]),V x (by simp[Call.operands,ha])]
    repeat' (first|rfl|exact CE .. |split)
   ·rfl
  ·split
   ·rename_i x t ha ht;rw[V x (by simp[Call.operands,ha]),hsc]
    repeat' (first|rfl|exact eR _|split)
   ·rfl
  ·rw[hsc];exact eR _
  ·rw[hsc];exact eR _
  ·split
   ·rename_i x t ha ht;rw[V x (by simp[Call.operands,ha])];split
    ·exact Fi ..
    ·rfl
   ·rfl
  ·rfl
 case binOp op t x y s=>
  rw[V x (by simp),V y (by simp),hsc];split
  ·split
   ·rfl
   ·exact eR _
  ·rfl
 case unOp=>rw[hsc];exact eR _
 case convert=>rw[hsc];exact eR _
 case index=>rw[hsc];exact eR _
 all_goals rfl
end
def Has(H H2:List (Nat×Option Ob)):Prop:=∀s g o,bE H s g=some o→∃o2,bE H2 s g=some o2∧o2.freeze=o.freeze
theorem Has.refl(H:List (Nat×Option Ob)):Has H H:=fun _ _ o h=>⟨o,h,rfl⟩
theorem Has.box{H H2:List (Nat×Option Ob)}(h:Has H H2){s g:Nat}{cs:List D}{fz:Bool}(hl:bE H s g=some (.box cs fz)):∃fz2,bE H2 s g=some (.box cs fz2):=by
 obtain⟨o2,h1,h2⟩:=h _ _ _ hl;cases o2<;>simp[Ob.freeze] at h2;subst h2;exact⟨_,h1⟩
theorem Has.arr{H H2:List (Nat×Option Ob)}(h:Has H H2){s g:Nat}{e:TypeId}{n:Nat}{cs:List D}{fz:Bool}(hl:bE H s g=some (.arr e n cs fz)):∃fz2,bE H2 s g=some (.arr e n cs fz2):=by
 obtain⟨o2,h1,h2⟩:=h _ _ _ hl;cases o2<;>simp[Ob.freeze] at h2;obtain⟨rfl,rfl,rfl⟩:=h2;exact⟨_,h1⟩
theorem Has.map{H H2:List (Nat×Option Ob)}(h:Has H H2){s g:Nat}{ks vs:List D}{fz:Bool}(hl:bE H s g=some (.map ks vs fz)):∃fz2,bE H2 s g=some (.map ks vs fz2):=by
 obtain⟨o2,h1,h2⟩:=h _ _ _ hl;cases o2<;>simp[Ob.freeze] at h2;obtain⟨rfl,rfl⟩:=h2;exact⟨_,h1⟩
theorem Has.freeze(H:List (Nat×Option Ob))(ss:List Nat):Has H (bN H ss):=fun s g o h=>by
 rw[cP,h];split
 ·exact⟨o.freeze,rfl,j1 o⟩
 ·exact⟨o,rfl,rfl⟩
theorem Has.thaw(H:List (Nat×Option Ob))(ss:List Nat):Has (bN H ss) H:=fun s g o h=>by
 rw[cP] at h;split at h
 ·cases hl:bE H s g with
  |none=>rw[hl] at h;simp at h
  |some o'=>rw[hl] at h;simp at h;subst h;exact⟨o',rfl,(j1 o').symm⟩
 ·exact⟨o,h,rfl⟩
def Dead(H:List (Nat×Option Ob))(s:Nat):Prop:=∀g,bE H s g=none
theorem Has.new{H:List (Nat×Option Ob)}{s:Nat}(hd:Dead H s)(n:Nat)(ob:Option Ob):Has H (H.set s (n,ob)):=fun s' g o h=>by
 by_cases e:s=s'
 ·subst e;rw[hd g] at h;cases h
 ·exact⟨o,by rw[ct e];exact h,rfl⟩
theorem kE{f f2:D→Option (D×List Nat)}(hf:∀d r,f d=some r→f2 d=some r):∀(ds:List D) (r:List D×List Nat),c6 f ds=some r→c6 f2 ds=some r
 |[],r,h=>h
 |d::ds,r,h=>by
  simp only[c6] at h ⊢;split at h
  ·cases h
  ·rename_i d' ss hd;split at h
   ·cases h
   ·rename_i ds' ss' hds;rw[hf _ _ hd,kE hf _ _ hds];exact h
theorem fL{H H2:List (Nat×Option Ob)}(h:Has H H2):∀(n:Nat) (d:D) (r:D×List Nat),ci H n d=some r→ci H2 n d=some r
 |0,_,_,hs=>by cases hs
 |n+1,d,r,hs=>by
  have L:=kE (fL h n);cases d with
  |loc s g off=>
   simp only[ci] at hs ⊢;split at hs
   ·rename_i cs fz hl;obtain⟨fz2,hl2⟩:=h.box hl;rw[hl2];split at hs
    ·rename_i x1 x2 hx;simp only[L _ _ hx];exact hs
    ·cases hs
   ·rename_i e k cs fz hl;obtain⟨fz2,hl2⟩:=h.arr hl;rw[hl2];exact hs
   ·cases hs
  |own s g len=>
   simp only[ci] at hs ⊢;split at hs
   ·rename_i e k cs fz hl;obtain⟨fz2,hl2⟩:=h.arr hl;rw[hl2];exact hs
   ·cases hs
  |win s g off len n=>
   simp only[ci] at hs ⊢;split at hs
   ·rename_i e k cs fz hl;obtain⟨fz2,hl2⟩:=h.arr hl;rw[hl2];exact hs
   ·cases hs
  |mloc s g=>
   simp only[ci] at hs ⊢;split at hs
   ·rename_i ks vs fz hl;obtain⟨fz2,hl2⟩:=h.map hl;rw[hl2];exact hs
   ·cases hs
  |agg cs=>
   simp only[ci] at hs ⊢;split at hs
   ·rename_i x1 x2 hx;simp only[L _ _ hx];exact hs
   ·cases hs
  |tup cs=>
   simp only[ci] at hs ⊢;split at hs
   ·rename_i x1 x2 hx;simp only[L _ _ hx];exact hs
   ·cases hs
  |fn f a b=>
   simp only[ci] at hs ⊢;split at hs
   ·rename_i x1 x2 hx;split at hs
    ·rename_i y1 y2 hy;simp only[L _ _ hx,L _ _ hy];exact hs
    ·cases hs
   ·cases hs
  |ifc t x=>
   simp only[ci] at hs ⊢;split at hs
   ·rename_i x1 x2 hx;simp only[fL h n _ _ hx];exact hs
   ·cases hs
  |_=>exact hs
def Lives(H:List (Nat×Option Ob))(ss:List Nat):Prop:=∀s∈ss,∃g o,bE H s g=some o
theorem Lives.append{H:List (Nat×Option Ob)}{ss ss':List Nat}(h:Lives H ss)(h':Lives H ss'):Lives H (ss++ss'):=fun s hs=>by
 rcases za9.1 hs with h1|h1
 ·exact h s h1
 ·exact h' s h1
theorem Lives.cons{H:List (Nat×Option Ob)}{s g:Nat}{o:Ob}{ss:List Nat}(hl:bE H s g=some o)(h:Lives H ss):Lives H (s::ss):=fun s' hs=>by
 rcases List.mem_cons.1 hs with rfl|h1
 ·exact⟨g,o,hl⟩
 ·exact h s' h1
theorem mw{H:List (Nat×Option Ob)}{f:D→Option (D×List Nat)}(hf:∀d d' ss,f d=some (d',ss)→Lives H ss):∀(ds ds':List D) (ss:List Nat),c6 f ds=some (ds',ss)→Lives H ss
 |[],_,_,h=>by simp only[c6,za0,zb3] at h;obtain⟨rfl,rfl⟩:=h;exact fun s hs=>by cases hs
 |d::ds,ds',ss,h=>by
  simp only[c6] at h;split at h
  ·cases h
  ·rename_i d' s1 hd;split at h
   ·cases h
   ·rename_i ds1 s2 hds;simp only[za0,zb3] at h;obtain⟨rfl,rfl⟩:=h;exact(hf _ _ _ hd).append (mw hf _ _ _ hds)
theorem ix{H:List (Nat×Option Ob)}:∀(n:Nat) (d d':D) (ss:List Nat),ci H n d=some (d',ss)→Lives H ss
 |0,_,_,_,hs=>by cases hs
 |n+1,d,d',ss,hs=>by
  have L:=mw (ix (H:=H) n);cases d with
  |loc s g off=>
   simp only[ci] at hs;split at hs
   ·rename_i hl;split at hs
    ·rename_i hx;simp only[za0,zb3] at hs;obtain⟨rfl,rfl⟩:=hs;exact(L _ _ _ hx).cons hl
    ·cases hs
   ·rename_i hl;simp only[za0,zb3] at hs;obtain⟨rfl,rfl⟩:=hs;exact Lives.cons hl (fun s hs=>by cases hs)
   ·cases hs
  |own s g len=>
   simp only[ci] at hs;split at hs
   ·rename_i hl;simp only[za0,zb3] at hs;obtain⟨rfl,rfl⟩:=hs;exact Lives.cons hl (fun s hs=>by cases hs)
   ·cases hs
  |win s g off len n=>
   simp only[ci] at hs;split at hs
   ·rename_i hl;simp only[za0,zb3] at hs;obtain⟨rfl,rfl⟩:=hs;exact Lives.cons hl (fun s hs=>by cases hs)
   ·cases hs
  |mloc s g=>
   simp only[ci] at hs;split at hs
   ·rename_i hl;simp only[za0,zb3] at hs;obtain⟨rfl,rfl⟩:=hs;exact Lives.cons hl (fun s hs=>by cases hs)
   ·cases hs
  |agg cs=>
   simp only[ci] at hs;split at hs
   ·rename_i hx;simp only[za0,zb3] at hs;obtain⟨rfl,rfl⟩:=hs;exact L _ _ _ hx
   ·cases hs
  |tup cs=>
   simp only[ci] at hs;split at hs
   ·rename_i hx;simp only[za0,zb3] at hs;obtain⟨rfl,rfl⟩:=hs;exact L _ _ _ hx
   ·cases hs
  |fn f a b=>
   simp only[ci] at hs;split at hs
   ·rename_i hx;split at hs
    ·rename_i hy;simp only[za0,zb3] at hs;obtain⟨rfl,rfl⟩:=hs;exact(L _ _ _ hx).append (L _ _ _ hy)
    ·cases hs
   ·cases hs
  |ifc t x=>
   simp only[ci] at hs;split at hs
   ·rename_i hx;simp only[za0,zb3] at hs;obtain⟨rfl,rfl⟩:=hs;exact ix n _ _ _ hx
   ·cases hs
  |_=>simp only[ci,za0,zb3] at hs;obtain⟨rfl,rfl⟩:=hs;exact fun s hs=>by cases hs
theorem j2{H H2:List (Nat×Option Ob)}(h:Has H H2):∀(l:List (Nat×D)) (r:List (Nat×D)) (ss:List Nat),eH H l=some (r,ss)→Lives H ss∧eH H2 l=some (r,ss)
 |[],_,_,hs=>by simp only[eH,za0,zb3] at hs;obtain⟨rfl,rfl⟩:=hs;exact⟨(fun s hs=>by cases hs),rfl⟩
 |(i,d)::l,r,ss,hs=>by
  simp only[eH] at hs ⊢;split at hs
  ·cases hs
  ·rename_i d' s1 hd;split at hs
   ·cases hs
   ·rename_i r1 s2 hr;simp only[za0,zb3] at hs;obtain⟨rfl,rfl⟩:=hs;obtain⟨a1,a2⟩:=j2 h _ _ _ hr;exact⟨(ix _ _ _ _ hd).append a1,by simp only[fL h _ _ _ hd,a2]⟩
theorem AX{H H2:List (Nat×Option Ob)}(h:Has H H2){p:D}{r:List D×Nat}(hc:il H p=some r):il H2 p=some r:=by
 unfold il at hc ⊢;split at hc
 ·split at hc
  ·rename_i hl;obtain⟨_,hl2⟩:=h.box hl;simp only[hl2];exact hc
  ·rename_i hl;obtain⟨_,hl2⟩:=h.arr hl;simp only[hl2];exact hc
  ·cases hc
 ·exact hc
 ·cases hc
theorem Fk{H H2:List (Nat×Option Ob)}(h:Has H H2){p:D}{r:List D×List D}(hc:uf H p=some r):uf H2 p=some r:=by
 unfold uf at hc ⊢;split at hc
 ·split at hc
  ·rename_i hl;obtain⟨_,hl2⟩:=h.map hl;simp only[hl2];exact hc
  ·cases hc
 ·exact hc
 ·exact hc
 ·cases hc
theorem CF{H H2:List (Nat×Option Ob)}(h:Has H H2){p r:D}(hc:nN H p=some r):nN H2 p=some r:=by
 unfold nN at hc ⊢;split at hc
 ·split at hc
  ·rename_i hl;obtain⟨_,hl2⟩:=h.map hl;simp only[hl2];exact hc
  ·cases hc
 ·exact hc
 ·exact hc
 ·cases hc
inductive Kd where|pure|rd|al|ef
 deriving DecidableEq
def kd(P:Program)(o:Oper):Kd:=match o.op with
 | .move _| .assign _| .pick _ _ _| .extract _ _| .build _ _| .fieldAddr _ _ _| .field _ _ _| .indexAddr _ _ _| .nilCheck _| .makeFunc _ _ _| .makeInterface _ _
 | .binOp _ _ _ _ _| .unOp _ _ _| .convert _ _ _| .index _ _ _=> .pure
 | .load _ _| .lookup _ _ _ _| .buildSlice _ _ _| .slice _ _ _ _ _=> .rd
 | .alloc _| .box _ _| .makeMap _ none| .makeSlice _ _ _| .range _ _=> .al
 | .call c=>match c.callee with
  | .value _=> .rd
  | .builtin .max=> .pure
  | .builtin .min=> .pure
  | .builtin .len=>match c.argTypes.toList with
   |[t]=>match P.underlying t with
    |some (.slice _)=> .pure
    |some .string=> .pure
    |_=> .rd
   |_=> .ef
  |_=> .ef
 |_=> .ef
section
variable {E:Env}{T:List D}{H:List (Nat×Option Ob)}{o:Oper}{d:D}{σ':St}
theorem gH(E:Env)(T:List D)(H H2:List (Nat×Option Ob))(x:Operand):St.val E ⟨T,H2⟩ x=St.val E ⟨T,H⟩ x:=by cases x<;>rfl
theorem pE(E:Env)(T:List D)(H H2:List (Nat×Option Ob)):∀l,gS E ⟨T,H2⟩ l=gS E ⟨T,H⟩ l
 |[]=>rfl
 |x::l=>by simp only[gS];rw[gH E T H H2,pE E T H H2 l]
theorem pF(E:Env)(T:List D)(H H2:List (Nat×Option Ob)):∀l,gC E ⟨T,H2⟩ l=gC E ⟨T,H⟩ l
 |[]=>rfl
 |(i,x)::l=>by simp only[gC];rw[gH E T H H2,pF E T H H2 l]
theorem uG(E:Env)(T:List D)(H H2:List (Nat×Option Ob))(x:Option Operand):eI E ⟨T,H2⟩ x=eI E ⟨T,H⟩ x:=by
 cases x with
 |none=>rfl
 |some y=>simp only[eI];rw[gH E T H H2]
theorem qs(E:Env)(T:List D)(H H2:List (Nat×Option Ob))(o:Oper):eN E ⟨T,H2⟩ o=eN E ⟨T,H⟩ o:=HU fun _ _=>rfl
theorem dW{x:Option D}(h:fW ⟨T,H⟩ x=some (d,σ')):σ'=⟨T,H⟩∧∀H2,fW ⟨T,H2⟩ x=some (d,⟨T,H2⟩):=by
 obtain⟨rfl,rfl⟩:=cH h;exact⟨rfl,fun _=>rfl⟩
theorem pG(hk:kd E.P o= .pure)(h:cS E ⟨T,H⟩ o=some (d,σ')):σ'=⟨T,H⟩∧∀H2,cS E ⟨T,H2⟩ o=some (d,⟨T,H2⟩):=by
 unfold kd at hk;unfold cS at h ⊢;cases ho:o.op<;>simp only[ho,reduceCtorEq] at hk
 case call c=>
  simp only[ho] at h ⊢;split at hk
  ·cases hk
  ·rename_i hc;simp only[hc,fun H2=>qs E T H H2] at h ⊢;exact dW h
  ·rename_i hc;simp only[hc,fun H2=>qs E T H H2] at h ⊢;exact dW h
  ·rename_i hc;simp only[hc,fun H2=>qs E T H H2,fun H2=>gH E T H H2] at h ⊢;split at hk
   ·rename_i t ht;simp only[ht] at h ⊢;split at h
    ·rename_i x t' ha ht';cases ht';split at h
     ·rename_i hx hu;exact dW h
     ·rename_i hx hu;simp only[hu] at hk;cases hk
     ·rename_i hx hu;exact dW h
     ·cases h
    ·cases h
   ·cases hk
  ·cases hk
 all_goals simp only[ho,fun H2=>gH E T H H2,fun H2=>pE E T H H2,fun H2=>pF E T H H2,fun H2=>qs E T H H2] at h ⊢
 case makeMap t r=>cases r<;>cases hk
 case move=>exact dW h
 case assign=>exact dW h
 case unOp=>exact dW h
 case convert=>exact dW h
 case index=>exact dW h
 case binOp op t x y s=>
  split at h
  ·rename_i a b hx hy;split at h
   ·rename_i d1 h1;simp only[za0,zb3] at h;obtain⟨rfl,rfl⟩:=h;exact⟨rfl,fun _=>rfl⟩
   ·exact dW h
  ·cases h
 case makeInterface t x=>
  split at h
  ·split at h
   ·cases h
   ·split at h
    ·rename_i hc;simp only[za0,zb3] at h;obtain⟨rfl,rfl⟩:=h;exact⟨rfl,fun _=>by rw[if_pos hc]⟩
    ·cases h
   ·cases h
  ·cases h
 case makeFunc f x y=>
  split at h
  ·split at h
   ·simp only[za0,zb3] at h;obtain⟨rfl,rfl⟩:=h;exact⟨rfl,fun _=>rfl⟩
   ·cases h
  ·cases h
 case nilCheck x=>
  split at h
  all_goals first|cases h;done|(simp only[za0,zb3] at h;obtain⟨rfl,rfl⟩:=h;exact⟨rfl,fun _=>rfl⟩)
 all_goals
  split at h
  ·exact dW h
  ·cases h
theorem su{x:List (Nat×Option Ob)→Option D}(hx:∀H2,Has H H2→∀d,x H=some d→x H2=some d)(h:fW ⟨T,H⟩ (x H)=some (d,σ')):
  ∃ss,σ'=⟨T,bN H ss⟩∧Lives H ss∧∀H2,Has H H2→fW ⟨T,H2⟩ (x H2)=some (d,⟨T,bN H2 ss⟩):=by
 obtain⟨h1,rfl⟩:=cH h;exact⟨[],rfl,(fun s hs=>by cases hs),fun H2 h2=>by rw[hx H2 h2 d h1];rfl⟩
theorem CG{H2:List (Nat×Option Ob)}(hh:Has H H2){t:TypeId}{p d:D}(h:fD E ⟨T,H⟩ t p=some d):fD E ⟨T,H2⟩ t p=some d:=by
 unfold fD at h ⊢;dsimp only at h ⊢;split at h
 ·cases h
 ·rename_i cs off hc;rw[AX hh hc];exact h
theorem yn{H2:List (Nat×Option Ob)}(hh:Has H H2){t:TypeId}{x k d:D}{ok:Bool}(h:gD E ⟨T,H⟩ t x k ok=some d):gD E ⟨T,H2⟩ t x k ok=some d:=by
 unfold gD at h ⊢;split at h
 ·cases h
 ·split at h
  ·rename_i hk;rw[if_pos hk];split at h
   ·rename_i ks vs z hm hz;simp only[Fk hh hm,hz];exact h
   ·cases h
  ·cases h
def Env.calm(E:Env):Prop:=E.nst=false∧∀k,E.inl k=none
theorem wI(h:E.calm)(g:D):wu E g=none:=by
 unfold wu;split
 ·rw[h.2]
 ·rfl
theorem HW(hns:E.calm)(hst:∀c f g,o.op= .call c→c.callee= .value f→St.val E ⟨T,H⟩ f=some g→jZ E g=none)(hk:kd E.P o= .rd)(h:cS E ⟨T,H⟩ o=some (d,σ')):∃ss,σ'=⟨T,bN H ss⟩∧Lives H ss∧∀H2,Has H H2→cS E ⟨T,H2⟩ o=some (d,⟨T,bN H2 ss⟩):=by
 unfold kd at hk;unfold cS at h ⊢;cases ho:o.op<;>simp only[ho,reduceCtorEq] at hk
 case makeMap t r=>cases r<;>cases hk
 all_goals simp only[ho,fun H2=>gH E T H H2,fun H2=>pE E T H H2,fun H2=>pF E T H H2,fun H2=>qs E T H H2,fun H2=>uG E T H H2] at h ⊢
 case load t x=>
  split at h
  ·rename_i p hp;simp only[hns.1,Bool.false_and] at h ⊢;exact su (x:=fun H=>fD E ⟨T,H⟩ t p) (fun H2 h2 d h=>CG h2 h) h
  ·cases h
 case lookup t x k ok=>
  split at h
  ·rename_i p q hp hq;exact su (x:=fun H=>gD E ⟨T,H⟩ t p q ok) (fun H2 h2 d h=>yn h2 h) h
  ·cases h
 case buildSlice t n ps=>
  split at h
  ·rename_i l hl;unfold dz at h ⊢;split at h
   ·cases h
   ·rename_i e he;dsimp only at h ⊢;split at h
    ·rename_i n' z ps' ss hn hz hs;split at h
     ·rename_i hc;split at h
      ·rename_i cs hf;simp only[za0,zb3] at h;obtain⟨rfl,rfl⟩:=h;refine⟨ss,rfl,(j2 (Has.refl H) _ _ _ hs).1,fun H2 h2=> ?_⟩;simp only[hn,hz,(j2 h2 _ _ _ hs).2,hc,if_true,hf];rfl
      ·cases h
     ·cases h
    ·cases h
  ·cases h
 case slice t x lo hi mx=>
  split at h
  ·exact su (x:=fun _=>eN E ⟨T,H⟩ o) (fun H2 _ d h=>h) h
  ·rename_i dx hx;split at h
   ·rename_i l hh hlo hhi;unfold ec at h ⊢;split at h
    ·split at h
     ·rename_i d0 hd0;cases h;exact⟨[],rfl,(fun s hs=>by cases hs),fun H2 h2=>by first|rfl|simp_all⟩
     ·cases h
    ·rename_i e he;dsimp only at h ⊢;split at h
     ·rename_i y hy;unfold ue at h ⊢;split at h
      ·split at h
       ·rename_i hc;simp only[za0,zb3] at h;obtain⟨rfl,rfl⟩:=h;refine⟨[],rfl,(fun s hs=>by cases hs),fun H2 h2=> ?_⟩;simp only[if_pos hc];rfl
       ·cases h
      ·cases h
     split at h
     ·rename_i n full len cs ss hn hs;split at h
      ·rename_i lo' hi' hl' hh';split at h
       ·rename_i hc;simp only[za0,zb3] at h;obtain⟨rfl,rfl⟩:=h;refine⟨ss,rfl,ix _ _ _ _ hs,fun H2 h2=> ?_⟩;simp only[hn,fL h2 _ _ _ hs,hl',hh',hc,and_self,if_true];rfl
       ·cases h
      ·cases h
     ·rename_i n ss hn hs;split at h
      ·rename_i lo' hi' _ _;split at h
       ·rename_i hc;simp only[za0,zb3] at h;obtain⟨rfl,rfl⟩:=h;refine⟨[],rfl,(fun s hs=>by cases hs),fun H2 h2=> ?_⟩;simp only[hn,fL h2 _ _ _ hs,hc,and_self,if_true];rfl
       ·cases h
      ·cases h
     ·cases h
   ·cases h
  ·cases h
 case call c=>
  split at hk
  ·rename_i f hc;simp only[hc] at h ⊢;split at h
   ·rename_i g as hg has;have hmu:jZ E g=none:=hst c f g ho hc hg;have hoo:nh E g=none:=by
     have:jZ E g=none:=hmu;unfold nh;rw[this]
    simp only[wI hns,hoo] at h ⊢;have hmo:∀as,ug E g as=none:=fun as=>by
     have:jZ E g=none:=hmu;unfold ug;rw[this]
    simp only[hmo] at h ⊢;unfold g7 at h ⊢;split at h
    ·rename_i k first caps
     dsimp only at h ⊢;split at h
     ·cases h
     ·rename_i ds ss hs;have hL:=mw (H:=H) (ix (H:=H) depth) _ _ _ hs;split at h
      ·cases h
      ·rename_i r hr;simp only[za0,zb3] at h;obtain⟨rfl,rfl⟩:=h;by_cases hp:r.plain=true
       ·rw[if_pos hp];refine⟨[],rfl,(fun s hs=>by cases hs),fun H2 h2=> ?_⟩;simp only[kE (fL h2 depth) _ _ hs,hr,if_pos hp];rfl
       ·rw[if_neg hp];refine⟨ss,rfl,hL,fun H2 h2=> ?_⟩;simp only[kE (fL h2 depth) _ _ hs,hr,if_neg hp];rfl
    ·cases h
   ·cases h
  ·cases hk
  ·cases hk
  ·rename_i hc;split at hk
   ·rename_i t ht;simp only[hc,ht] at h ⊢;split at h
    ·rename_i x t' ha ht';cases ht';split at h
     ·rename_i hx hu;simp only[hu] at hk;cases hk
     ·rename_i dx k' e' hx hu;exact su (x:=fun H=>nN H dx) (fun H2 h2 d h=>CF h2 h) h
     ·rename_i hx hu;simp only[hu] at hk;cases hk
     ·cases h
    ·cases h
   ·cases hk
  ·cases hk
end
end Go.Pd
end
