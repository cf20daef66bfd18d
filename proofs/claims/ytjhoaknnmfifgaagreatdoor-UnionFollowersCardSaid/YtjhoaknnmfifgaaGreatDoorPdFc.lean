import Derived.Test.YtjhoaknnmfifgaaGreatDoorPdFb
import Derived.MapKept
import Derived.WalkSpells
import Derived.RangeFuncCalls
import Derived.Orders
section
namespace Go.Pd
open Go.RowKit
section
variable {E:Env}{I0:Nat→Prop}{B:Nat→Prop}{I:Nat→Prop}{A:Nat→Nat→Option Gh}{σ:St}{a:Act}{w:World}{G:Nat→Nat}
theorem ta{f:Value→Value→Bool}:∀{l:List Value},(∀v∈l,f v v=true)→((l.zip l).all fun x=>f x.1 x.2)=true
 |[],_=>rfl
 |v::l,h=>by
  simp only[List.zip_cons_cons,List.all_cons,h v (za4 ..),Bool.true_and];exact ta fun u hu=>h u (za5 _ hu)
theorem yf{k:D}{v:Value}(hv:RelV I A G w k v){P:Program}{t:TypeId}(hkk:cG P t k=true)(n:Nat):Instr.sameBits (n+1) v v=true:=by
 have hkk0:=hkk;unfold cG at hkk;split at hkk
 ·rw[hv.int_inv];simp[Instr.sameBits]
 ·rw[hv.str_inv];simp[Instr.sameBits,(MapKept.bytes_beq _ _).2 rfl]
 ·rw[hv.bool_inv];simp[Instr.sameBits]
 ·obtain⟨fs,hu,_,hkf⟩:=dO hkk0;obtain⟨vs,h1,h2,_⟩:=fy hkf;rw[hv.toV1 (u:= .agg vs.toArray) (by simp[D.toV1,h1])];unfold Instr.sameBits;simp only[beq_self_eq_true,Bool.true_and];refine ta (f:=fun x y=>Instr.sameBits n x y) fun v hv=> ?_;rcases h2 v hv with⟨k,a,rfl⟩|⟨s,rfl⟩|⟨b,rfl⟩
  ·cases n<;>simp[Instr.sameBits]
  ·cases n<;>simp[Instr.sameBits,(MapKept.bytes_beq _ _).2 rfl]
  ·cases n<;>simp[Instr.sameBits]
 ·cases hkk
def cV(w:World)(b:Nat)(o:Obj):World:={w with heap:=w.heap.setIfInBounds b o}
theorem cg(w:World)(b:Nat)(o:Obj):(cV w b o).heap.size=w.heap.size:=by simp[cV]
theorem cr(w:World)(b:Nat)(o:Obj){k:Nat}(h:k≠b):(cV w b o).heap[k]?=w.heap[k]?:=by
 simp[cV,Ne.symm h]
theorem c7{w:World}{b:Nat}{o:Obj}(h:b<w.heap.size):(cV w b o).heap[b]?=some o:=by
 simp[cV,h]
theorem iM{B:Nat→Prop}{w:World}{b:Nat}(hb:¬B b)(o:Obj):Blw B w (cV w b o):=
 ⟨rfl,rfl,rfl,by simp[cV],fun k hk=>cr w b o (fun e=>hb (e▸hk))⟩
theorem mH{P:Program}{t:TypeId}{k:D}(h:cG P t k=true):Clo k:=by
 have h0:=h;unfold cG at h;split at h
 ·exact .atom rfl
 ·exact .atom rfl
 ·exact .atom rfl
 ·obtain⟨fs,hu,_,hkf⟩:=dO h0;obtain⟨vs,h1,h2,h3⟩:=fy hkf;exact .agg _ fun d hd=>by
   rcases h3 d hd with⟨k,a,rfl⟩|⟨s,rfl⟩|⟨b,rfl⟩<;>exact .atom rfl
 ·cases h
theorem tc(h:Inv I0 B I A σ a w){t kt et:TypeId}{s g:Nat}{ks vs:List D}{k x:D}{σ':St}(hmt:fP E.P t=some (kt,et))(hkk:cG E.P kt k=true)(hl:bw σ.H s g=some (.mrf ks vs false))(hs:gv σ s ks vs k x=some σ'){vm vk vx:Value}(hm:RelV I A (bx σ.H) w (.mloc s g) vm)(hk:RelV I A (bx σ.H) w k vk)(hx:RelV I A (bx σ.H) w x vx):
  ∃w',(Instr.mapUpdate t vm vk vx).run E.P w= .ok () w'∧Step I0 B I a w (.tup []) σ' undef w':=by
 obtain⟨kd,hkd⟩:=g7 hkk;unfold gv at hs;split at hs
 ·rename_i s1 g1 len;split at hs
  ·rename_i e n cs hl1 hf;simp only[za0] at hs;subst hs;obtain⟨y,hy,hyB,es,ck,hb,hkl,hvl,hkr,hvr,hfr,hclo⟩:=h.ob s g _ hl;have hnI:¬I y.b:=fun hi=>by have:=hfr.2 hi;cases this
   obtain⟨y1,hy1,hyB1,hok1⟩:=h.ob s1 g1 _ hl1;have hok1':=hok1;obtain⟨c,hb1,_,_,_,_,_,hfr1,_⟩:=hok1';have hnI1:¬I y1.b:=fun hi=>by have:=hfr1.2 hi;cases this
   have hne:s1≠s:=fun e=>by
    subst e;have h1:=bZ hl1;have h2:=bZ hl;have:g1=g:=by omega
    subst this;rw[hl] at hl1;cases hl1
   obtain⟨hx1,hx2⟩:=hx.own_inv hy1;obtain⟨A1,k1,kA,kN,kR⟩:=h.kill s1 (db hl1);have k2:=k1.grow;have hlen:σ.H.length<((σ.setOb s1 none).grow).H.length:=by simp[St.grow,St.setOb]
   have hg0:bx ((σ.setOb s1 none).grow).H σ.H.length=0:=by
    show bx ((σ.H.set s1 (bx σ.H s1,none))++[(0,none)]) σ.H.length=0;rw[genH_grow];simp[bx]
   have hgg:bx ((σ.setOb s1 none).grow).H=bx (σ.setOb s1 none).H:=funext (genH_grow _);obtain⟨A2,m1,m2,m3,m4⟩:=k2.new (x:=y1) (o:= .arr e n cs false) hlen (w':=w) (hyB1.resolve_left hnI1) (fun s' g' z hz ez=>by
     by_cases es':s'=s1
     ·subst es';rw[kN] at hz;cases hz
     ·rw[kA _ _ es'] at hz;exact es' (h.inj _ _ _ _ _ _ hz hy1 ez).1) (zb0 _) (fun _ _=>rfl) (fun _ _ _ _=>rfl)
    (fun A' G' hR=>hok1.carry (fun d v hr=>hR d v (by rw[hgg];exact kR d v hr)) rfl Iff.rfl)
    (fun z j b hb=>by
     obtain⟨q0,q1,q2,q3,q4,q5,q6,q7,q8,q9,q10,r1,r2,r3⟩:=hb;have hz:RowAt A σ.H w z j b:=RowAt.unkill ⟨q0,q1,q2,q3,q4,q5,q6,q7,q8,q9,q10,r1,(by rw[←kE];exact r2),r3⟩ kA kN;exact⟨fun e=>(h.rw.sep z j b hz).2.2.2 _ _ _ hy1 e,rfl⟩)
   rw[hg0] at m2;have hsl:s<σ.H.length:=db hl;have hA2:A2 s g=some y:=by rw[m4,if_neg (by omega),kA _ _ (Ne.symm hne)];exact hy
   have hls:bw (((σ.setOb s1 none).grow).newOb σ.H.length (.arr e n cs false)).H s g=some (.mrf ks vs false):=by
    simp only[St.newOb];rw[bW (by omega)];show bw ((σ.H.set s1 (bx σ.H s1,none))++[(0,none)]) s g=_;rw[kE,bW hne];exact hl
   have hR2:∀d v,RelV I A (bx σ.H) w d v→RelV I A2 (bx (((σ.setOb s1 none).grow).newOb σ.H.length (.arr e n cs false)).H) w d v:=fun d v hr=>m3 d v (by rw[hgg];exact kR d v hr);have hlt:y.b<w.heap.size:=(zb7.1 hb).1;have hu:=g8 hmt;have hck:=iL (w:=w) hkk hk false 9998;rw[hm.mloc_inv hy];have hfn:=jG hk hkd hkk hf (es:=es.toList) (by simpa using hkl) (fun j d e hd he=>hkr j d e hd (by simpa using he));have hgl:0<bx (((σ.setOb s1 none).grow).newOb σ.H.length (.arr e n cs false)).H σ.H.length:=by
    simp only[St.newOb];rw[cA hlen];exact Nat.succ_pos _
   have hvx:RelV I A2 (bx (((σ.setOb s1 none).grow).newOb σ.H.length (.arr e n cs false)).H) w (.own σ.H.length 0 len) vx:=by
    rw[hx1];cases hx with
    |clo hx=>cases hx
    |own _ _ _ ad cap hg hlc hh=>
     obtain⟨e1,e2,_⟩:=hh _ hy1;refine .own _ _ _ _ _ hgl (by rw[←e2];exact hlc) fun z hz=> ?_;rw[m2] at hz;cases hz;exact⟨rfl,rfl,hx2⟩
   have hok:(∀d v,RelV I A2 (bx (((σ.setOb s1 none).grow).newOb σ.H.length (.arr e n cs false)).H) w d v→RelV I A2 (bx (((σ.setOb s1 none).grow).newOb σ.H.length (.arr e n cs false)).H) (cV w y.b (.map (es.push {key:=vk,val:=vx,born:=ck}) (ck+1))) d v)→
     OkOb I A2 (bx (((σ.setOb s1 none).grow).newOb σ.H.length (.arr e n cs false)).H) (cV w y.b (.map (es.push {key:=vk,val:=vx,born:=ck}) (ck+1))) y (.mrf (ks++[k]) (vs++[.own σ.H.length 0 len]) false):=by
    intro hR;refine⟨_,_,c7 hlt,by simp[hkl],by simp[hvl],fun j' d e' hd he=> ?_,fun j' d e' hd he=> ?_,⟨(fun hh=>by cases hh),fun hi=>absurd hi hnI⟩,fun d hd=> ?_⟩
    ·rw[Array.getElem?_push] at he;by_cases ej:j'=es.size
     ·rw[if_pos ej] at he;cases he;rw[zb5 (by omega),ej,hkl] at hd;simp at hd;subst hd;exact hR _ _ (hR2 _ _ hk)
     ·rw[if_neg ej] at he;have hj:=(zb7.1 he).1;rw[zb6 (by omega)] at hd;exact hR _ _ (hR2 _ _ (hkr j' d e' hd he))
    ·rw[Array.getElem?_push] at he;by_cases ej:j'=es.size
     ·rw[if_pos ej] at he;cases he;rw[zb5 (by omega),ej,hvl] at hd;simp at hd;subst hd;exact hR _ _ hvx
     ·rw[if_neg ej] at he;have hj:=(zb7.1 he).1;rw[zb6 (by omega)] at hd;exact hR _ _ (hR2 _ _ (hvr j' d e' hd he))
    ·rcases za9.1 hd with h2|h2
     ·exact hclo d h2
     ·rw[zc8.1 h2];exact mH hkk
   obtain⟨hi',hR⟩:=m1.set (o':= .mrf (ks++[k]) (vs++[.own σ.H.length 0 len]) false) hls hA2 hnI (w':=cV w y.b (.map (es.push {key:=vk,val:=vx,born:=ck}) (ck+1))) (cg _ _ _) (fun b hb'=>cr w y.b _ hb') hok;refine⟨cV w y.b (.map (es.push {key:=vk,val:=vx,born:=ck}) (ck+1)),?_,I,A2,hi',f9,fun _ hb=>hb,fun b hb'=>cr w y.b _ (fun e=>hnI (e▸hb')),iM (hyB.resolve_left hnI) _⟩;simp only[Instr.mapUpdate,Sem.run_bind,run_underlying hu,Result.andThen_ok,getObj,Sem.run,hb,hck,hfn,setObj,cV]
  ·cases hs
 ·cases hs
theorem jH(h:Inv I0 B I A σ a w){t:TypeId}{m k x:D}{σ':St}(hs:cD E σ t m k x=some σ'){vm vk vx:Value}(hm:RelV I A (bx σ.H) w m vm)(hk:RelV I A (bx σ.H) w k vk)(hx:RelV I A (bx σ.H) w x vx):
  ∃w',(Instr.mapUpdate t vm vk vx).run E.P w= .ok () w'∧Step I0 B I a w (.tup []) σ' undef w':=by
 unfold cD at hs;split at hs
 ·rename_i kt et s g hmt;split at hs
  ·rename_i hkk;obtain⟨kd,hkd⟩:=g7 hkk;split at hs
   ·rename_i ks vs hl;split at hs
    ·cases hs
    ·rename_i x' ss hsn;split at hs
     ·cases hs
     ·rename_i hns;have hns':s∉ss:=by simpa using hns
      obtain⟨b1,b2⟩:=cC h depth _ _ _ hsn;obtain⟨hfz,hRf⟩:=h.freeze ss b1.free;obtain⟨y,hy,hyB,es,ck,hb,hkl,hvl,hkr,hvr,hfr,hclo⟩:=h.ob s g _ hl;have hnI:¬I y.b:=fun hi=>by have:=hfr.2 hi;cases this
      have hnI':¬dI I A ss y.b:=by
       rintro (hi|⟨s',hs',g',y',hy',hb'⟩)
       ·exact hnI hi
       ·exact hns' ((h.inj _ _ _ _ _ _ hy hy' hb').1▸hs')
      have hlf:bw (σ.freeze ss).H s g=some (.map ks vs false):=by
       have:=cq ss σ.H s g;simpa [hns',hl,St.freeze] using this
      have hlt:y.b<w.heap.size:=(zb7.1 hb).1;have hu:=g8 hmt;have hck:=iL (w:=w) hkk hk false 9998;rw[hm.mloc_inv hy];have hck2:Clo k:=mH hkk;have hcx:Clo x':=(b2 vx hx).clo;have fin:∀(ks' vs':List D) (es':Array MapEntry) (ck':Nat),ks'.length=es'.size→vs'.length=es'.size→
        (∀(j:Nat) (d:D) (e:MapEntry),ks'[j]?=some d→es'[j]?=some e→RelV (dI I A ss) A (bx (σ.freeze ss).H) w d e.key)→(∀(j:Nat) (d:D) (e:MapEntry),vs'[j]?=some d→es'[j]?=some e→RelV (dI I A ss) A (bx (σ.freeze ss).H) w d e.val)→(∀d,(d∈ks'∨d∈vs')→Clo d)→
        Step I0 B I a w (.tup []) ((σ.freeze ss).setOb s (some (.map ks' vs' false))) undef (cV w y.b (.map es' ck')):=by
       intro ks' vs' es' ck' h1 h2 h3 h4 h5;obtain⟨hi',hR⟩:=hfz.set (o':= .map ks' vs' false) hlf hy hnI' (w':=cV w y.b (.map es' ck')) (cg _ _ _) (fun b hb'=>cr w y.b _ hb') (fun hR=>
        ⟨es',ck',c7 hlt,h1,h2,fun j d e hd he=>hR _ _ (h3 j d e hd he),fun j d e hd he=>hR _ _ (h4 j d e hd he),⟨(fun hh=>by cases hh),fun hi=>absurd hi hnI'⟩,h5⟩)
       exact⟨dI I A ss,A,hi',f9,fun _ hb=> .inl hb,fun b hb'=>cr w y.b _ (fun e=>hnI (e▸hb')),iM (hyB.resolve_left hnI) _⟩
      split at hs
      ·rename_i i hf;simp only[za0] at hs;subst hs;obtain⟨j,e,dk,rfl,he,hdk,heq,hfn⟩:=jG hk hkd hkk hf (es:=es.toList) (by simpa using hkl) (fun j d e hd he=>hkr j d e hd (by simpa using he));rw[Nat.zero_add] at hfn ⊢;have he':es[j]?=some e:=by simpa using he
       have hjlt:j<es.size:=(zb7.1 he').1;have hdk':=vw heq;subst hdk';have hke:e.key=vk:=by
        have r1:=hkr j _ e hdk he';obtain⟨u,hu'⟩:=s5 hkk;rw[r1.toV1 hu',hk.toV1 hu']
       have hkts:(Instr.keyThatStays (((es[j]?).map (·.key)).getD vk) vk).run E.P w= .ok vk w:=by
        rw[he'];simp only[Option.map_some,Option.getD_some,hke];simp[Instr.keyThatStays,yf hk hkk]
       refine⟨cV w y.b (.map (es.modify j fun e=>{e with key:=vk,val:=vx}) ck),?_,fin _ _ _ _ (by simpa using hkl) (by simpa using hvl) (fun j' d e' hd he=> ?_) (fun j' d e' hd he=> ?_) (fun d hd=>by
        rcases hd with h1|h1
        ·exact hclo d (.inl h1)
        ·rcases List.mem_or_eq_of_mem_set h1 with h2|h2
         ·exact hclo d (.inr h2)
         ·rw[h2];exact hcx)⟩
       ·simp only[Instr.mapUpdate,Sem.run_bind,run_underlying hu,Result.andThen_ok,getObj,Sem.run,hb,hck,hfn,hkts,setObj,cV]
       ·rw[Array.getElem?_modify] at he;by_cases ej:j=j'
        ·subst ej;rw[if_pos rfl,he'] at he;simp only[Option.map_some,za0] at he;subst he;rw[hdk] at hd;cases hd;exact hRf _ _ hk
        ·rw[if_neg ej] at he;exact hRf _ _ (hkr j' d e' hd he)
       ·rw[Array.getElem?_modify] at he;by_cases ej:j=j'
        ·subst ej;rw[if_pos rfl,he'] at he;simp only[Option.map_some,za0] at he;subst he;rw[List.getElem?_set_self (by omega)] at hd;cases hd;exact .clo (b2 vx hx)
        ·rw[if_neg ej] at he;rw[List.getElem?_set_ne ej] at hd;exact hRf _ _ (hvr j' d e' hd he)
      ·rename_i hf;simp only[za0] at hs;subst hs;have hfn:=jG hk hkd hkk hf (es:=es.toList) (by simpa using hkl) (fun j d e hd he=>hkr j d e hd (by simpa using he));refine⟨cV w y.b (.map (es.push {key:=vk,val:=vx,born:=ck}) (ck+1)),?_,fin _ _ _ _ (by simp[hkl]) (by simp[hvl]) (fun j' d e' hd he=> ?_) (fun j' d e' hd he=> ?_) (fun d hd=>by
        rcases hd with h1|h1
        ·rcases za9.1 h1 with h2|h2
         ·exact hclo d (.inl h2)
         ·rw[zc8.1 h2];exact hck2
        ·rcases za9.1 h1 with h2|h2
         ·exact hclo d (.inr h2)
         ·rw[zc8.1 h2];exact hcx)⟩
       ·simp only[Instr.mapUpdate,Sem.run_bind,run_underlying hu,Result.andThen_ok,getObj,Sem.run,hb,hck,hfn,setObj,cV]
       ·rw[Array.getElem?_push] at he;by_cases ej:j'=es.size
        ·rw[if_pos ej] at he;cases he;rw[zb5 (by omega),ej,hkl] at hd;simp at hd;subst hd;exact hRf _ _ hk
        ·rw[if_neg ej] at he;have hj:=(zb7.1 he).1;rw[zb6 (by omega)] at hd;exact hRf _ _ (hkr j' d e' hd he)
       ·rw[Array.getElem?_push] at he;by_cases ej:j'=es.size
        ·rw[if_pos ej] at he;cases he;rw[zb5 (by omega),ej,hvl] at hd;simp at hd;subst hd;exact .clo (b2 vx hx)
        ·rw[if_neg ej] at he;have hj:=(zb7.1 he).1;rw[zb6 (by omega)] at hd;exact hRf _ _ (hvr j' d e' hd he)
      ·cases hs
   ·rename_i ks vs hl;split at hs
    ·exact tc h hmt hkk hl hs hm hk hx
    ·cases hs
   ·cases hs
  ·cases hs
 ·cases hs
theorem yg(h:Inv I0 B I A σ a w)(hB:∀k,B k→k<w.heap.size){dst:Option Tmp}{d:D}{σ':St}{b:Bool}(hn:cj σ dst (Dr b) (fun s g=> .mloc s g)=some (d,σ'))(t:TypeId):
  ∃u w',(Instr.makeMap t none).run E.P w= .ok u w'∧Step I0 B I a w d σ' u w':=by
 refine⟨.map (some w.heap.size),w.alloc (.map #[] 0),by simp[Instr.makeMap],?_⟩;cases b with
 |true=>
  refine jC (w1:=w) (x:=⟨w.heap.size,0,0⟩) h hB hn (fun _ _=>rfl) (Blw.refl _ _) rfl rfl rfl (fun A' G' hR=> ?_) (fun s g A' G' hA hg=> ?_)
  ·exact⟨#[],0,cT w _,rfl,rfl,(fun j d e hd=>by simp at hd),(fun j d e hd=>by simp at hd),⟨(fun hh=>by cases hh),fun hi=>by have:=h.iw _ hi;exact absurd this (zc5 _)⟩,fun d hd=>by cases hd⟩
  ·exact .mloc _ _ _ hg fun y hy=>by rw[hA] at hy;cases hy;rfl
 |false=>
  refine jC (w1:=w) (x:=⟨w.heap.size,0,0⟩) h hB hn (fun _ _=>rfl) (Blw.refl _ _) rfl rfl rfl (fun A' G' hR=> ?_) (fun s g A' G' hA hg=> ?_)
  ·exact⟨#[],0,cT w _,rfl,rfl,(fun j d e hd=>by simp at hd),(fun j d e hd=>by simp at hd),⟨(fun hh=>by cases hh),fun hi=>by have:=h.iw _ hi;exact absurd this (zc5 _)⟩,fun d hd=>by rcases hd with h|h<;>cases h⟩
  ·exact .mloc _ _ _ hg fun y hy=>by rw[hA] at hy;cases hy;rfl
theorem vA(h:Inv I0 B I A σ a w)(hB:∀k,B k→k<w.heap.size){dst:Option Tmp}{t:TypeId}{x d:D}{σ':St}(hn:iH E σ dst t x=some (d,σ')){v:Value}(hv:RelV I A (bx σ.H) w x v):
  ∃u w',(Instr.range t v).run E.P w= .ok u w'∧Step I0 B I a w d σ' u w':=by
 unfold iH at hn;split at hn
 ·rename_i s hu;rw[hv.str_inv];refine⟨.pointer (some ⟨w.heap.size,0,none⟩),w.alloc (.stringIter s 0),by simp[Instr.range,run_underlying hu],?_⟩;refine jC (w1:=w) (x:=⟨w.heap.size,0,0⟩) h hB hn (fun _ _=>rfl) (Blw.refl _ _) rfl rfl rfl (fun A' G' hR=> ?_) (fun s g A' G' hA hg=> ?_)
  ·exact⟨cT w _,fun hi=>by have:=h.iw _ hi;exact absurd this (zc5 _)⟩
  ·exact .loc _ _ _ _ hg fun y hy=>by rw[hA] at hy;cases hy;rfl
 ·cases hn
theorem yi(h:Inv I0 B I A σ a w){x d:D}{σ':St}(hs:gY σ x=some (d,σ')){v:Value}(hv:RelV I A (bx σ.H) w x v)(ty:TypeId):
  ∃u w',(Instr.next v true ty).run E.P w= .ok u w'∧Step I0 B I a w d σ' u w':=by
 unfold gY at hs;split at hs
 ·rename_i s g;split at hs
  ·rename_i b pos hl;obtain⟨y,hy,hyB,hb,hnI⟩:=h.ob s g _ hl;rw[hv.loc_inv hy];split at hs
   ·rename_i hlt;simp only[za0,zb2] at hs;obtain⟨rfl,rfl⟩:=hs;refine⟨.tuple #[.bool true,.int .i64 pos,.int .i32 (Utf8.decode b pos).1],cV w y.b (.stringIter b (pos+(Utf8.decode b pos).2)),?_,?_⟩
    ·simp only[Instr.next,Sem.run_bind,getObj,Sem.run,hb,Result.andThen_ok,hlt,if_true,setObj,Sem.run_pure,goInt,cV]
    ·have hlt':y.b<w.heap.size:=(zb7.1 hb).1;obtain⟨hi',hR⟩:=h.set (o':= .sit b (pos+(Utf8.decode b pos).2)) hl hy hnI (w':=cV w y.b (.stringIter b (pos+(Utf8.decode b pos).2))) (cg _ _ _) (fun k hk=>cr w y.b _ hk) (fun hR=>⟨c7 hlt',hnI⟩);refine⟨I,A,hi',.clo (.tup _ _ rfl fun j d' u hd hu=> ?_),fun _ hb=>hb,fun k hk=>cr w y.b _ (fun e=>hnI (e▸hk)),iM (hyB.resolve_left hnI) _⟩
     match j,hd,hu with
     |0,hd,hu=>simp at hd hu;subst hd hu;exact .bool _
     |1,hd,hu=>simp at hd hu;subst hd hu;exact .int _ _
     |2,hd,hu=>simp at hd hu;subst hd hu;exact .int _ _
     |j+3,hd,_=>simp at hd
   ·rename_i hlt;simp only[za0,zb2] at hs;obtain⟨rfl,rfl⟩:=hs;refine⟨.tuple #[.bool false],w,?_,Step.pure h (.clo (.tup _ _ rfl fun j d' u hd hu=> ?_))⟩
    ·simp only[Instr.next,Sem.run_bind,getObj,Sem.run,hb,Result.andThen_ok,hlt,if_false,Sem.run_pure]
    ·match j,hd,hu with
     |0,hd,hu=>simp at hd hu;subst hd hu;exact .bool _
     |j+1,hd,_=>simp at hd
  ·cases hs
 ·cases hs
theorem bT{o:BinOp}{t:TypeId}{x y:Operand}{ad ad':Option Addr}{n c n' c':Nat}:(eqGuard o t x y (.slice ad n c) (.slice ad' n' c')).run E.P w= .ok () w:=by
 cases o<;>rfl
theorem vB{o:BinOp}{t:TypeId}{x y:Operand}{dx dy d:D}(hs:dY E o t dx dy=some d){vx vy:Value}(hx:RelV I A G w dx vx)(hy:RelV I A G w dy vy):
  ∃u,(do eqGuard o t x y vx vy;binOp o t vx vy:Sem Value).run E.P w= .ok u w∧RelV I A G w d u:=by
 unfold dY at hs;split at hs
 ·rename_i e hu;have q1:∀(ad:Addr) (n c:Nat),(binOp .eql t (.slice (some ad) n c) (.slice none 0 0)).run E.P w= .ok (.bool false) w:=fun ad n c=>Lib.run_eql_slice_nil w t e (some ad) n c 0 0 hu;have q2:∀(ad:Addr) (n c:Nat),(binOp .neq t (.slice (some ad) n c) (.slice none 0 0)).run E.P w= .ok (.bool true) w:=fun ad n c=>run_neq_slice_nil_any w t e (some ad) n c 0 0 hu;have q3:∀(ad:Addr) (n c:Nat),(binOp .eql t (.slice none 0 0) (.slice (some ad) n c)).run E.P w= .ok (.bool false) w:=fun ad n c=>run_eql_nil_slice w t e (some ad) n c 0 0 hu;have q4:∀(ad:Addr) (n c:Nat),(binOp .neq t (.slice none 0 0) (.slice (some ad) n c)).run E.P w= .ok (.bool true) w:=fun ad n c=>run_neq_nil_slice w t e (some ad) n c 0 0 hu;have q5:(binOp .eql t (.slice none 0 0) (.slice none 0 0)).run E.P w= .ok (.bool true) w:=Lib.run_eql_slice_nil w t e none 0 0 0 0 hu;have q6:(binOp .neq t (.slice none 0 0) (.slice none 0 0)).run E.P w= .ok (.bool false) w:=run_neq_slice_nil_any w t e none 0 0 0 0 hu;split at hs
  ·rw[hy.nils_inv];rcases hx.osl_inv with⟨rfl,rfl⟩|⟨rfl,ad,n,c,rfl⟩
   ·split at hs<;>(try cases hs)
    ·exact⟨.bool true,by simp only[Sem.run_bind,bT,Result.andThen_ok,q5],.clo (.bool _)⟩
    ·exact⟨.bool false,by simp only[Sem.run_bind,bT,Result.andThen_ok,q6],.clo (.bool _)⟩
   ·split at hs<;>(try cases hs)
    ·exact⟨.bool false,by simp only[Sem.run_bind,bT,Result.andThen_ok,q1],.clo (.bool _)⟩
    ·exact⟨.bool true,by simp only[Sem.run_bind,bT,Result.andThen_ok,q2],.clo (.bool _)⟩
  ·rw[hx.nils_inv];rcases hy.osl_inv with⟨rfl,rfl⟩|⟨rfl,ad,n,c,rfl⟩
   ·split at hs<;>(try cases hs)
    ·exact⟨.bool true,by simp only[Sem.run_bind,bT,Result.andThen_ok,q5],.clo (.bool _)⟩
    ·exact⟨.bool false,by simp only[Sem.run_bind,bT,Result.andThen_ok,q6],.clo (.bool _)⟩
   ·split at hs<;>(try cases hs)
    ·exact⟨.bool false,by simp only[Sem.run_bind,bT,Result.andThen_ok,q3],.clo (.bool _)⟩
    ·exact⟨.bool true,by simp only[Sem.run_bind,bT,Result.andThen_ok,q4],.clo (.bool _)⟩
  ·rw[hy.nils_inv];obtain⟨ad,cap,rfl,_⟩:=lr (k:=0) hx;split at hs<;>(try cases hs)
   ·exact⟨.bool false,by simp only[Sem.run_bind,bT,Result.andThen_ok,q1],.clo (.bool _)⟩
   ·exact⟨.bool true,by simp only[Sem.run_bind,bT,Result.andThen_ok,q2],.clo (.bool _)⟩
  ·rw[hy.nils_inv];split at hs<;>(try (cases hs;done));rename_i hpos;obtain⟨ad,cap,rfl,_⟩:=nX (k:=0) hpos hx;split at hs<;>(try cases hs)
   ·exact⟨.bool false,by simp only[Sem.run_bind,bT,Result.andThen_ok,q1],.clo (.bool _)⟩
   ·exact⟨.bool true,by simp only[Sem.run_bind,bT,Result.andThen_ok,q2],.clo (.bool _)⟩
  ·rw[hy.nils_inv];obtain⟨ad,cap,rfl,_⟩:=hx.win_inv;split at hs<;>(try cases hs)
   ·exact⟨.bool false,by simp only[Sem.run_bind,bT,Result.andThen_ok,q1],.clo (.bool _)⟩
   ·exact⟨.bool true,by simp only[Sem.run_bind,bT,Result.andThen_ok,q2],.clo (.bool _)⟩
  ·rw[hx.nils_inv];obtain⟨ad,cap,rfl,_⟩:=hy.win_inv;split at hs<;>(try cases hs)
   ·exact⟨.bool false,by simp only[Sem.run_bind,bT,Result.andThen_ok,q3],.clo (.bool _)⟩
   ·exact⟨.bool true,by simp only[Sem.run_bind,bT,Result.andThen_ok,q4],.clo (.bool _)⟩
  ·rw[hx.nils_inv];obtain⟨ad,cap,rfl,_⟩:=lr (k:=0) hy;split at hs<;>(try cases hs)
   ·exact⟨.bool false,by simp only[Sem.run_bind,bT,Result.andThen_ok,q3],.clo (.bool _)⟩
   ·exact⟨.bool true,by simp only[Sem.run_bind,bT,Result.andThen_ok,q4],.clo (.bool _)⟩
  ·rw[hx.nils_inv];split at hs<;>(try (cases hs;done));rename_i hpos;obtain⟨ad,cap,rfl,_⟩:=nX (k:=0) hpos hy;split at hs<;>(try cases hs)
   ·exact⟨.bool false,by simp only[Sem.run_bind,bT,Result.andThen_ok,q3],.clo (.bool _)⟩
   ·exact⟨.bool true,by simp only[Sem.run_bind,bT,Result.andThen_ok,q4],.clo (.bool _)⟩
  ·cases hs
 ·rename_i e hu;split at hs
  ·have hg:∀(o:BinOp) (ad:Addr),(eqGuard o t x y (.pointer (some ad)) (.pointer none)).run E.P w= .ok () w:=fun o ad=>by cases o<;>rfl
   have hq:∀(ad:Addr) (d:Nat),(Op.equalIn (d+1) t (.pointer (some ad)) (.pointer none)).run E.P w= .ok false w:=fun ad d=>by simp[Op.equalIn,run_underlying hu]
   have q1:∀(ad:Addr),(binOp .eql t (.pointer (some ad)) (.pointer none)).run E.P w= .ok (.bool false) w:=fun ad=>by simp only[binOp];simp[Op.equal,Op.maxDepth,hq ad 9999]
   have q2:∀(ad:Addr),(binOp .neq t (.pointer (some ad)) (.pointer none)).run E.P w= .ok (.bool true) w:=fun ad=>by simp only[binOp];simp[Op.equal,Op.maxDepth,hq ad 9999]
   have hy:vy= .pointer none:=hy.flat rfl;subst hy;cases hx with
   |clo h=>cases h
   |loc _ _ _ ad _ _=>
    split at hs<;>(try cases hs)
    ·exact⟨.bool false,by simp only[Sem.run_bind,hg,Result.andThen_ok,q1],.clo (.bool _)⟩
    ·exact⟨.bool true,by simp only[Sem.run_bind,hg,Result.andThen_ok,q2],.clo (.bool _)⟩
  ·cases hs
 ·cases hs
theorem vC(h:Inv I0 B I A σ a w){t:TypeId}{x d:D}{σ':St}(hs:gc E σ t x=some (d,σ')){v:Value}(hv:RelV I A (bx σ.H) w x v)(ty:TypeId):∃u w',(Builtin.clear_ #[t] ty #[v]).run E.P w= .ok u w'∧Step I0 B I a w d σ' u w':=by
 unfold gc at hs;split at hs
 ·rename_i e y he hy;obtain⟨s,g,off,len⟩:=y;obtain⟨ad,cap,rfl,hcap,hg,had⟩:=il hy hv;split at hs
  ·rename_i n z e' m cs hn hz hl;simp only at hs hl;split at hs
   ·rename_i h0;simp only[za0,zb2] at hs;obtain⟨rfl,rfl⟩:=hs;subst h0;refine⟨.tuple #[],w,?_,Step.pure h f9⟩;simp[Builtin.clear_,run_underlying (cQ he)]
   ·rename_i h0;split at hs
    ·rename_i hcond;simp only[zc1,zc4] at hcond;obtain⟨hzl,hone,hle⟩:=hcond;simp only[za0,zb2] at hs;obtain⟨rfl,rfl⟩:=hs;obtain⟨x,hx,hxB,c,hb,hcs,hm,hlc,hcl,hrel,hfz,hclo⟩:=h.ob s g _ hl;have hle':x.len*m≤x.cap*m:=Nat.mul_le_mul_right _ hlc;have hnI:¬I x.b:=fun hi=>by have:=hfz.2 hi;cases this
     have had:=(had (by omega) x hx).1;subst had;obtain⟨i,zv,hi,hzv,ho⟩:=eN hz;have hzr0:RelV I (fun _ _=>none) (fun _=>0) w z zv:= .clo (eC ho);obtain⟨c1,c2,c3⟩:=hzr0.cells hone;obtain⟨k1,k2⟩:=n9 (R:=RelC I w) c1 (fun j x u hx hu=>(c2 j x u hx hu).toC) len;have hzs:zv.cells.size=n:=by omega
     obtain⟨zs,hzsd⟩:∃zs,zs=(Builtin.zeroCells zv.cells len).toList:=⟨_,rfl⟩;have hzlen:zs.length=len*n:=by rw[hzsd];simp[Builtin.zeroCells,hzs]
     have hz1:∀u∈zs,u.oneCell'=true:=fun u hu=>by
      rw[hzsd] at hu;unfold Builtin.zeroCells at hu;simp only[Array.toList_map,List.mem_map] at hu;obtain⟨j,hj,rfl⟩:=hu;have hpos:0<zv.cells.size:=by
       rcases Nat.eq_zero_or_pos zv.cells.size with h0|h0
       ·rw[h0,Nat.mul_zero] at hj;simp at hj
       ·exact h0
      have hlt:j%zv.cells.size<zv.cells.size:=Nat.mod_lt _ hpos;rw[getElem!_pos zv.cells _ hlt];exact c3 _ (by simp)
     have hst:=run_storeCells_at (P:=E.P) x.b off e' zs 0 c w hb (by simp only[Nat.add_zero];rw[hzlen];omega) hz1;simp only[Nat.add_zero] at hst;refine⟨.tuple #[],w.setRow x.b (c.toList.take off++zs++c.toList.drop (off+zs.length)).toArray,?_,?_⟩
     ·obtain⟨l',rfl⟩:∃l',len=l'+1:=⟨len-1,by omega⟩;have hzvr:(zeroValue e).run E.P w= .ok zv w:=by
       simp[zeroValue,typeInfo,hi,hzv]
      rw[hzsd] at hst ⊢;simp[Builtin.clear_,run_underlying (cQ he),hzvr,hst]
     ·obtain⟨hi',hR⟩:=h.set (o':= .arr e' m (ch cs off (dJ len z.cells)) false) hl hx hnI (w':=w.setRow x.b (c.toList.take off++zs++c.toList.drop (off+zs.length)).toArray) (by simp) (fun b hb'=>setRow_other w x.b b _ hb') (fun hR=>by
       have hrl:(dJ len z.cells).length=len*n:=by rw[gx,hzl]
       have hzr:∀(j:Nat) (d:D) (v:Value),(dJ len z.cells)[j]?=some d→zs[j]?=some v→RelC I w d v:=fun j d v hd hv=>by
        refine k2 j d v hd ?_;rw[hzsd] at hv;rw[←Array.getElem?_toList];exact hv
       refine⟨_,setRow_heap w x.b c _ e' _ hb,?_,hm,hlc,by rw[d6,hcl],fun j d v hd hv=> ?_,⟨(fun hh=>by cases hh),fun hi=>absurd hi hnI⟩,fun d hd=> ?_⟩
       ·rw[fS _ _ _ (by omega),hcs]
       ·refine hR _ _ (eX (R:=RelV I A (bx σ.H) w) (c:=c.toList) (vs:=zs) (by simp;omega) (by omega) (by omega) (fun j d v hd hv=>hrel j d v hd (by simpa using hv)) (fun j d v hd hv=> .clo (hzr j d v hd hv)) j d v hd (by simpa using hv))
       ·rcases gJ _ _ _ _ hd with h1|h1
        ·exact hclo d h1
        ·obtain⟨j,hj,rfl⟩:=List.getElem_of_mem h1;exact(hzr j _ _ (zc9 hj) (zc9 (by omega:j<zs.length))).clo)
      exact⟨I,A,hi',f9,fun _ hb=>hb,fun b hb'=>setRow_other w x.b b _ (fun e=>hnI (e▸hb')),eW (hxB.resolve_left hnI) _⟩
    ·cases hs
  ·cases hs
 ·cases hs
theorem qd(h:Inv I0 B I A σ a w){t t2:TypeId}{e e':TypeId}{s g off len n n' m:Nat}{cs news:List D}{ss:List Nat}(b1:Sites σ.H ss)(hns:s∉ss){vy:Value}{vnews:List Value}{ad:Addr}{cap:Nat}(ty:TypeId)
  (k1:vu w vy m vnews) (k2:vnews.length=news.length) (k3:∀(j:Nat) (x:D) (u:Value),news[j]?=some x→vnews[j]?=some u→RelC (dI I A ss) w x u) (k4:∀u∈vnews,u.oneCell'=true)
  (had:0<len→∀y,A s g=some y→ad=⟨y.b,off,none⟩) (he:fN E.P t=some e) (hn:sz E.P e=some n) (hl:bw σ.H s g=some (.arr e' n' cs false)) (hnl:news.length=m*n) (hle:off+len*n≤cs.length):
  ∃u w',(Builtin.copy_ #[t,t2] ty #[.slice (some ad) len cap,vy]).run E.P w= .ok u w'∧Step I0 B I a w (.int .i64 (min m len:Nat)) ((σ.freeze ss).setOb s (some (.arr e' n' (ch cs off (news.take (min m len*n))) false))) u w':=by
 obtain⟨hfz0,hRf⟩:=h.freeze ss b1.free;obtain⟨x,hx,hxB,c,hb,hcs,hm,hlc,hcl,hrel,hfz,hclo⟩:=h.ob s g _ hl;have hnI:¬I x.b:=fun hi=>by have:=hfz.2 hi;cases this
 have hnI':¬dI I A ss x.b:=by
  rintro (hi'|⟨s',hs',g',y',hy',hb'⟩)
  ·exact hnI hi'
  ·exact hns ((h.inj _ _ _ _ _ _ hx hy' hb').1▸hs')
 have hlive':bw (σ.freeze ss).H s g=some (.arr e' n' cs false):=by
  show bw (bF σ.H ss) s g=_;rw[cq,if_neg hns];exact hl
 obtain⟨zs,hzs⟩:∃zs,zs=vnews.take (min m len*n):=⟨_,rfl⟩;have hzl:zs.length=min m len*n:=by
  rw[hzs,zd7,k2,hnl];exact Nat.min_eq_left (Nat.mul_le_mul_right _ (Nat.min_le_left ..))
 have hle1:x.len*n'≤x.cap*n':=Nat.mul_le_mul_right _ hlc;have hle2:min m len*n≤len*n:=Nat.mul_le_mul_right _ (Nat.min_le_right ..);have hz1:∀u∈zs,u.oneCell'=true:=fun u hu=>k4 u (List.mem_of_mem_take (hzs▸hu));have hfirst:(Builtin.firstCells n (min m len) vy).run E.P w= .ok zs.toArray w:=by
  rcases k1 with⟨rfl,rfl,rfl⟩|⟨ad2,cap2,rfl,hc2⟩
  ·simp[Builtin.firstCells,hzs]
  ·have:=run_loadCells_list (P:=E.P) w ad2 zs (fun j v hj=>hc2 j v (by
    rw[hzs,List.getElem?_take] at hj;split at hj
    ·exact hj
    ·cases hj))
   rw[hzl] at this;exact this
 have hlen:(Builtin.lenOf vy).run E.P w= .ok m w:=by
  rcases k1 with⟨rfl,rfl,rfl⟩|⟨ad2,cap2,rfl,_⟩<;>rfl
 have hstore:∃w',(storeCells ad zs).run E.P w= .ok () w'∧w'.heap.size=w.heap.size∧(∀b,b≠x.b→w'.heap[b]?=w.heap[b]?)∧w'.heap[x.b]?=some (.cells (c.toList.take off++zs++c.toList.drop (off+zs.length)).toArray e' (0,0))∧Blw B w w':=by
  rcases Nat.eq_zero_or_pos zs.length with h0|h0
  ·have hz0:zs=[]:=List.eq_nil_of_length_eq_zero h0;refine⟨w,by rw[hz0];rfl,rfl,fun _ _=>rfl,?_,Blw.refl _ _⟩;rw[hb,hz0];simp
  ·have hlp:0<len:=by
    rcases Nat.eq_zero_or_pos len with h1|h1
    ·rw[hzl,h1] at h0;simp at h0
    ·exact h1
   have hd:=had hlp x hx;subst hd;have hst:=run_storeCells_at (P:=E.P) x.b off e' zs 0 c w hb (by simp only[Nat.add_zero];omega) hz1;simp only[Nat.add_zero] at hst;exact⟨_,hst,by simp,fun b hb'=>setRow_other w x.b b _ hb',setRow_heap w x.b c _ e' _ hb,eW (hxB.resolve_left hnI) _⟩
 obtain⟨w',r1,r2,r3,r4,r5⟩:=hstore;refine⟨goInt (min m len:Nat),w',?_,?_⟩
 ·obtain⟨i,hi,rfl⟩:=j7 hn;have hso:(sizeOf e).run E.P w= .ok i.size w:=by simp[sizeOf,typeInfo,hi]
  simp[Builtin.copy_,run_underlying (cQ he),hlen,hso,hfirst,r1]
 ·obtain⟨hi',hR⟩:=hfz0.set (o':= .arr e' n' (ch cs off (news.take (min m len*n))) false) hlive' hx hnI' (w':=w') r2 r3 (fun hR=>by
   have htl:(news.take (min m len*n)).length=zs.length:=by rw[hzs,zd7,zd7,k2]
   have hzr:∀(j:Nat) (d:D) (v:Value),(news.take (min m len*n))[j]?=some d→zs[j]?=some v→RelC (dI I A ss) w d v:=fun j d v hd hv=>by
    rw[List.getElem?_take] at hd;rw[hzs,List.getElem?_take] at hv;split at hd
    ·rename_i hj;rw[if_pos hj] at hv;exact k3 j d v hd hv
    ·cases hd
   refine⟨_,r4,?_,hm,hlc,by rw[d6,hcl],fun j d v hd hv=> ?_,⟨(fun hh=>by cases hh),fun hi=>absurd hi hnI'⟩,fun d hd=> ?_⟩
   ·rw[fS _ _ _ (by omega),hcs]
   ·exact hR _ _ (eX (R:=RelV (dI I A ss) A (bx (σ.freeze ss).H) w) (c:=c.toList) (vs:=zs) (by simp;omega) (by omega) (by omega) (fun j d v hd hv=>hRf _ _ (hrel j d v hd (by simpa using hv))) (fun j d v hd hv=> .clo (hzr j d v hd hv)) j d v hd (by simpa using hv))
   ·rcases gJ _ _ _ _ hd with h1|h1
    ·exact hclo d h1
    ·obtain⟨j,hj,rfl⟩:=List.getElem_of_mem h1;exact(hzr j _ _ (zc9 hj) (zc9 (by omega:j<zs.length))).clo)
  exact⟨_,A,hi',.clo (.int _ _),fun _ hb=> .inl hb,fun b hb'=>r3 b (fun e=>hnI (e▸hb')),r5⟩
theorem yj(h:Inv I0 B I A σ a w){t t2:TypeId}{x y d:D}{σ':St}(hs:iG E σ t x y=some (d,σ')){vx vy:Value}(hvx:RelV I A (bx σ.H) w x vx)(hvy:RelV I A (bx σ.H) w y vy)(ty:TypeId):∃u w',(Builtin.copy_ #[t,t2] ty #[vx,vy]).run E.P w= .ok u w'∧Step I0 B I a w d σ' u w':=by
 unfold iG at hs;split at hs
 ·rename_i e q y' ss he hq hsn;obtain⟨s,g,off,len⟩:=q;obtain⟨ad,cap,rfl,hcap,hg,had⟩:=il hq hvx;split at hs
  ·rename_i n m news e' n' cs hn hnews hl;simp only at hs hl;split at hs
   ·split at hs
    ·rename_i r hr;obtain⟨s2,g2,off2,len2⟩:=r;unfold eK at hs;simp only[hl] at hs;split at hs
     ·rename_i hc;obtain⟨⟨rfl,rfl⟩,hnl,hone,hle⟩:=hc;simp only[za0,zb2] at hs;obtain⟨rfl,rfl⟩:=hs;obtain⟨ad2,cap2,rfl,hcap2,hg2,had2⟩:=il hr hvy;obtain⟨x,hx,hxB,c,hb,hcs,hm,hlc,hcl,hrel,hfz,hclo⟩:=h.ob _ _ _ hl;have hle1:x.len*n'≤x.cap*n':=Nat.mul_le_mul_right _ hlc;have hcc:cs.length≤c.size:=by omega
      have hge:len2*n≤cs.length-off2:=by rw[zd7,zd6] at hnl;omega
      have hcell:∀(j:Nat) (u:Value),((c.toList.drop off2).take (len2*n))[j]?=some u→j<len2*n∧c[off2+j]?=some u:=fun j u hj=>by
       rw[List.getElem?_take] at hj;split at hj
       ·rename_i hlt;rw[List.getElem?_drop] at hj;exact⟨hlt,by simpa using hj⟩
       ·cases hj
      have hrc:∀(j:Nat) (d:D) (u:Value),((cs.drop off2).take (len2*n))[j]?=some d→((c.toList.drop off2).take (len2*n))[j]?=some u→RelC I w d u:=fun j d u hd hu=>by
       obtain⟨hlt,hu⟩:=hcell j u hu;rw[List.getElem?_take,if_pos hlt,List.getElem?_drop] at hd;exact(hrel _ d u hd hu).closed (hclo d (List.mem_of_getElem? hd))
      exact qd (t2:=t2) (vnews:=(c.toList.drop off2).take (len2*n)) (news:=(cs.drop off2).take (len2*n)) (m:=len2) (ss:=[]) h (fun _ h=>by cases h) (fun h=>by cases h) ty
       (.inr ⟨ad2,cap2,rfl,fun j u hj=>by
        obtain⟨hlt,hu⟩:=hcell j u hj;have hp:0<len2:=by rcases Nat.eq_zero_or_pos len2 with h0|h0;(rw[h0,Nat.zero_mul] at hlt;omega);exact h0
        rw[(had2 hp x hx).1,c5 hb];exact hu⟩) (by simp only[zd7,zd6,Array.length_toList];omega) (fun j d u hd hu=>(hrc j d u hd hu).mono (fun b hb=> .inl hb) fun _ _=>rfl) (fun u hu=>by
        obtain⟨j,hj,rfl⟩:=List.getElem_of_mem hu;have hj':j<((cs.drop off2).take (len2*n)).length:=by
         rw[hnl];rw[zd7] at hj;omega
        exact(hrc j _ _ (zc9 hj') (zc9 hj)).one (zd3.1 hone _ (List.getElem_mem _))) (fun hp y hy=>(had hp y hy).1) he hn hl hnl hle
     ·cases hs
    ·cases hs
   ·rename_i hns;have hns:s∉ss:=by simpa using hns
    split at hs
    ·rename_i hc;obtain⟨hnl,hone,hle⟩:=hc;simp only[za0,zb2] at hs;obtain⟨rfl,rfl⟩:=hs;obtain⟨b1,b2⟩:=cC h depth _ _ _ hsn;obtain⟨vnews,k1,k2,k3,k4⟩:=qc h hsn hnews hone hvy;exact qd h b1 hns ty k1 k2 k3 k4 (fun hp y hy=>(had hp y hy).1) he hn hl hnl hle
    ·cases hs
  ·cases hs
 ·cases hs
theorem qe:∀(ns:List Int) (s:ByteArray),ns.foldl (fun r n=>r.push (UInt8.ofNat n.toNat)) s=⟨s.data++(ns.map fun n=>UInt8.ofNat n.toNat).toArray⟩
 |[],s=>by simp
 |n::ns,s=>by
  rw[List.foldl_cons,qe ns];apply ByteArray.ext;apply Array.toList_inj.1;simp[ByteArray.push]
theorem vD{src dst:TypeId}{x:Option D}{d:D}(hs:ll E src dst x=some d){v:Value}(hv:∀dx,x=some dx→RelV I A G w dx v):
  ∃u,(convert src dst v).run E.P w= .ok u w∧RelV I A G w d u:=by
 unfold ll at hs;split at hs
 ·rename_i f len cs;split at hs
  ·rename_i e he hd;split at hs
   ·rename_i bs hu hm;split at hs
    ·rename_i hl;cases hs;have hr:=(hv _ rfl).clo_of (.inr (.inl ⟨f,len,cs,rfl⟩));obtain⟨hml,hmg⟩:=cY hm;have hb:∀(j:Nat) (d:D),cs[j]?=some d→∃n:Int,d= .int .u8 n∧bs[j]?=some (UInt8.ofNat n.toNat):=fun j d hj=>by
      obtain⟨y,hy,hr⟩:=hmg j d hj;unfold Ds at hy;split at hy
      ·rename_i n;cases hy;exact⟨n,rfl,hr⟩
      ·cases hy
     rcases hr.slc_inv with⟨rfl,rfl,rfl⟩|⟨ad,cap,us,rfl,p1,p2,p3,p4,p5⟩
     ·have:bs=[]:=List.length_eq_zero_iff.1 (by simpa using hml.symm);subst this;refine⟨.string .empty,?_,.clo (.str _)⟩;rw[run_convert_bytes_string w src dst e none 0 0 (cQ he) hu hd];simp[Conv.bytesToString,Sem.run_pure]
     ·have hns:∃ns:List Int,ns.length=cs.length∧(∀(j:Nat) (v:Value),(ns.map (Value.int .u8))[j]?=some v→w.cell? (ad.add j)=some v)∧bs=ns.map fun n=>UInt8.ofNat n.toNat:=by
       refine⟨cs.map fun d=>match d with| .int _ n=>n|_=>0,by simp,fun j v hj=> ?_,?_⟩
       ·rw[zc0,zc0] at hj;cases hc:cs[j]? with
        |none=>rw[hc] at hj;cases hj
        |some d=>
         rw[hc] at hj;obtain⟨n,rfl,_⟩:=hb j d hc;cases hj;have h5:us j= .int .u8 n:=(p5 j _ hc).flat rfl;rw[p4 j _ hc,h5]
       ·apply List.ext_getElem?;intro j;rw[zc0,zc0];cases hc:cs[j]? with
        |none=>
         rw[List.getElem?_eq_none_iff] at hc;rw[zd0 (by omega)];rfl
        |some d=>
         obtain⟨n,rfl,h2⟩:=hb j d hc;rw[h2];rfl
      obtain⟨ns,q1,q2,q3⟩:=hns;refine⟨_,?_,.clo (.str _)⟩;rw[run_convert_bytes_string w src dst e (some ad) len cap (cQ he) hu hd];have h3:=run_loadCells_list (P:=E.P) w ad (ns.map (Value.int .u8)) q2;rw[zb9,q1,hl] at h3;rw[run_bytesToString w ad len cap ns h3,qe,q3];simp
    ·cases hs
   ·cases hs
  ·cases hs
 ·cases hs
end
def xj(P:Program)(gl:Nat→Option D)(k:FuncId)(g:lc):Prop:=
 (∀vs w,(callFunc k vs).run P w= .ok (.enter k vs) w)∧
 ∀(I:Nat→Prop) (w:World) (b cap n len:Nat) (e:TypeId) (c:Array Value) (cs rest cs':List D) (m:Option Nat) (vrest:Array Value),
  (∀b,I b→b<w.heap.size)→Gl gl I w→¬I b→w.heap[b]?=some (.cells c e (0,0))→c.size=cap*n→cap≤maxLen→len≤cap→cs.length=len*n→cs.all D.plainZ=true→
  (∀(j:Nat) (d:D) (v:Value),cs[j]?=some d→c[j]?=some v→d.toVZ=some v)→rest.length=vrest.size→(∀(j:Nat) (d:D) (v:Value),rest[j]?=some d→vrest[j]?=some v→RelC I w d v)→
  g cs len rest=some (cs',m)→cs'.all D.plainZ=true→(match m with|none=>cs'.length=cs.length|some m=>cs'.length=m*n∧m≤len)→
  Calls P k (#[.slice (some ⟨b,0,none⟩) len cap]++vrest) w fun en w'=>en= .returned (match m with|none=> .tuple #[]|some m=> .slice (some ⟨b,0,none⟩) m cap)∧
   ∃c',w'.heap[b]?=some (.cells c' e (0,0))∧c'.size=c.size∧(∀(j:Nat) (d:D) (v:Value),cs'[j]?=some d→c'[j]?=some v→d.toVZ=some v)∧
    w.heap.size≤w'.heap.size∧(∀k,k<w.heap.size→k≠b→w'.heap[k]?=w.heap[k]?)∧w'.os=w.os∧w'.tape=w.tape∧w'.output=w.output
def zl(P:Program)(gl:Nat→Option D)(k:FuncId)(p:Nat)(g:List D→Option D):Prop:=
 (∀vs w,(callFunc k vs).run P w= .ok (.enter k vs) w)∧
 ∀(I:Nat→Prop) (w:World) (b cap n len m:Nat) (e:TypeId) (f:Bool) (c:Array Value) (ds cs cs':List D) (r:D) (vs:Array Value),
  (∀b,I b→b<w.heap.size)→Gl gl I w→¬I b→w.heap[b]?=some (.cells c e (0,0))→c.size=cap*n→cap≤maxLen→len≤cap→cs.length=len*n→cs.all D.plain=true→
  (∀(j:Nat) (d:D) (v:Value),cs[j]?=some d→c[j]?=some v→d.toV=some v)→p<ds.length→ds.length=vs.size→vs[p]?=some (.slice (some ⟨b,0,none⟩) len cap)→(∀(j:Nat) (d:D) (v:Value),j≠p→ds[j]?=some d→vs[j]?=some v→RelC I w d v)→
  g (ds.set p (.slc false len cs))=some (.tup [.slc f m cs',r])→cs'.all D.plain=true→cs'.length=cs.length→
  Calls P k vs w fun en w'=>∃v c',en= .returned v∧RelC (fun x=>I x∨(w.heap.size≤x∧x<w'.heap.size)) w' r v∧w'.heap[b]?=some (.cells c' e (0,0))∧c'.size=c.size∧(∀(j:Nat) (d:D) (v:Value),cs'[j]?=some d→c'[j]?=some v→d.toV=some v)∧
    w.heap.size≤w'.heap.size∧(∀k,k<w.heap.size→k≠b→w'.heap[k]?=w.heap[k]?)∧w'.os=w.os∧w'.tape=w.tape∧w'.output=w.output
def zm(P:Program)(gl:Nat→Option D)(k:FuncId)(p:Nat)(g:List D→Option D):Prop:=
 (∀vs w,(callFunc k vs).run P w= .ok (.enter k vs) w)∧
 ∀(I:Nat→Prop) (w:World) (b cap n tot off len capw m:Nat) (e:TypeId) (f:Bool) (c:Array Value) (ds ca cs':List D) (r:D) (vs:Array Value),
  (∀b,I b→b<w.heap.size)→Gl gl I w→¬I b→w.heap[b]?=some (.cells c e (0,0))→c.size=cap*n→cap≤maxLen→tot≤cap→ca.length=tot*n→ca.all D.plain=true→
  (∀(j:Nat) (d:D) (v:Value),ca[j]?=some d→c[j]?=some v→d.toV=some v)→0<len→off+len*n≤ca.length→len≤capw→(off=0→capw=cap)→off+capw*n=cap*n→0<n→p<ds.length→ds.length=vs.size→vs[p]?=some (.slice (some ⟨b,off,none⟩) len capw)→(∀(j:Nat) (d:D) (v:Value),j≠p→ds[j]?=some d→vs[j]?=some v→RelC I w d v)→
  g (ds.set p (.slc false len ((ca.drop off).take (len*n))))=some (.tup [.slc f m cs',r])→cs'.all D.plain=true→cs'.length=len*n→
  Calls P k vs w fun en w'=>∃v c',en= .returned v∧RelC (fun x=>I x∨(w.heap.size≤x∧x<w'.heap.size)) w' r v∧w'.heap[b]?=some (.cells c' e (0,0))∧c'.size=c.size∧(∀(j:Nat) (d:D) (v:Value),(ch ca off cs')[j]?=some d→c'[j]?=some v→d.toV=some v)∧
    w.heap.size≤w'.heap.size∧(∀k,k<w.heap.size→k≠b→w'.heap[k]?=w.heap[k]?)∧w'.os=w.os∧w'.tape=w.tape∧w'.output=w.output
def tf(P:Program)(gl:Nat→Option D)(k:FuncId):Mu→Prop
 | .plc p g=>zl P gl k p g
 | .plw p g=>zm P gl k p g
 |mu=>xj P gl k mu.f
def F2(P:Program)(gl:Nat→Option D)(k:FuncId)(g:List (Nat×Option Ob)→List D→Option (D×List (Nat×Option Ob))):Prop:=
 ∀(I0 B I:Nat→Prop) (A:Nat→Nat→Option Gh) (T:List D) (a:Act) (w:World) (H H':List (Nat×Option Ob)) (ds:List D) (vs:Array Value) (r:D),Inv I0 B I A ⟨T,H⟩ a w→Gl gl I w→(∀k,B k→k<w.heap.size)→g H ds=some (r,H')→
  ds.length=vs.size→(∀(j:Nat) (d:D) (v:Value),ds[j]?=some d→vs[j]?=some v→RelV I A (bx H) w d v)→Calls P k vs w fun e w'=>∃v,e= .returned v∧Step I0 B I a w r ⟨T,H'⟩ v w'
def tg(i:Inl):Prop:=∀{α:Type} (lf:Option D→Option α) (ef:List D→(Bool→Option α)→Option α) (H:List (Nat×Option Ob)) (ds:List D) (c:D→List (Nat×Option Ob)→Tree) (x:α),bI lf ef (i.t H ds c)=some x→∃r H',i.g H ds=some (r,H')∧bI lf ef (c r H')=some x
structure InlOK(P:Program)(gl:Nat→Option D)(k:FuncId)(i:Inl):Prop where
 en:∀vs w,(callFunc k vs).run P w= .ok (.enter k vs) w
 ok:F2 P gl k i.g
 tr:tg i
section
variable {E:Env}{I0:Nat→Prop}{B:Nat→Prop}{I:Nat→Prop}{A:Nat→Nat→Option Gh}{σ:St}{a:Act}{w:World}
theorem qf{l:List D}(h:l.all D.plain=true){j:Nat}{d:D}(hd:l[j]?=some d):d.plain=true:=by
 rw[zd3] at h;exact h d (List.mem_of_getElem? hd)
theorem RelV.toVZ{I:Nat→Prop}{A:Nat→Nat→Option Gh}{G:Nat→Nat}{w:World}{d:D}{v u:Value}(h:RelV I A G w d v)(hd:d.toVZ=some u):v=u:=by
 unfold D.toVZ at hd;split at hd
 ·cases hd;exact(h.closed (.atom rfl)).toVZ rfl
 ·exact h.toV hd
theorem zo{o:Bool}{k:FuncId}{g:lc}(hg:xj E.P E.gl k g)(h:Inv I0 B I A σ a w)(hgl:Gl E.gl I w)(hB:∀k,B k→k<w.heap.size){dst:Option Tmp}{args:List D}{d:D}{σ':St}(hs:lk o σ dst g args=some (d,σ'))
  {vargs:Array Value} (hl:args.length=vargs.size) (hr:∀(j:Nat) (d:D) (v:Value),args[j]?=some d→vargs[j]?=some v→RelV I A (bx σ.H) w d v):
  Calls E.P k vargs w fun e w'=>∃v,e= .returned v∧Step I0 B I a w d σ' v w':=by
 unfold lk at hs;split at hs
 ·rename_i s g0 len rest;split at hs
  ·rename_i e n cs hlive;split at hs
   ·rename_i rest' ss hsn;split at hs
    ·cases hs
    ·rename_i hc;simp only[Bool.or_eq_true,Bool.not_eq_true',not_or,Bool.not_eq_false,zc3] at hc;obtain⟨hns,hpl⟩:=hc;have hns:s∉ss:=by simpa using hns
     have hpl:=lU hpl;obtain⟨a1,a2,a3⟩:=dV (I:=I) (A:=A) (w:=w) (cC h depth) _ _ _ hsn;obtain⟨hfz,hRf⟩:=h.freeze ss a2.free;obtain⟨y,hy,hyB,c,hb,hcs,hm,hlc,hcl,hrel,hfr,hclo⟩:=h.ob s g0 _ hlive;have hnI:¬I y.b:=fun hi=>by have:=hfr.2 hi;cases this
     have hnI':¬dI I A ss y.b:=by
      rintro (hi'|⟨s',hs',g',y',hy',hb'⟩)
      ·exact hnI hi'
      ·exact hns ((h.inj _ _ _ _ _ _ hy hy' hb').1▸hs')
     have hgl':Gl E.gl (dI I A ss) w:=fun g d hg=>(hgl g d hg).mono (fun _ hb=> .inl hb) (fun _ _=>rfl);have hv0:∃v0,vargs[0]?=some v0:=⟨vargs[0]'(by rw[←hl];simp),by simp⟩;obtain⟨v0,hv0⟩:=hv0;obtain⟨hvv,hk⟩:=(hr 0 _ v0 rfl hv0).own_inv hy;subst hk;have hva:vargs= #[v0]++vargs.extract 1 vargs.size:=by
      have h1:0<vargs.size:=by rw[←hl];simp
      have e1:vargs[0]=v0:=by rw[Array.getElem?_eq_getElem h1] at hv0;exact Option.some.inj hv0
      apply Array.ext
      ·simp;omega
      ·intro j hj1 hj2;rw[Array.getElem_append];split
       ·rename_i h2;have:j=0:=by simpa using h2
        subst this;simp[e1]
       ·rename_i h2;simp at h2;simp[show 1+(j-1)=j by omega]
     have hbs:y.b<w.heap.size:=(zb7.1 hb).1;have hcells:∀(j:Nat) (d:D) (v:Value),cs[j]?=some d→c[j]?=some v→d.toVZ=some v:=fun j d v hd hv=>by
      have h1:=hrel j d v hd hv;have hp:=zd3.1 hpl d (List.mem_of_getElem? hd);unfold D.plainZ at hp;obtain⟨u,hu⟩:=Option.isSome_iff_exists.1 hp;rw[hu,h1.toVZ hu]
     have hrest:∀(j:Nat) (d:D) (v:Value),rest'[j]?=some d→(vargs.extract 1 vargs.size)[j]?=some v→RelC (dI I A ss) w d v:=fun j d v hd hv=>by
      obtain⟨d0,hd0,hr0⟩:=a3 j d hd;refine hr0 v (hr (j+1) d0 v (by simpa using hd0) ?_);rw[Array.getElem?_extract] at hv;split at hv
      ·rw[zd4];exact hv
      ·cases hv
     have hrl:rest'.length=(vargs.extract 1 vargs.size).size:=by rw[a1];simp;simp at hl;omega
     rw[hva,hvv];split at hs
     ·
      rename_i cs' hgo;split at hs
      ·rename_i hc2;simp only[zc1,zc4] at hc2;simp only[za0,zb2] at hs;obtain⟨rfl,rfl⟩:=hs;refine(hg.2 (dI I A ss) w y.b y.cap n y.len e c cs rest' cs' none _ hfz.iw hgl' hnI' hb hcs hm hlc hcl hpl hcells hrl hrest hgo (lU hc2.2) hc2.1).mono ?_
       rintro en w' ⟨rfl,c',q1,q2,q3,q4,q5,q6,q7,q8⟩
       refine⟨_,rfl,?_⟩;obtain⟨hi1,hR1⟩:=h.set (o':= .arr e n cs' false) hlive hy hnI (w':=cV w y.b (.cells c' e (0,0))) (cg _ _ _) (fun b hb=>cr _ _ _ hb) (fun hR=>⟨c',c7 hbs,by rw[q2];exact hcs,hm,hlc,by rw[hc2.1];exact hcl,
        fun j d v hd hv=> .clo (lq (q3 j d v hd hv)),⟨(fun hh=>by cases hh),fun hi=>absurd hi hnI⟩,fun d hd=>by
         obtain⟨j,hj,rfl⟩:=List.getElem_of_mem hd;have hjv:j<c'.size:=by rw[q2,hcs];have:=Nat.mul_le_mul_right n hlc;omega
         exact(lq (w:=w) (I:=I) (q3 j _ _ (zc9 hj) (Array.getElem?_eq_getElem hjv))).clo⟩)
       obtain⟨hi2,hR2⟩:=hi1.world (w':=w') (I':=I) (by rw[cg];exact q4) (fun b hb'=>by
        rw[cg] at hb';by_cases e1:b=y.b
        ·subst e1;rw[q1,c7 hbs]
        ·rw[q5 b hb' e1,cr _ _ _ e1]) (fun _ hb=>hb) (fun _ hb=> .inl hb) (by rw[cg];exact hB)
       exact⟨I,A,hi2,f9,fun _ hb=>hb,fun b hb'=>q5 b (h.iw b hb') (fun e1=>hnI (e1▸hb')),⟨q6,q7,q8,q4,fun b hb'=>q5 b (hB b hb') (fun e=>(hyB.resolve_left hnI) (e▸hb'))⟩⟩
      ·cases hs
     ·
      rename_i cs' m hgo;split at hs
      ·rename_i hc2;simp only[zc1,zc4] at hc2;refine(hg.2 (dI I A ss) w y.b y.cap n y.len e c cs rest' cs' (some m) _ hfz.iw hgl' hnI' hb hcs hm hlc hcl hpl hcells hrl hrest hgo (lU hc2.2) hc2.1).mono ?_
       rintro en w' ⟨rfl,c',q1,q2,q3,q4,q5,q6,q7,q8⟩
       refine⟨_,rfl,?_⟩;obtain⟨A1,hk1,hk2,hk3,hk4⟩:=h.kill s (db hlive);have hA1:∀s' g' y',A1 s' g'=some y'→y'.b≠y.b:=fun s' g' y' hy' e=>by
        by_cases es:s'=s
        ·subst es;rw[hk3] at hy';cases hy'
        ·rw[hk2 _ _ es] at hy';exact es (h.inj _ _ _ _ _ _ hy' hy e).1
       exact fx hk1 hs (hyB.resolve_left hnI) hnI hA1 (fun b hb'=>q5 b (h.iw b hb') (fun e1=>hnI (e1▸hb'))) (fun s' g' y' hy'=>q5 _ (hk1.A_lt hy') (hA1 _ _ _ hy')) (fun y' j b' hb'=>by
        obtain⟨p1,_,_,p4⟩:=h.rw.sep _ _ _ (hb'.unkill hk2 hk3);exact⟨p4 _ _ _ hy,q5 b' p1 (Ne.symm (p4 _ _ _ hy))⟩) ⟨q6,q7,q8,q4,fun b hb'=>q5 b (hB b hb') (fun e=>(hyB.resolve_left hnI) (e▸hb'))⟩
        q1 (by rw[q2];exact hcs) hm (by omega) hc2.1.1 (fun j x u hx hu=>lq (q3 j x u hx hu))
      ·cases hs
     ·cases hs
   ·cases hs
  ·cases hs
 ·cases hs
theorem zp{k:FuncId}{p:Nat}{g:List D→Option D}(hg:zl E.P E.gl k p g)(h:Inv I0 B I A σ a w)(hgl:Gl E.gl I w)(hB:∀k,B k→k<w.heap.size){args:List D}{d:D}{σ':St}(hs:mD σ p g args=some (d,σ'))
  {vargs:Array Value} (hl:args.length=vargs.size) (hr:∀(j:Nat) (d:D) (v:Value),args[j]?=some d→vargs[j]?=some v→RelV I A (bx σ.H) w d v):
  Calls E.P k vargs w fun e w'=>∃v,e= .returned v∧Step I0 B I a w d σ' v w':=by
 unfold mD at hs;split at hs
 ·rename_i s g0 len hp;split at hs
  ·rename_i e n cs hlive;split at hs
   ·rename_i ds ss hsn;split at hs
    ·cases hs
    ·rename_i hc;simp only[Bool.or_eq_true,Bool.not_eq_true',not_or,Bool.not_eq_false,zc3] at hc;obtain⟨hns,hpl⟩:=hc;have hns:s∉ss:=by simpa using hns
     obtain⟨a1,a2,a3⟩:=dV (I:=I) (A:=A) (w:=w) (cC h depth) _ _ _ hsn;obtain⟨hfz,hRf⟩:=h.freeze ss a2.free;obtain⟨y,hy,hyB,c,hb,hcs,hm,hlc,hcl,hrel,hfr,hclo⟩:=h.ob s g0 _ hlive;have hnI:¬I y.b:=fun hi=>by have:=hfr.2 hi;cases this
     have hnI':¬dI I A ss y.b:=by
      rintro (hi'|⟨s',hs',g',y',hy',hb'⟩)
      ·exact hnI hi'
      ·exact hns ((h.inj _ _ _ _ _ _ hy hy' hb').1▸hs')
     have hgl':Gl E.gl (dI I A ss) w:=fun g d hg=>(hgl g d hg).mono (fun _ hb=> .inl hb) (fun _ _=>rfl);have hpa:p<args.length:=(zb8.1 hp).1;obtain⟨v0,hv0⟩:∃v0,vargs[p]?=some v0:=⟨vargs[p]'(by rw[←hl];exact hpa),by simp⟩;obtain⟨hvv,hk⟩:=(hr p _ v0 hp hv0).own_inv hy;subst hk;have hbs:y.b<w.heap.size:=(zb7.1 hb).1;have hcells:∀(j:Nat) (d:D) (v:Value),cs[j]?=some d→c[j]?=some v→d.toV=some v:=fun j d v hd hv=>by
      have h1:=hrel j d v hd hv;have hp:=qf hpl hd;unfold D.plain at hp;obtain⟨u,hu⟩:=Option.isSome_iff_exists.1 hp;rw[hu,h1.toV hu]
     have hrest:∀(j:Nat) (d:D) (v:Value),j≠p→ds[j]?=some d→vargs[j]?=some v→RelC (dI I A ss) w d v:=fun j d v hj hd hv=>by
      obtain⟨d0,hd0,hr0⟩:=a3 j d hd;rw[List.getElem?_set_ne (Ne.symm hj)] at hd0;exact hr0 v (hr j d0 v hd0 hv)
     have hdl:ds.length=vargs.size:=by rw[a1];simpa using hl
     split at hs
     ·rename_i f m cs' r hgo;split at hs
      ·rename_i hc2;simp only[zc1,zc4] at hc2;simp only[za0,zb2] at hs;obtain⟨rfl,rfl⟩:=hs;refine(hg.2 (dI I A ss) w y.b y.cap n y.len m e f c ds cs cs' r vargs hfz.iw hgl' hnI' hb hcs hm hlc hcl hpl hcells (by omega) hdl (by rw[hv0,hvv]) hrest hgo hc2.2 hc2.1).mono ?_
       rintro en w' ⟨v,c',rfl,hrv,q1,q2,q3,q4,q5,q6,q7,q8⟩
       refine⟨v,rfl,?_⟩;have hlive':bw (σ.freeze ss).H s g0=some (.arr e n cs false):=by
        show bw (bF σ.H ss) s g0=_;rw[cq,if_neg hns];exact hlive
       obtain⟨hi1,hR1⟩:=hfz.set (o':= .arr e n cs' false) hlive' hy hnI' (w':=cV w y.b (.cells c' e (0,0))) (cg _ _ _) (fun b hb=>cr _ _ _ hb) (fun hR=>⟨c',c7 hbs,by rw[q2];exact hcs,hm,hlc,by rw[hc2.1];exact hcl,
        fun j d v hd hv=> .clo (eD (q3 j d v hd hv)),⟨(fun hh=>by cases hh),fun hi=>absurd hi hnI'⟩,fun d hd=>by
         obtain⟨j,hj,rfl⟩:=List.getElem_of_mem hd;have hjv:j<c'.size:=by rw[q2,hcs];have:=Nat.mul_le_mul_right n hlc;omega
         exact(eD (w:=w) (I:=I) (q3 j _ _ (zc9 hj) (Array.getElem?_eq_getElem hjv))).clo⟩)
       obtain⟨hi2,hR2⟩:=hi1.world (w':=w') (I':=fun b=>dI I A ss b∨(w.heap.size≤b∧b<w'.heap.size)) (by rw[cg];exact q4) (fun b hb'=>by
        rw[cg] at hb';by_cases e1:b=y.b
        ·subst e1;rw[q1,c7 hbs]
        ·rw[q5 b hb' e1,cr _ _ _ e1]) (fun _ hb=> .inl hb) (fun _ hb=>by rw[cg];exact hb) (by rw[cg];exact hB)
       exact⟨_,A,hi2,.clo hrv,fun _ hb=> .inl (.inl hb),fun b hb'=>q5 b (h.iw b hb') (fun e1=>hnI (e1▸hb')),⟨q6,q7,q8,q4,fun b hb'=>q5 b (hB b hb') (fun e=>(hyB.resolve_left hnI) (e▸hb'))⟩⟩
      ·cases hs
     ·cases hs
   ·cases hs
  ·cases hs
 ·cases hs
theorem zq{k:FuncId}{p:Nat}{g:List D→Option D}(hg:zm E.P E.gl k p g)(h:Inv I0 B I A σ a w)(hgl:Gl E.gl I w)(hB:∀k,B k→k<w.heap.size){args:List D}{d:D}{σ':St}(hs:mE σ p g args=some (d,σ'))
  {vargs:Array Value} (hl:args.length=vargs.size) (hr:∀(j:Nat) (d:D) (v:Value),args[j]?=some d→vargs[j]?=some v→RelV I A (bx σ.H) w d v):
  Calls E.P k vargs w fun e w'=>∃v,e= .returned v∧Step I0 B I a w d σ' v w':=by
 unfold mE at hs;split at hs
 ·rename_i x0 hp;split at hs
  ·rename_i y0 hy0;obtain⟨s,g0,off,len⟩:=y0;dsimp only at hs;split at hs
   ·rename_i e n cs hlive;split at hs
    ·rename_i ds ss hsn;split at hs
     ·cases hs
     ·rename_i hc;simp only[Bool.or_eq_true,Bool.not_eq_true',not_or,Bool.not_eq_false,zc3,zc1,zc4] at hc;obtain⟨⟨hns,hn0,hwn⟩,hpl,hpos,hbd⟩:=hc;have hns:s∉ss:=by simpa using hns
      obtain⟨a1,a2,a3⟩:=dV (I:=I) (A:=A) (w:=w) (cC h depth) _ _ _ hsn;obtain⟨hfz,hRf⟩:=h.freeze ss a2.free;obtain⟨y,hy,hyB,c,hb,hcs,hm,hlc,hcl,hrel,hfr,hclo⟩:=h.ob s g0 _ hlive;have hnI:¬I y.b:=fun hi=>by have:=hfr.2 hi;cases this
      have hnI':¬dI I A ss y.b:=by
       rintro (hi'|⟨s',hs',g',y',hy',hb'⟩)
       ·exact hnI hi'
       ·exact hns ((h.inj _ _ _ _ _ _ hy hy' hb').1▸hs')
      have hgl':Gl E.gl (dI I A ss) w:=fun g d hg=>(hgl g d hg).mono (fun _ hb=> .inl hb) (fun _ _=>rfl);have hpa:p<args.length:=(zb8.1 hp).1;obtain⟨v0,hv0⟩:∃v0,vargs[p]?=some v0:=⟨vargs[p]'(by rw[←hl];exact hpa),by simp⟩;obtain⟨ad,capw,hvv,hcapw,hgg,had⟩:=il hy0 (hr p _ v0 hp hv0);obtain⟨had,hoff,hcn⟩:=had hpos y hy;subst had;have hbs:y.b<w.heap.size:=(zb7.1 hb).1;have hcells:∀(j:Nat) (d:D) (v:Value),cs[j]?=some d→c[j]?=some v→d.toV=some v:=fun j d v hd hv=>by
       have h1:=hrel j d v hd hv;have hp:=qf hpl hd;unfold D.plain at hp;obtain⟨u,hu⟩:=Option.isSome_iff_exists.1 hp;rw[hu,h1.toV hu]
      have hrest:∀(j:Nat) (d:D) (v:Value),j≠p→ds[j]?=some d→vargs[j]?=some v→RelC (dI I A ss) w d v:=fun j d v hj hd hv=>by
       obtain⟨d0,hd0,hr0⟩:=a3 j d hd;rw[List.getElem?_set_ne (Ne.symm hj)] at hd0;exact hr0 v (hr j d0 v hd0 hv)
      have hdl:ds.length=vargs.size:=by rw[a1];simpa using hl
      split at hs
      ·rename_i f m cs' r hgo;split at hs
       ·rename_i hc2;simp only[zc1,zc4] at hc2;simp only[za0,zb2] at hs;obtain⟨rfl,rfl⟩:=hs;refine(hg.2 (dI I A ss) w y.b y.cap n y.len off len capw m e f c ds cs cs' r vargs hfz.iw hgl' hnI' hb hcs hm hlc hcl hpl hcells hpos hbd hcapw hoff (hcn n hwn) hn0 (by omega) hdl (by rw[hv0,hvv]) hrest hgo hc2.2 hc2.1).mono ?_
        rintro en w' ⟨v,c',rfl,hrv,q1,q2,q3,q4,q5,q6,q7,q8⟩
        refine⟨v,rfl,?_⟩;have hlive':bw (σ.freeze ss).H s g0=some (.arr e n cs false):=by
         show bw (bF σ.H ss) s g0=_;rw[cq,if_neg hns];exact hlive
        have hwl:(ch cs off cs').length=y.len*n:=by rw[d6];exact hcl
        obtain⟨hi1,hR1⟩:=hfz.set (o':= .arr e n (ch cs off cs') false) hlive' hy hnI' (w':=cV w y.b (.cells c' e (0,0))) (cg _ _ _) (fun b hb=>cr _ _ _ hb) (fun hR=>⟨c',c7 hbs,by rw[q2];exact hcs,hm,hlc,hwl,
         fun j d v hd hv=> .clo (eD (q3 j d v hd hv)),⟨(fun hh=>by cases hh),fun hi=>absurd hi hnI'⟩,fun d hd=>by
          obtain⟨j,hj,rfl⟩:=List.getElem_of_mem hd;have hjv:j<c'.size:=by rw[q2,hcs];have:=Nat.mul_le_mul_right n hlc;omega
          exact(eD (w:=w) (I:=I) (q3 j _ _ (zc9 hj) (Array.getElem?_eq_getElem hjv))).clo⟩)
        obtain⟨hi2,hR2⟩:=hi1.world (w':=w') (I':=fun b=>dI I A ss b∨(w.heap.size≤b∧b<w'.heap.size)) (by rw[cg];exact q4) (fun b hb'=>by
         rw[cg] at hb';by_cases e1:b=y.b
         ·subst e1;rw[q1,c7 hbs]
         ·rw[q5 b hb' e1,cr _ _ _ e1]) (fun _ hb=> .inl hb) (fun _ hb=>by rw[cg];exact hb) (by rw[cg];exact hB)
        exact⟨_,A,hi2,.clo hrv,fun _ hb=> .inl (.inl hb),fun b hb'=>q5 b (h.iw b hb') (fun e1=>hnI (e1▸hb')),⟨q6,q7,q8,q4,fun b hb'=>q5 b (hB b hb') (fun e=>(hyB.resolve_left hnI) (e▸hb'))⟩⟩
       ·cases hs
      ·cases hs
    ·cases hs
   ·cases hs
  ·cases hs
 ·cases hs
end
def Jd(P:Program)(gl:Nat→Option D)(k:FuncId)(ds:List D)(r:D):Prop:=
 ∀(I:Nat→Prop) (w:World) (vs:Array Value),(∀b,I b→b<w.heap.size)→Gl gl I w→ds.length=vs.size→(∀(j:Nat) (d:D) (v:Value),ds[j]?=some d→vs[j]?=some v→RelC I w d v)→
  Calls P k vs w fun e w'=>∃v,e= .returned v∧RelC (fun b=>I b∨(w.heap.size≤b∧b<w'.heap.size)) w' r v∧Blw (·<w.heap.size) w w'
def CallOK(P:Program)(gl:Nat→Option D)(k:FuncId)(ds:List D)(r:D):Prop:=
 (∀vs w,(callFunc k vs).run P w= .ok (.enter k vs) w)∧Jd P gl k ds r
def F3(P:Program)(gl:Nat→Option D)(k:FuncId)(ds:List D)(r:D):Prop:=
 ∀(I:Nat→Prop) (w:World) (vs:Array Value),(∀b,I b→b<w.heap.size)→Gl gl I w→ds.length=vs.size→(∀(j:Nat) (d:D) (v:Value),ds[j]?=some d→vs[j]?=some v→RelC I w d v)→
  ∃v,(callFunc k vs).run P w= .ok (.value v) w∧RelC I w r v
def vE(P:Program)(gl:Nat→Option D)(k:FuncId)(e:TypeId)(n:Nat)(ds:List D)(len:Nat)(cs:List D):Prop:=
 ∀(I:Nat→Prop) (w:World) (vs:Array Value),(∀b,I b→b<w.heap.size)→Gl gl I w→ds.length=vs.size→(∀(j:Nat) (d:D) (v:Value),ds[j]?=some d→vs[j]?=some v→RelC I w d v)→
  Calls P k vs w fun en w'=>Blw (·<w.heap.size) w w'∧∃(b cap:Nat) (c:Array Value),en= .returned (.slice (some ⟨b,0,none⟩) len cap)∧w.heap.size≤b∧w'.heap[b]?=some (.cells c e (0,0))∧c.size=cap*n∧cap≤maxLen∧len≤cap∧cs.length=len*n∧
   ∀(j:Nat) (d:D) (v:Value),cs[j]?=some d→c[j]?=some v→d.toV=some v
structure EnvOK(E:Env):Prop where
 call:∀k ds r,E.call k ds=some r→CallOK E.P E.gl k ds r∨((∀e n,E.wr k≠some (.own e n))∧F3 E.P E.gl k ds r)
 wr:∀k g,E.wr k=some g→tf E.P E.gl k g
 ow:∀k e n,E.wr k=some (.own e n)→∀ds len cs,E.call k ds=some (.slc false len cs)→vE E.P E.gl k e n ds len cs
 inl:∀k i,E.inl k=some i→InlOK E.P E.gl k i
theorem zr{P:Program}{gl:Nat→Option D}{wr:FuncId→Option Mu}{call:FuncId→List D→Option D}(h:∀k ds r,call k ds=some r→CallOK P gl k ds r):∀k ds r,call k ds=some r→CallOK P gl k ds r∨((∀e n,wr k≠some (.own e n))∧F3 P gl k ds r):=
 fun k ds r hc=> .inl (h k ds r hc)
theorem EnvOK.stillF{E:Env}(h:EnvOK E)(fs:List (Nat×Nat)):EnvOK (E.stillF fs):=by
 have hk:∀k mu,(E.stillF fs).wr k=some mu→E.wr k=some mu∧∃e n,mu= .own e n:=fun k mu hk=>by
  unfold Env.stillF at hk;dsimp only at hk;split at hk
  ·rename_i hw;cases hk;exact⟨hw,_,_,rfl⟩
  ·cases hk
 exact⟨fun k ds r hc=>(h.call k ds r hc).imp id fun hx=>⟨fun e n hw=>hx.1 e n (hk k _ hw).1,hx.2⟩,fun k g hg=>h.wr k g (hk k g hg).1,fun k e n hg=>h.ow k e n (hk k _ hg).1,fun _ _ hi=>nomatch hi⟩
theorem EnvOK.still{E:Env}(h:EnvOK E):EnvOK E.still:=⟨fun k ds r hc=>(h.call k ds r hc).imp id fun hx=>⟨fun e n hw=>(by cases hw),hx.2⟩,fun k g hk=>(by cases hk),fun k e n hk=>(by cases hk),fun _ _ hi=>nomatch hi⟩
def Wide(F:Fence):Prop:=F=Fence.wide∨∃l,F=Fence.wide.inRound l
theorem Wide.fn{F:Fence}(h:Wide F)(f:FuncId):F.fn f:=by rcases h with rfl|⟨l,rfl⟩<;>exact trivial
theorem Wide.depth{F:Fence}(h:Wide F):F.depth=none:=by rcases h with rfl|⟨l,rfl⟩<;>rfl
theorem Wide.calls{F:Fence}(h:Wide F){n:Nat}{P:Program}{f:FuncId}{vs:Array Value}{w:World}{R:Ending→World→Prop}(hc:Calls P f vs w R):CallsIn F n P f vs w R:=by
 rcases h with rfl|⟨l,rfl⟩
 ·exact callsIn_wide.2 hc
 ·exact(callsIn_wide.2 hc).inRound l
section
variable {F:Fence}{n:Nat}{P:Program}{o:Oper}{a:Act}{w w':World}{K:Act→World→Prop}{Q:Exit→Act→World→Prop}
theorem kH(hF:Wide F)(hd:∀c,o.op≠ .defer c){v:Value}(hrun:(execOp a.eval o).run P w= .ok (.value v) w')(hK:K (a.put o.dst v) w'):o.wpIn F n P a w K Q:=
 ⟨fun f _=>hF.fn f,by rw[Oper.semAt_plain F _ _ hd,hrun];exact hK⟩
theorem gf(hF:Wide F)(hd:∀c,o.op≠ .defer c)(hrun:(execOp a.eval o).run P w= .ok .skip w')(hK:K (a.put o.dst undef) w'):o.wpIn F n P a w K Q:=
 ⟨fun f _=>hF.fn f,by rw[Oper.semAt_plain F _ _ hd,hrun];exact hK⟩
theorem iN(hF:Wide F)(hd:∀c,o.op≠ .defer c){f:FuncId}{vs:Array Value}(hrun:(execOp a.eval o).run P w= .ok (.enter f vs) w')
  (hK:Calls P f vs w' fun e w''=>∃v,e= .returned v∧K (a.put o.dst v) w''):o.wpIn F n P a w K Q:=by
 refine⟨fun f _=>hF.fn f,?_⟩;rw[Oper.semAt_plain F _ _ hd,hrun];refine⟨(fun hs=>by rw[hF.depth] at hs;cases hs),(hF.calls hK).mono ?_⟩
 rintro e w'' ⟨v,rfl,hk⟩
 exact hk
end
section
variable {E:Env}{I0:Nat→Prop}{B:Nat→Prop}{I:Nat→Prop}{A:Nat→Nat→Option Gh}{σ:St}{a:Act}{w:World}
theorem jI(h:Inv I0 B I A σ a w)(hgl:Gl E.gl I w):∀{l:List Operand} {ds:List D},fp E σ l=some ds→
  ds.length=l.length∧∀(j:Nat) (d:D) (v:Value),ds[j]?=some d→(l.map a.eval)[j]?=some v→RelV I A (bx σ.H) w d v
 |[],ds,hs=>by
  simp only[fp,za0] at hs;subst hs;exact⟨rfl,fun j d v hd=>by simp at hd⟩
 |x::l,ds,hs=>by
  simp only[fp] at hs;split at hs
  ·cases hs
  ·rename_i d0 hd0;split at hs
   ·cases hs
   ·rename_i r hr;simp only[za0] at hs;subst hs;obtain⟨h1,h2⟩:=jI h hgl hr;refine⟨by simp[h1],fun j d v hd hv=> ?_⟩;cases j with
    |zero=>simp at hd hv;subst hd hv;exact bU h hgl hd0
    |succ j=>simp at hd;exact h2 j d v hd (by simpa using hv)
theorem qg(hcall:EnvOK E)(h:Inv I0 B I A σ a w)(hgl:Gl E.gl I w)(hB:∀k,B k→k<w.heap.size){f d:D}{args:List D}{σ':St}(hs:fw E σ f args=some (d,σ'))
  {vf:Value} {vargs:Array Value} (hf:RelV I A (bx σ.H) w f vf) (hl:args.length=vargs.size) (hr:∀(j:Nat) (d:D) (v:Value),args[j]?=some d→vargs[j]?=some v→RelV I A (bx σ.H) w d v):
  (∃k vs,(do let t←Deferred.ofValue vf vargs;invoke t.target t.args:Sem Next).run E.P w= .ok (.enter k vs) w∧Calls E.P k vs w fun e w'=>∃v,e= .returned v∧Step I0 B I a w d σ' v w')∨
   ∃v,(do let t←Deferred.ofValue vf vargs;invoke t.target t.args:Sem Next).run E.P w= .ok (.value v) w∧Step I0 B I a w d σ' v w:=by
 unfold fw at hs;split at hs
 ·rename_i k first caps
  split at hs
  ·cases hs
  ·rename_i ds ss hsn;split at hs
   ·cases hs
   ·rename_i r hc;simp only[za0,zb2] at hs;obtain⟨rfl,rfl⟩:=hs;obtain⟨vx,vy,rfl,hx,hy,hrx,hry⟩:=hf.fn_inv;obtain⟨a1,a2,a3⟩:=dV (I:=I) (A:=A) (w:=w) (cC h depth) _ _ _ hsn;obtain⟨hfz,hRf⟩:=h.freeze ss a2.free;have hgl':Gl E.gl (dI I A ss) w:=fun g d hg=>(hgl g d hg).mono (fun _ hb=> .inl hb) (fun _ _=>rfl);have hargs:∀(j:Nat) (d:D) (v:Value),ds[j]?=some d→(vx++vargs++vy)[j]?=some v→RelC (dI I A ss) w d v:=fun j d v hd hv=>by
     obtain⟨d0,hd0,hr0⟩:=a3 j d hd;refine hr0 v ?_;by_cases c1:j<first.length
     ·rw[za8,zb6 c1] at hd0;rw[Array.append_assoc,Array.getElem?_append_left (by omega)] at hv;exact hrx j d0 v hd0 hv
     ·rw[za8,zb5 (by omega)] at hd0;rw[Array.append_assoc,Array.getElem?_append_right (by omega),←hx] at hv;by_cases c2:j-first.length<args.length
      ·rw[zb6 c2] at hd0;rw[Array.getElem?_append_left (by omega)] at hv;exact hr _ d0 v hd0 hv
      ·rw[zb5 (by omega)] at hd0;rw[Array.getElem?_append_right (by omega),←hl] at hv;exact hry _ d0 v hd0 hv
    rcases hcall.call k ds r hc with⟨henter,hok⟩|⟨_,hx0⟩
    case inr=>
     obtain⟨v,hv1,hv2⟩:=hx0 (dI I A ss) w (vx++vargs++vy) hfz.iw hgl' (by simp[a1,hx,hy,hl]) hargs;refine .inr ⟨v,by simp only[Array.append_assoc] at hv1;simp[Deferred.ofValue,invoke,hv1],?_⟩;by_cases hp:r.plain=true
     ·rw[if_pos hp];exact⟨I,A,h,.clo (hv2.plain hp),fun _ hb=>hb,fun _ _=>rfl,Blw.refl _ _⟩
     ·rw[if_neg hp];exact⟨_,A,hfz,.clo hv2,fun _ hb=> .inl hb,fun _ _=>rfl,Blw.refl _ _⟩
    refine .inl ⟨k,vx++vargs++vy,by simp[Deferred.ofValue,invoke,henter],?_⟩;refine(hok (dI I A ss) w (vx++vargs++vy) hfz.iw hgl' (by simp[a1,hx,hy,hl]) hargs).mono ?_
    ·rintro e w' ⟨v,rfl,hrv,hbel⟩
     refine⟨v,rfl,?_⟩;by_cases hp:r.plain=true
     ·rw[if_pos hp];obtain⟨hi',hR'⟩:=h.world (w':=w') (I':=I) hbel.size (fun b hb=>hbel.block b hb) (fun _ hb=>hb) (fun _ hb=> .inl hb) hB;exact⟨I,A,hi',.clo (hrv.plain hp),fun _ hb=>hb,fun b hb=>hbel.block b (h.iw b hb),Blw.of hbel hB⟩
     ·rw[if_neg hp];obtain⟨hi',hR'⟩:=hfz.world (w':=w') (I':=fun b=>dI I A ss b∨(w.heap.size≤b∧b<w'.heap.size)) hbel.size (fun b hb=>hbel.block b hb) (fun _ hb=> .inl hb) (fun _ hb=>hb) hB;exact⟨_,A,hi',.clo hrv,fun _ hb=> .inl (.inl hb),fun b hb=>hbel.block b (h.iw b hb),Blw.of hbel hB⟩
 ·cases hs
theorem zt{k0:FuncId}{e0:TypeId}{n0:Nat}{dst:Option Tmp}(hcall:EnvOK E)(hmu:E.wr k0=some (.own e0 n0))(h:Inv I0 B I A σ a w)(hgl:Gl E.gl I w)(hB:∀k,B k→k<w.heap.size){d:D}{args:List D}{σ':St}(hs:jA E σ dst e0 n0 (.fn (.func k0) [] []) args=some (d,σ'))
  {vf:Value} {vargs:Array Value} (hf:RelV I A (bx σ.H) w (.fn (.func k0) [] []) vf) (hl:args.length=vargs.size) (hr:∀(j:Nat) (d:D) (v:Value),args[j]?=some d→vargs[j]?=some v→RelV I A (bx σ.H) w d v):
  (∃k vs,(do let t←Deferred.ofValue vf vargs;invoke t.target t.args:Sem Next).run E.P w= .ok (.enter k vs) w∧Calls E.P k vs w fun e w'=>∃v,e= .returned v∧Step I0 B I a w d σ' v w')∨
   ∃v,(do let t←Deferred.ofValue vf vargs;invoke t.target t.args:Sem Next).run E.P w= .ok (.value v) w∧Step I0 B I a w d σ' v w:=by
 unfold jA at hs;split at hs
 ·rename_i len cs hres;unfold jz at hres;dsimp only at hres;split at hres
  ·cases hres
  ·rename_i ds ss hsn;split at hres
   ·rename_i len' cs' hc;cases hres;split at hs
    ·rename_i hp;simp only[zc1,zc4] at hp;rcases hcall.call k0 ds _ hc with⟨henter,_⟩|⟨hnw,_⟩
     case inr=>exact absurd hmu (hnw _ _)
     have hown:=hcall.ow k0 e0 n0 hmu ds len cs hc;obtain⟨vx,vy,rfl,hx,hy,hrx,hry⟩:=hf.fn_inv;have ex:vx= #[]:=by simpa using hx.symm
     have ey:vy= #[]:=by simpa using hy.symm
     subst ex ey;rw[zb4,zb3] at hsn;obtain⟨a1,a2,a3⟩:=dV (I:=I) (A:=A) (w:=w) (cC h depth) _ _ _ hsn;obtain⟨hfz,hRf⟩:=h.freeze ss a2.free;refine .inl ⟨k0,vargs,by simp[Deferred.ofValue,invoke,henter],?_⟩;have hgl':Gl E.gl (dI I A ss) w:=fun g d hg=>(hgl g d hg).mono (fun _ hb=> .inl hb) (fun _ _=>rfl);refine(hown (dI I A ss) w vargs hfz.iw hgl' (by rw[a1,hl]) (fun j d v hd hv=> ?_)).mono ?_
     ·obtain⟨d0,hd0,hr0⟩:=a3 j d hd;exact hr0 v (hr j d0 v hd0 hv)
     ·rintro e w' ⟨hbel,b,cap,c,rfl,q1,q2,q3,q4,q5,q6,q7⟩
      refine⟨_,rfl,?_⟩;exact fx h hs (fun hb=>absurd (hB b hb) (by omega)) (fun hb=>absurd (h.iw b hb) (by omega)) (fun s' g' y hy=>fun e1=>absurd (h.A_lt hy) (by omega)) (fun b' hb'=>hbel.block b' (h.iw b' hb')) (fun s' g' y hy=>hbel.block _ (h.A_lt hy)) (fun y j b' hb'=>⟨by have:=(h.rw.sep y j b' hb').1;omega,hbel.block b' (h.rw.sep y j b' hb').1⟩) (Blw.of hbel hB)
       q2 q3 q4 q5 q6 (fun j x u hx hu=>eD (q7 j x u hx hu))
    ·cases hs
   ·cases hres
 ·exact qg hcall h hgl hB hs hf hl hr
theorem qh(h:Inv I0 B I A σ a w)(hgl:Gl E.gl I w){x:Option Operand}{d:Option D}(hs:dM E σ x=some d)(k:Nat):kF k d (x.map a.eval):=by
 unfold dM at hs;split at hs
 ·simp only[za0] at hs;subst hs;exact qa (I:=I) (A:=A) (G:=bx σ.H) (w:=w) trivial
 ·split at hs
  ·rename_i d0 hd0;simp only[za0] at hs;subst hs;exact qa (I:=I) (A:=A) (G:=bx σ.H) (w:=w) (bU h hgl hd0)
  ·cases hs
theorem co{σ σ':St}{x:Option D}{d:D}(h:eB σ x=some (d,σ')):x=some d∧σ=σ':=by
 unfold eB at h;split at h
 ·simp only[za0,zb2] at h;obtain⟨rfl,rfl⟩:=h;exact⟨rfl,rfl⟩
 ·cases h
theorem ek{σ':St}{x:Option St}{d:D}(h:unit x=some (d,σ')):x=some σ'∧d= .tup []:=by
 unfold unit at h;split at h
 ·simp only[za0,zb2] at h;obtain⟨rfl,rfl⟩:=h;exact⟨rfl,rfl⟩
 ·cases h
theorem BI{F:Fence}{n:Nat}(hF:Wide F)(hcall:EnvOK E)(h:Inv I0 B I A σ a w)(hgl:Gl E.gl I w)(hB:∀k,B k→k<w.heap.size){o:Oper}{d:D}{σ':St}(hev:cB E σ o=some (d,σ'))
  {K:Act→World→Prop} {Q:Exit→Act→World→Prop} (hK:∀v w',Step I0 B I a w d σ' v w'→K (a.put o.dst v) w'):o.wpIn F n E.P a w K Q:=by
 have value:(∀c,o.op≠ .defer c)→(∃u w',(execOp a.eval o).run E.P w= .ok (.value u) w'∧Step I0 B I a w d σ' u w')→o.wpIn F n E.P a w K Q:=fun hd ⟨u,w',h1,h2⟩=>kH hF hd h1 (hK u w' h2);have viaScal:(∀c,o.op≠ .defer c)→eB σ (dP E σ o)=some (d,σ')→o.wpIn F n E.P a w K Q:=fun hd hp=>by
  obtain⟨h1,rfl⟩:=co hp;obtain⟨v,hv,hr⟩:=BH h hgl h1;exact value hd ⟨v,w,hv,Step.pure h hr⟩
 unfold cB at hev;split at hev
 ·
  rename_i x ho;obtain⟨h1,rfl⟩:=co hev;exact value (fun c e=>by rw[ho] at e;cases e) ⟨a.eval x,w,by unfold execOp;rw[ho];rfl,Step.pure h (bU h hgl h1)⟩
 ·
  rename_i x ho;obtain⟨h1,rfl⟩:=co hev;exact value (fun c e=>by rw[ho] at e;cases e) ⟨a.eval x,w,by unfold execOp;rw[ho];rfl,Step.pure h (bU h hgl h1)⟩
 ·
  rename_i c x y ho;split at hev
  ·rename_i t hc;obtain⟨h1,rfl⟩:=co hev;have hcv:=(bU h hgl hc).bool_inv;refine value (fun c e=>by rw[ho] at e;cases e) ⟨if t then a.eval x else a.eval y,w,by unfold execOp;rw[ho];simp[hcv,asBool],Step.pure h ?_⟩;cases t with
   |true=>exact bU h hgl h1
   |false=>exact bU h hgl h1
  ·cases hev
 ·
  rename_i x i ho;split at hev
  ·rename_i ds hx;obtain⟨h1,rfl⟩:=co hev;obtain⟨vs,hv,hl,hr⟩:=(bU h hgl hx).tup_inv;have hlt:i<vs.size:=by rw[←hl];exact(zb8.1 h1).1
   exact value (fun c e=>by rw[ho] at e;cases e) ⟨vs[i],w,by unfold execOp;rw[ho];simp[hv,Instr.extract,hlt],Step.pure h (hr i d _ h1 (Array.getElem?_eq_getElem hlt))⟩
  ·cases hev
 ·
  rename_i t ho;obtain⟨v,w',h1,h2⟩:=vg h hB hev;exact value (fun c e=>by rw[ho] at e;cases e) ⟨v,w',by unfold execOp;rw[ho];simp[h1],h2⟩
 ·
  rename_i t x ho;split at hev
  ·rename_i d0 hx;obtain⟨v,w',h1,h2⟩:=ze (E:=E) (t:=t) h hB hev (bU h hgl hx);exact value (fun c e=>by rw[ho] at e;cases e) ⟨v,w',by unfold execOp;rw[ho];simp[h1],h2⟩
  ·cases hev
 ·
  rename_i t ps ho;split at hev
  ·rename_i l hl;obtain⟨h1,rfl⟩:=co hev;obtain⟨q1,q2⟩:=lX h hgl hl;obtain⟨v,r1,r2⟩:=vr (I:=I) (A:=A) (G:=bx σ.H) (w:=w) h1 (vl:=ps.map fun(i,x)=>(i,a.eval x)) (by simp[q1]) (fun j i x v i' hx hv=>by
    obtain⟨y,hy,hr⟩:=q2 j i x hx;rw[Array.toList_map,zc0,hy] at hv;simp at hv;obtain⟨rfl,rfl⟩:=hv;exact⟨rfl,hr⟩)
   exact value (fun c e=>by rw[ho] at e;cases e) ⟨v,w,by unfold execOp;rw[ho];simp only[Sem.run_bind,r1,Result.andThen_ok,Sem.run_pure],Step.pure h r2⟩
  ·cases hev
 ·
  rename_i t m ps ho;split at hev
  ·rename_i l hl;obtain⟨q1,q2⟩:=lX h hgl hl;obtain⟨v,w',r1,r2⟩:=mY h hB hev (vl:=ps.map fun(i,x)=>(i,a.eval x)) (by simp[q1]) (fun j i x v i' hx hv=>by
    obtain⟨y,hy,hr⟩:=q2 j i x hx;rw[Array.toList_map,zc0,hy] at hv;simp at hv;obtain⟨rfl,rfl⟩:=hv;exact⟨rfl,hr⟩)
   exact value (fun c e=>by rw[ho] at e;cases e) ⟨v,w',by unfold execOp;rw[ho];simp only[Sem.run_bind,r1,Result.andThen_ok,Sem.run_pure],r2⟩
  ·cases hev
 ·
  rename_i t x ho;split at hev
  ·rename_i p hp;split at hev
   ·obtain⟨u,r1,r2⟩:=yb h hev (bU h hgl hp);exact value (fun c e=>by rw[ho] at e;cases e) ⟨u,w,by unfold execOp;rw[ho];simp[r1],r2⟩
   ·obtain⟨h1,rfl⟩:=co hev;obtain⟨u,r1,r2⟩:=p8 h h1 (bU h hgl hp);exact value (fun c e=>by rw[ho] at e;cases e) ⟨u,w,by unfold execOp;rw[ho];simp[r1],Step.pure h r2⟩
  ·cases hev
 ·
  rename_i t p x ho;split at hev
  ·rename_i dp dx hp hx;split at hev
   ·obtain⟨h1,rfl⟩:=ek hev;obtain⟨w',r1,r2⟩:=zf h h1 (bU h hgl hp) (bU h hgl hx);exact gf hF (fun c e=>by rw[ho] at e;cases e) (by unfold execOp;rw[ho];simp only[Sem.run_bind,r1,Result.andThen_ok,Sem.run_pure]) (hK _ _ r2)
   ·obtain⟨h1,rfl⟩:=ek hev;obtain⟨w',r1,r2⟩:=vn h h1 (bU h hgl hp) (bU h hgl hx);exact gf hF (fun c e=>by rw[ho] at e;cases e) (by unfold execOp;rw[ho];simp only[Sem.run_bind,r1,Result.andThen_ok,Sem.run_pure]) (hK _ _ r2)
  ·cases hev
 ·
  rename_i t x f ho;split at hev
  ·rename_i p hp;obtain⟨h1,rfl⟩:=co hev;obtain⟨u,r1,r2⟩:=nW h1 (bU h hgl hp);exact value (fun c e=>by rw[ho] at e;cases e) ⟨u,w,by unfold execOp;rw[ho];simp only[Sem.run_bind,r1,Result.andThen_ok,Sem.run_pure],Step.pure h r2⟩
  ·cases hev
 ·
  rename_i t x f ho;split at hev
  ·rename_i p hp;obtain⟨h1,rfl⟩:=co hev;obtain⟨u,r1,r2⟩:=vq h1 (bU h hgl hp);exact value (fun c e=>by rw[ho] at e;cases e) ⟨u,w,by unfold execOp;rw[ho];simp only[Sem.run_bind,r1,Result.andThen_ok,Sem.run_pure],Step.pure h r2⟩
  ·cases hev
 ·
  rename_i t x i ho;split at hev
  ·rename_i p j hp hj;obtain⟨h1,rfl⟩:=co hev;obtain⟨u,r1,r2⟩:=nY h1 (bU h hgl hp) (bU h hgl hj);exact value (fun c e=>by rw[ho] at e;cases e) ⟨u,w,by unfold execOp;rw[ho];simp only[Sem.run_bind,r1,Result.andThen_ok,Sem.run_pure],Step.pure h r2⟩
  ·cases hev
 ·
  rename_i x ho;split at hev
  ·rename_i s g k hx;simp only[za0,zb2] at hev;obtain⟨rfl,rfl⟩:=hev;have hr:=bU h hgl hx;obtain⟨ad,hv,_⟩:=ry (k:=0) hr;exact value (fun c e=>by rw[ho] at e;cases e) ⟨a.eval x,w,by unfold execOp;rw[ho];simp only[hv];rfl,Step.pure h hr⟩
  ·rename_i cs k hx;simp only[za0,zb2] at hev;obtain⟨rfl,rfl⟩:=hev;have hr:=bU h hgl hx;obtain⟨ad,hv,_⟩:=nV (k:=0) hr;exact value (fun c e=>by rw[ho] at e;cases e) ⟨a.eval x,w,by unfold execOp;rw[ho];simp only[hv];rfl,Step.pure h hr⟩
  ·rename_i f y z hx;simp only[za0,zb2] at hev;obtain⟨rfl,rfl⟩:=hev;have hr:=bU h hgl hx;obtain⟨vx,vy,hv,_⟩:=hr.fn_inv;exact value (fun c e=>by rw[ho] at e;cases e) ⟨a.eval x,w,by unfold execOp;rw[ho];simp only[hv];rfl,Step.pure h hr⟩
  ·cases hev
 ·
  rename_i f x y ho;split at hev
  ·rename_i k;split at hev
   ·rename_i dx dy hx hy;simp only[za0,zb2] at hev;obtain⟨rfl,rfl⟩:=hev;obtain⟨a1,a2⟩:=jI h hgl hx;obtain⟨b1,b2⟩:=jI h hgl hy;exact value (fun c e=>by rw[ho] at e;cases e) ⟨_,w,by unfold execOp;rw[ho];rfl,Step.pure h (.fn _ _ _ _ _ (by simp[a1]) (by simp[b1])
     (fun j d v hd hv=>a2 j d v hd (by simpa using hv)) (fun j d v hd hv=>b2 j d v hd (by simpa using hv)))⟩
   ·cases hev
  ·cases hev
 ·
  rename_i t x ho;split at hev
  ·rename_i dx hx;split at hev
   ·cases hev
   ·rename_i td hn hu;split at hev
    ·rename_i h1;simp only[za0,zb2] at hev;obtain⟨rfl,rfl⟩:=hev;have hr:=bU h hgl hx;refine value (fun c e=>by rw[ho] at e;cases e) ⟨.iface t (a.eval x),w,?_,Step.pure h (.ifc _ _ _ hr)⟩;unfold execOp;rw[ho];simp only[Instr.makeInterface,Sem.run_bind,run_underlying hu,Result.andThen_ok];simp
    ·cases hev
   ·cases hev
  ·cases hev
 ·
  rename_i t r ho;split at hev
  ·obtain⟨v,w',h1,h2⟩:=yg (E:=E) h hB hev t;exact value (fun c e=>by rw[ho] at e;cases e) ⟨v,w',by unfold execOp;rw[ho];simp[h1],h2⟩
  ·cases hev
 ·
  rename_i t x k ok ho;split at hev
  ·rename_i dx dk hx hk;obtain⟨h1,rfl⟩:=co hev;obtain⟨u,r1,r2⟩:=s9 h h1 (bU h hgl hx) (bU h hgl hk);exact value (fun c e=>by rw[ho] at e;cases e) ⟨u,w,by unfold execOp;rw[ho];simp only[Sem.run_bind,r1,Result.andThen_ok,Sem.run_pure],Step.pure h r2⟩
  ·cases hev
 ·
  rename_i t m k x ho;split at hev
  ·rename_i dm dk dx hm hk hx;obtain⟨h1,rfl⟩:=ek hev;obtain⟨w',r1,r2⟩:=jH h h1 (bU h hgl hm) (bU h hgl hk) (bU h hgl hx);exact gf hF (fun c e=>by rw[ho] at e;cases e) (by unfold execOp;rw[ho];simp only[Sem.run_bind,r1,Result.andThen_ok,Sem.run_pure]) (hK _ _ r2)
  ·cases hev
 ·
  rename_i t m k x ho;split at hev
  ·rename_i dm dk dx hm hk hx;obtain⟨h1,rfl⟩:=ek hev;obtain⟨w',r1,r2⟩:=jH h h1 (bU h hgl hm) (bU h hgl hk) (bU h hgl hx);exact gf hF (fun c e=>by rw[ho] at e;cases e) (by unfold execOp;rw[ho];simp only[Sem.run_bind,r1,Result.andThen_ok,Sem.run_pure]) (hK _ _ r2)
  ·cases hev
 ·
  rename_i t l c ho;split at hev
  ·rename_i dl dc hl hc;obtain⟨u,w',r1,r2⟩:=oa h hB hev (bU h hgl hl) (bU h hgl hc);exact value (fun c e=>by rw[ho] at e;cases e) ⟨u,w',by unfold execOp;rw[ho];simp only[Sem.run_bind,r1,Result.andThen_ok,Sem.run_pure],r2⟩
  ·cases hev
 ·
  rename_i t x lo hi mx ho;split at hev
  ·exact viaScal (fun c e=>by rw[ho] at e;cases e) hev
  ·rename_i dx hx;split at hev
   ·rename_i l hh hlo hhi;obtain⟨u,w',r1,r2⟩:=vt h hev (bU h hgl ‹_›) (fun k=>qh h hgl hlo k) (fun k=>qh h hgl hhi k);exact value (fun c e=>by rw[ho] at e;cases e) ⟨u,w',by unfold execOp;rw[ho];simp only[Option.map_none,Sem.run_bind,r1,Result.andThen_ok,Sem.run_pure],r2⟩
   ·cases hev
  ·cases hev
 ·
  rename_i t x ho;split at hev
  ·rename_i dx hx;obtain⟨u,w',r1,r2⟩:=vA h hB hev (bU h hgl hx);exact value (fun c e=>by rw[ho] at e;cases e) ⟨u,w',by unfold execOp;rw[ho];simp only[Sem.run_bind,r1,Result.andThen_ok,Sem.run_pure],r2⟩
  ·cases hev
 ·
  rename_i it isS ho;split at hev
  ·rename_i dx hx;obtain⟨u,w',r1,r2⟩:=yi (E:=E) h hev (bU h hgl hx) o.type;exact value (fun c e=>by rw[ho] at e;cases e) ⟨u,w',by unfold execOp;rw[ho];simp only[Sem.run_bind,r1,Result.andThen_ok,Sem.run_pure],r2⟩
  ·cases hev
 ·
  rename_i c ho;split at hev
  ·rename_i f hc;split at hev
   ·rename_i g as hg has;obtain⟨q1,q2⟩:=jI h hgl has;have hq:∀(j:Nat) (d:D) (v:Value),as[j]?=some d→(c.args.map a.eval)[j]?=some v→RelV I A (bx σ.H) w d v:=fun j d v hd hv=>q2 j d v hd (by
     rw[←Array.getElem?_toList,Array.toList_map] at hv;exact hv)
    have hvf:=bU h hgl hg;split at hev
    ·
     rename_i i hi;obtain⟨k,first,caps,hgk,hik⟩:∃k first caps,g= .fn (.func k) first caps∧E.inl k=some i.1∧i.2=(first,caps):=by
      unfold pY at hi;split at hi
      ·split at hi
       ·rename_i j hj;cases hi;exact⟨_,_,_,rfl,hj,rfl⟩
       ·cases hi
      ·cases hi
     obtain⟨hik,hi2⟩:=hik;subst hgk;have hok:=hcall.inl k _ hik;obtain⟨vx,vy,hvx,hx,hy,hrx,hry⟩:=hvf.fn_inv;have q3:as.length=c.args.size:=by simpa using q1
     unfold pZ at hev;split at hev
     ·rename_i p hp;cases hev;rw[hi2] at hp;refine iN hF (fun c e=>by rw[ho] at e;cases e) (f:=k) (vs:=vx++(c.args.map a.eval++vy)) ?_ ((hok.ok I0 B I A σ.T a w σ.H p.2 _ (vx++(c.args.map a.eval++vy)) p.1 h hgl hB hp (by simp[q1,hx,hy]) fun j d v hd hv=> ?_).mono ?_)
      ·unfold execOp;rw[ho];simp[resolve,hc,hvx,Deferred.ofValue,invoke,hok.en]
      ·dsimp only at hd;by_cases c1:j<first.length
       ·rw[zb6 c1] at hd;rw[Array.getElem?_append_left (by omega)] at hv;exact hrx j d v hd hv
       ·rw[zb5 (by omega)] at hd;rw[Array.getElem?_append_right (by omega),←hx] at hv;by_cases c2:j-first.length<as.length
        ·rw[zb6 c2] at hd;rw[Array.getElem?_append_left (by simp;omega)] at hv;exact hq _ d v hd hv
        ·rw[zb5 (by omega)] at hd;rw[Array.getElem?_append_right (by simp;omega)] at hv;exact hry _ d v hd (by simpa [q1] using hv)
      ·rintro e w' ⟨v,rfl,hst⟩
       exact⟨v,rfl,hK _ _ hst⟩
     ·cases hev
    rename_i hnone;clear hnone;split at hev
    ·rename_i en hen;obtain⟨e0,n0⟩:=en;obtain⟨k,hgk,hwk⟩:∃k,g= .fn (.func k) [] []∧E.wr k=some (.own e0 n0):=by
      unfold kr at hen;split at hen
      ·rename_i e1 n1 hmu;cases hen;unfold gX at hmu;split at hmu
       ·exact⟨_,rfl,hmu⟩
       ·cases hmu
      ·cases hen
     subst hgk;rcases zt hcall hwk h hgl hB hev hvf (vargs:=c.args.map a.eval) (by simp[q1]) hq with⟨k,vs,r1,r2⟩|⟨v,r1,r2⟩
     case inr=>exact kH hF (fun c e=>by rw[ho] at e;cases e) (v:=v) (w':=w) (by unfold execOp;rw[ho];simp only[resolve,hc];exact r1) (hK _ _ r2)
     refine iN hF (fun c e=>by rw[ho] at e;cases e) (f:=k) (vs:=vs) ?_ (r2.mono ?_)
     ·unfold execOp;rw[ho];simp only[resolve,hc];exact r1
     ·rintro e w' ⟨v,rfl,hst⟩
      exact⟨v,rfl,hK _ _ hst⟩
    ·split at hev
     ·rename_i m hm;obtain⟨k,hgk,hen,hmx⟩:∃k,g= .fn (.func k) [] []∧(∀vs w,(callFunc k vs).run E.P w= .ok (.enter k vs) w)∧Calls E.P k (c.args.map a.eval) w fun e w'=>∃v,e= .returned v∧Step I0 B I a w d σ' v w':=by
       unfold nS at hm;split at hm
       ·rename_i p mp hmu;split at hm
        ·unfold gX at hmu;split at hmu
         ·rename_i k _;have hpk:zl E.P E.gl k p mp:=hcall.wr k _ hmu;cases hm;simp only[jB] at hev;exact⟨k,rfl,hpk.1,zp (E:=E) hpk h hgl hB hev (vargs:=c.args.map a.eval) (by simp[q1]) hq⟩
         ·cases hmu
        ·cases hm
       ·rename_i p mp hmu;split at hm
        ·split at hm
         ·unfold gX at hmu;split at hmu
          ·rename_i k _;have hpk:zm E.P E.gl k p mp:=hcall.wr k _ hmu;cases hm;simp only[jB] at hev;exact⟨k,rfl,hpk.1,zq (E:=E) hpk h hgl hB hev (vargs:=c.args.map a.eval) (by simp[q1]) hq⟩
          ·cases hmu
         ·cases hm
        ·cases hm
       ·rename_i mu hnp hnw hmu;split at hm
        ·unfold gX at hmu;split at hmu
         ·rename_i k _;have hmk:xj E.P E.gl k mu.f:=by
           have h1:=hcall.wr k _ hmu;cases mu with
           |plc p mp=>exact absurd rfl (hnp p mp)
           |plw p mp=>exact absurd rfl (hnw p mp)
           |fn g=>exact h1
           |tab t g=>exact h1
           |own e n=>exact h1
          cases hm;simp only[jB] at hev;exact⟨k,rfl,hmk.1,zo (E:=E) hmk h hgl hB hev (vargs:=c.args.map a.eval) (by simp[q1]) hq⟩
         ·cases hmu
        ·cases hm
       ·cases hm
      ·subst hgk;obtain⟨vx,vy,hvx,hx,hy,_⟩:=hvf.fn_inv;have ex:vx= #[]:=by simpa using hx.symm
       have ey:vy= #[]:=by simpa using hy.symm
       subst ex ey;refine iN hF (fun c e=>by rw[ho] at e;cases e) (f:=k) (vs:=c.args.map a.eval) ?_ (hmx.mono ?_)
       ·unfold execOp;rw[ho];simp[resolve,hc,hvx,Deferred.ofValue,invoke,hen]
       ·rintro e w' ⟨v,rfl,hst⟩
        exact⟨v,rfl,hK _ _ hst⟩
     ·rcases qg hcall h hgl hB hev hvf (vargs:=c.args.map a.eval) (by simp[q1]) hq with⟨k,vs,r1,r2⟩|⟨v,r1,r2⟩
      case inr=>exact kH hF (fun c e=>by rw[ho] at e;cases e) (v:=v) (w':=w) (by unfold execOp;rw[ho];simp only[resolve,hc];exact r1) (hK _ _ r2)
      refine iN hF (fun c e=>by rw[ho] at e;cases e) (f:=k) (vs:=vs) ?_ (r2.mono ?_)
      ·unfold execOp;rw[ho];simp only[resolve,hc];exact r1
      ·rintro e w' ⟨v,rfl,hst⟩
       exact⟨v,rfl,hK _ _ hst⟩
   ·cases hev
  ·rename_i hc;split at hev
   ·rename_i s x t u' ha ht;split at hev
    ·rename_i ds dx hs hx;split at hev
     ·rename_i htu;subst htu;obtain⟨u,w',r1,r2⟩:=s6 h hB hev (bU h hgl hs) (bU h hgl hx) o.type;refine value (fun c e=>by rw[ho] at e;cases e) ⟨u,w',?_,r2⟩;have e1:c.args= #[s,x]:=by rw[←Array.toArray_toList (xs:=c.args),ha]
      have e2:c.argTypes= #[t,t]:=by rw[←Array.toArray_toList (xs:=c.argTypes),ht]
      unfold execOp;rw[ho];simp only[resolve,hc,e1,e2,invoke,builtin,pure_bind,Sem.run_bind,Sem.run_pure,Result.andThen_ok,List.map_toArray,List.map_cons,List.map_nil,r1]
     ·cases hev
    ·cases hev
   ·cases hev
  ·rename_i hc;split at hev
   ·rename_i x t ha ht;have e1:c.args= #[x]:=by rw[←Array.toArray_toList (xs:=c.args),ha]
    have e2:c.argTypes= #[t]:=by rw[←Array.toArray_toList (xs:=c.argTypes),ht]
    split at hev
    ·rename_i dx e' hx hu;obtain⟨h1,rfl⟩:=co hev;obtain⟨u,r1,r2⟩:=zh (E:=E) (w:=w) hu h1 (bU h hgl hx) o.type;refine value (fun c e=>by rw[ho] at e;cases e) ⟨u,w,?_,Step.pure h r2⟩;unfold execOp;rw[ho];simp only[resolve,hc,e1,e2,invoke,builtin,pure_bind,Sem.run_bind,Sem.run_pure,Result.andThen_ok,List.map_toArray,List.map_cons,List.map_nil,r1]
    ·rename_i dx k' e' hx hu;obtain⟨h1,rfl⟩:=co hev;obtain⟨u,r1,r2⟩:=yd h hu h1 (bU h hgl hx) o.type;refine value (fun c e=>by rw[ho] at e;cases e) ⟨u,w,?_,Step.pure h r2⟩;unfold execOp;rw[ho];simp only[resolve,hc,e1,e2,invoke,builtin,pure_bind,Sem.run_bind,Sem.run_pure,Result.andThen_ok,List.map_toArray,List.map_cons,List.map_nil,r1]
    ·exact viaScal (fun c e=>by rw[ho] at e;cases e) hev
    ·cases hev
   ·cases hev
  ·exact viaScal (fun c e=>by rw[ho] at e;cases e) hev
  ·exact viaScal (fun c e=>by rw[ho] at e;cases e) hev
  ·rename_i hc;split at hev
   ·rename_i x t ha ht;have e1:c.args= #[x]:=by rw[←Array.toArray_toList (xs:=c.args),ha]
    have e2:c.argTypes= #[t]:=by rw[←Array.toArray_toList (xs:=c.argTypes),ht]
    split at hev
    ·rename_i dx hx;obtain⟨u,w',r1,r2⟩:=vC h hev (bU h hgl hx) o.type;refine value (fun c e=>by rw[ho] at e;cases e) ⟨u,w',?_,r2⟩;unfold execOp;rw[ho];simp only[resolve,hc,e1,e2,invoke,builtin,pure_bind,Sem.run_bind,Sem.run_pure,Result.andThen_ok,List.map_toArray,List.map_cons,List.map_nil,r1]
    ·cases hev
   ·cases hev
  ·rename_i hc;split at hev
   ·rename_i x y t t2 ha ht;have e1:c.args= #[x,y]:=by rw[←Array.toArray_toList (xs:=c.args),ha]
    have e2:c.argTypes= #[t,t2]:=by rw[←Array.toArray_toList (xs:=c.argTypes),ht]
    split at hev
    ·rename_i dx dy hx hy;obtain⟨u,w',r1,r2⟩:=yj (t2:=t2) h hev (bU h hgl hx) (bU h hgl hy) o.type;refine value (fun c e=>by rw[ho] at e;cases e) ⟨u,w',?_,r2⟩;unfold execOp;rw[ho];simp only[resolve,hc,e1,e2,invoke,builtin,pure_bind,Sem.run_bind,Sem.run_pure,Result.andThen_ok,List.map_toArray,List.map_cons,List.map_nil,r1]
    ·cases hev
   ·cases hev
  ·cases hev
 ·
  rename_i op t x y s ho;split at hev
  ·rename_i dx dy hx hy;split at hev
   ·rename_i d1 h1;simp only[za0,zb2] at hev;obtain⟨rfl,rfl⟩:=hev;obtain⟨u,r1,r2⟩:=vB (E:=E) (w:=w) (x:=x) (y:=y) h1 (bU h hgl hx) (bU h hgl hy);exact value (fun c e=>by rw[ho] at e;cases e) ⟨u,w,by unfold execOp;rw[ho];rw[Sem.run_bind,r1];rfl,Step.pure h r2⟩
   ·exact viaScal (fun c e=>by rw[ho] at e;cases e) hev
  ·cases hev
 ·rename_i ho;exact viaScal (fun c e=>by rw[ho] at e;cases e) hev
 ·rename_i src dst x ho;split at hev
  ·rename_i d1 h1;simp only[za0,zb2] at hev;obtain⟨rfl,rfl⟩:=hev;obtain⟨u,r1,r2⟩:=vD (E:=E) (w:=w) h1 fun dx hx=>bU h hgl hx;exact value (fun c e=>by rw[ho] at e;cases e) ⟨u,w,by unfold execOp;rw[ho];rw[Sem.run_bind,r1];rfl,Step.pure h r2⟩
  ·exact viaScal (fun c e=>by rw[ho] at e;cases e) hev
 ·rename_i ho;exact viaScal (fun c e=>by rw[ho] at e;cases e) hev
 ·cases hev
end
end Go.Pd
end
section
namespace Go.Pd
def ku(T2:List D):Option (D×St)→Option (D×St)
 |some (d,σ)=>some (d,⟨T2,σ.H⟩)
 |none=>none
def DT(T2:List D):Option St→Option St
 |some σ=>some ⟨T2,σ.H⟩
 |none=>none
@[simp] theorem F4(T2:List D):ku T2 none=none:=rfl
@[simp] theorem zu(T2:List D)(d:D)(σ:St):ku T2 (some (d,σ))=some (d,⟨T2,σ.H⟩):=rfl
@[simp] theorem F5(T2:List D):DT T2 none=none:=rfl
@[simp] theorem F6(T2:List D)(σ:St):DT T2 (some σ)=some ⟨T2,σ.H⟩:=rfl
section
variable {E:Env}{T T2:List D}{H:List (Nat×Option Ob)}
theorem dR(x:Option D):eB ⟨T2,H⟩ x=ku T2 (eB ⟨T,H⟩ x):=by cases x<;>rfl
theorem rA(x:Option St):unit (DT T2 x)=ku T2 (unit x):=by cases x<;>rfl
theorem gh(dst:Option Tmp)(o:Ob)(mk:Nat→Nat→D):cj ⟨T2,H⟩ dst o mk=ku T2 (cj ⟨T,H⟩ dst o mk):=by
 unfold cj;cases dst with
 |none=>rfl
 |some s=>dsimp only;split<;>rfl
theorem zw(dst:Option Tmp)(o:Ob)(mk:Nat→Nat→D)(ss:List Nat):cj (St.freeze ⟨T2,H⟩ ss) dst o mk=ku T2 (cj (St.freeze ⟨T,H⟩ ss) dst o mk):=gh dst o mk
theorem zx(dst:Option Tmp)(o:Ob)(mk:Nat→Nat→D)(ss:List Nat)(s:Nat):cj ((St.freeze ⟨T2,H⟩ ss).setOb s none) dst o mk=ku T2 (cj ((St.freeze ⟨T,H⟩ ss).setOb s none) dst o mk):=gh dst o mk
theorem yk(dst:Option Tmp)(t:TypeId):iF E ⟨T2,H⟩ dst t=ku T2 (iF E ⟨T,H⟩ dst t):=by
 unfold iF;split
 ·split
  ·split<;>exact gh ..
  ·rfl
 ·rfl
theorem BJ(dst:Option Tmp)(x:D):nO ⟨T2,H⟩ dst x=ku T2 (nO ⟨T,H⟩ dst x):=by
 unfold nO;split
 ·exact gh ..
 ·rfl
theorem ym(t:TypeId)(p x:D):dX E ⟨T2,H⟩ t p x=DT T2 (dX E ⟨T,H⟩ t p x):=by
 unfold dX;dsimp only
 repeat' (first|rfl|split)
theorem zy(dst:Option Tmp)(t:TypeId)(p:D):jx E ⟨T2,H⟩ dst t p=ku T2 (jx E ⟨T,H⟩ dst t p):=by
 unfold jx;dsimp only
 repeat' (first|rfl|split)
theorem BK(t:TypeId)(p x:D):mC E ⟨T2,H⟩ t p x=DT T2 (mC E ⟨T,H⟩ t p x):=by
 unfold mC;dsimp only
 repeat' (first|rfl|split)
theorem om(t:TypeId)(n:Nat)(l:List (Nat×D)):cS E ⟨T2,H⟩ t n l=ku T2 (cS E ⟨T,H⟩ t n l):=by
 unfold cS;dsimp only
 repeat' (first|rfl|split)
theorem vF(dst:Option Tmp)(e:TypeId)(n b m:Nat)(news:List D)(ss:List Nat)(s:D):cN ⟨T2,H⟩ dst e n b m news ss s=ku T2 (cN ⟨T,H⟩ dst e n b m news ss s):=by
 unfold cN;dsimp only
 repeat' (first|rfl|exact zw .. |exact zx .. |split)
theorem vG(dst:Option Tmp)(t:TypeId)(s x:D):dU E ⟨T2,H⟩ dst t s x=ku T2 (dU E ⟨T,H⟩ dst t s x):=by
 unfold dU;dsimp only
 repeat' (first|rfl|exact vF .. |split)
theorem pJ(dst:Option Tmp)(t:TypeId)(s x:D):dE E ⟨T2,H⟩ dst t s x=ku T2 (dE E ⟨T,H⟩ dst t s x):=by
 unfold dE
 repeat' (first|rfl|exact gh .. |split)
theorem BL(e:TypeId)(x:D)(y:Nat×Nat×Nat×Nat)(lo hi:Option D):nQ E ⟨T2,H⟩ e x y lo hi=ku T2 (nQ E ⟨T,H⟩ e x y lo hi):=by
 unfold nQ
 repeat' (first|rfl|split)
theorem vH(t:TypeId)(x:D)(lo hi:Option D):eU E ⟨T2,H⟩ t x lo hi=ku T2 (eU E ⟨T,H⟩ t x lo hi):=by
 unfold eU;dsimp only
 repeat' (first|rfl|split)
theorem yn(t:TypeId)(x:D)(lo hi:Option D):dF E ⟨T2,H⟩ t x lo hi=ku T2 (dF E ⟨T,H⟩ t x lo hi):=by
 unfold dF;dsimp only
 repeat' (first|rfl|exact BL .. |exact vH .. |split)
theorem yo(t:TypeId)(x:D):gc E ⟨T2,H⟩ t x=ku T2 (gc E ⟨T,H⟩ t x):=by
 unfold gc;dsimp only
 repeat' (first|rfl|split)
theorem rB(n:Nat)(q r:Nat×Nat×Nat×Nat):eK ⟨T2,H⟩ n q r=ku T2 (eK ⟨T,H⟩ n q r):=by
 unfold eK;dsimp only
 repeat' (first|rfl|split)
theorem vI(s:Nat)(ks vs:List D)(k v:D):gv ⟨T2,H⟩ s ks vs k v=DT T2 (gv ⟨T,H⟩ s ks vs k v):=by
 unfold gv;dsimp only
 repeat' (first|rfl|split)
theorem zz(t:TypeId)(x y:D):iG E ⟨T2,H⟩ t x y=ku T2 (iG E ⟨T,H⟩ t x y):=by
 unfold iG;dsimp only
 repeat' (first|rfl|exact rB .. |split)
theorem kv(t:TypeId)(m k v:D):cD E ⟨T2,H⟩ t m k v=DT T2 (cD E ⟨T,H⟩ t m k v):=by
 unfold cD;dsimp only
 repeat' (first|rfl|exact vI .. |split)
theorem th(f:D)(args:List D):fw E ⟨T2,H⟩ f args=ku T2 (fw E ⟨T,H⟩ f args):=by
 unfold fw;dsimp only
 repeat' (first|rfl|split)
 all_goals simp[ku]
theorem BM(o:Bool)(dst:Option Tmp)(g:lc)(args:List D):lk o ⟨T2,H⟩ dst g args=ku T2 (lk o ⟨T,H⟩ dst g args):=by
 unfold lk;dsimp only
 repeat' (first|rfl|exact gh .. |split)
theorem BN(p:Nat)(g:List D→Option D)(args:List D):mD ⟨T2,H⟩ p g args=ku T2 (mD ⟨T,H⟩ p g args):=by
 unfold mD;dsimp only
 repeat' (first|rfl|split)
theorem BO(p:Nat)(g:List D→Option D)(args:List D):mE ⟨T2,H⟩ p g args=ku T2 (mE ⟨T,H⟩ p g args):=by
 unfold mE;dsimp only
 repeat' (first|rfl|split)
theorem BP(g:List (Nat×Option Ob)→List D→Option (D×List (Nat×Option Ob)))(ds:List D):pZ ⟨T2,H⟩ g ds=ku T2 (pZ ⟨T,H⟩ g ds):=by
 unfold pZ;dsimp only;split<;>rfl
theorem zA(dst:Option Tmp)(m:MutX)(args:List D):jB ⟨T2,H⟩ dst m args=ku T2 (jB ⟨T,H⟩ dst m args):=by
 cases m with
 |fst o g=>exact BM ..
 |plc p g=>exact BN ..
 |plw p g=>exact BO ..
theorem zB(f:D)(args:List D):jz E ⟨T2,H⟩ f args=jz E ⟨T,H⟩ f args:=rfl
theorem BQ(dst:Option Tmp)(e:TypeId)(n:Nat)(f:D)(args:List D):jA E ⟨T2,H⟩ dst e n f args=ku T2 (jA E ⟨T,H⟩ dst e n f args):=by
 unfold jA;rw[zB (T2:=T2) (T:=T)];split
 ·split
  ·exact gh ..
  ·rfl
 ·exact th ..
theorem yp(dst:Option Tmp)(t:TypeId)(x:D):iH E ⟨T2,H⟩ dst t x=ku T2 (iH E ⟨T,H⟩ dst t x):=by
 unfold iH;split
 ·exact gh ..
 ·rfl
theorem zC(x:D):gY ⟨T2,H⟩ x=ku T2 (gY ⟨T,H⟩ x):=by
 unfold gY;dsimp only
 repeat' (first|rfl|split)
def Same(T T2:List D)(l:List Operand):Prop:=∀t,.tmp t∈l→T2[t]?=T[t]?
theorem Same.val{l:List Operand}(h:Same T T2 l){H H':List (Nat×Option Ob)}{x:Operand}(hx:x∈l):St.val E ⟨T2,H⟩ x=St.val E ⟨T,H'⟩ x:=by
 cases x with
 |tmp t=>exact h t hx
 |const v=>rfl
 |global g=>rfl
 |func f=>rfl
theorem nh{l:List Operand}(h:Same T T2 l):fp E ⟨T2,H⟩ l=fp E ⟨T,H⟩ l:=by
 induction l with
 |nil=>rfl
 |cons x xs ih=>
  simp only[fp];rw[h.val (H:=H) (H':=H) (za4 ..),ih fun t ht=>h t (za5 _ ht)]
theorem oo{l:List (Nat×Operand)}(h:Same T T2 (l.map (·.2))):eT E ⟨T2,H⟩ l=eT E ⟨T,H⟩ l:=by
 induction l with
 |nil=>rfl
 |cons p xs ih=>
  obtain⟨i,x⟩:=p;simp only[eT];rw[h.val (H:=H) (H':=H) (by simp),ih fun t ht=>h t (by simp;right;simpa using ht)]
theorem ti{x:Option Operand}(h:∀y,x=some y→St.val E ⟨T2,H⟩ y=St.val E ⟨T,H⟩ y):dM E ⟨T2,H⟩ x=dM E ⟨T,H⟩ x:=by
 cases x with
 |none=>rfl
 |some y=>simp only[dM];rw[h y rfl]
theorem zD{o:Oper}{H H':List (Nat×Option Ob)}(h:Same T T2 o.op.operands.toList):dP E ⟨T2,H⟩ o=dP E ⟨T,H'⟩ o:=by
 have h1:∀x∈o.op.operands,gu E ⟨T2,H⟩ x=gu E ⟨T,H'⟩ x:=fun x hx=>by
  unfold gu;rw[h.val (H:=H) (H':=H') (by simpa using hx)]
 have h2:∀x∈o.op.operands,d4 E ⟨T2,H⟩ x=d4 E ⟨T,H'⟩ x:=fun x hx=>by
  unfold d4;rw[h.val (H:=H) (H':=H') (by simpa using hx)]
 unfold dP;split
 ·rfl
 ·rename_i hs;rw[execOp_congr o (fun cs b e=>hs cs b e) h1];have:o.op.operands.all (d4 E ⟨T2,H⟩)=o.op.operands.all (d4 E ⟨T,H'⟩):=by
   rw[Bool.eq_iff_iff];simp only[Array.all_eq_true'];exact⟨fun hh x hx=>(h2 x hx)▸hh x hx,fun hh x hx=>(h2 x hx).symm▸hh x hx⟩
  rw[this]
theorem zE{o:Oper}(h:Same T T2 o.op.operands.toList):cB E ⟨T2,H⟩ o=ku T2 (cB E ⟨T,H⟩ o):=by
 have hsc:=zD (E:=E) (H:=H) (H':=H) h;have V:∀x,x∈o.op.operands.toList→St.val E ⟨T2,H⟩ x=St.val E ⟨T,H⟩ x:=fun x hx=>h.val hx;unfold cB;cases ho:o.op<;>rw[ho] at V h<;>simp only[Op.operands] at V h<;>dsimp only
 case move x=>rw[V x (by simp)];exact dR _
 case assign x=>rw[V x (by simp)];exact dR _
 case pick c x y=>
  rw[V c (by simp)];split
  ·rename_i t _;cases t<;>simp only[Bool.false_eq_true,if_false,if_true]
   ·rw[V y (by simp)];exact dR _
   ·rw[V x (by simp)];exact dR _
  ·rfl
 case extract x i=>rw[V x (by simp)];split<;>first|exact dR _|rfl
 case alloc t=>exact yk ..
 case box t x=>rw[V x (by simp)];split<;>first|exact BJ .. |rfl
 case build t ps=>rw[oo (T:=T) (by simpa using h)];split<;>first|exact dR _|rfl
 case buildSlice t n ps=>rw[oo (T:=T) (by simpa using h)];split<;>first|exact om .. |rfl
 case load t x=>rw[V x (by simp)];split<;>first|(split<;>first|exact zy .. |exact dR _)|rfl
 case store t x y=>rw[V x (by simp),V y (by simp)];split<;>first|(split<;>first|(rw[BK (T:=T)];exact rA _)|(rw[ym (T:=T)];exact rA _))|rfl
 case fieldAddr t x f=>rw[V x (by simp)];split<;>first|exact dR _|rfl
 case field t x f=>rw[V x (by simp)];split<;>first|exact dR _|rfl
 case indexAddr t x i=>rw[V x (by simp),V i (by simp)];split<;>first|exact dR _|rfl
 case nilCheck x=>rw[V x (by simp)];split<;>rfl
 case makeFunc f x y=>
  split
  ·rw[nh (T:=T) (fun t ht=>h t (by simp at ht ⊢;exact .inl ht)),nh (T:=T) (fun t ht=>h t (by simp at ht ⊢;exact .inr ht))];split<;>rfl
  ·rfl
 case makeInterface t x=>rw[V x (by simp)];repeat' (first|rfl|split)
 case makeMap t r=>cases r<;>first|exact gh .. |rfl
 case lookup t x k ok=>rw[V x (by simp),V k (by simp)];split<;>first|exact dR _|rfl
 case mapUpdate t x k y=>rw[V x (by simp),V k (by simp),V y (by simp)];split<;>first|(rw[kv (T:=T)];exact rA _)|rfl
 case insert t x k y=>rw[V x (by simp),V k (by simp),V y (by simp)];split<;>first|(rw[kv (T:=T)];exact rA _)|rfl
 case makeSlice t l c=>rw[V l (by simp),V c (by simp)];split<;>first|exact pJ .. |rfl
 case slice t x lo hi mx=>
  rw[V x (by simp),ti (T:=T) (x:=lo) (fun y hy=>V y (by simp[hy])),ti (T:=T) (x:=hi) (fun y hy=>V y (by simp[hy])),hsc];split
  ·exact dR _
  ·split<;>first|exact yn .. |rfl
  ·rfl
 case range t x=>rw[V x (by simp)];split<;>first|exact yp .. |rfl
 case next it s=>rw[V it (by simp)];split<;>first|exact zC .. |rfl
 case call c=>
  split
  ·rename_i f hc;rw[V f (by simp[Call.operands,hc]),nh (T:=T) (fun t ht=>h t (by simp[Call.operands] at ht ⊢;exact .inr ht))];split
   ·split
    ·exact BP ..
    split
    ·exact BQ ..
    ·split
     ·exact zA ..
     ·exact th ..
   ·rfl
  ·split
   ·rename_i s x t u ha ht;rw[V s (by simp[Call.operands,ha]),V x (by simp[Call.operands,ha])]
    repeat' (first|rfl|exact vG .. |split)
   ·rfl
  ·split
   ·rename_i x t ha ht;rw[V x (by simp[Call.operands,ha]),hsc]
    repeat' (first|rfl|exact dR _|split)
   ·rfl
  ·rw[hsc];exact dR _
  ·rw[hsc];exact dR _
  ·split
   ·rename_i x t ha ht;rw[V x (by simp[Call.operands,ha])];split
    ·exact yo ..
    ·rfl
   ·rfl
  ·split
   ·rename_i x y t t2 ha ht;rw[V x (by simp[Call.operands,ha]),V y (by simp[Call.operands,ha])];split
    ·exact zz ..
    ·rfl
   ·rfl
  ·rfl
 case binOp op t x y s=>
  rw[V x (by simp),V y (by simp),hsc];split
  ·split
   ·rfl
   ·exact dR _
  ·rfl
 case unOp=>rw[hsc];exact dR _
 case convert src dst x=>
  rw[hsc];rw[V x (zc8.2 rfl)];cases ll E src dst (St.val E ⟨T,H⟩ x) with
  |some d=>rfl
  |none=>exact dR _
 case index=>rw[hsc];exact dR _
 all_goals rfl
end
def Has(H H2:List (Nat×Option Ob)):Prop:=∀s g o,bw H s g=some o→∃o2,bw H2 s g=some o2∧o2.freeze=o.freeze
theorem Has.refl(H:List (Nat×Option Ob)):Has H H:=fun _ _ o h=>⟨o,h,rfl⟩
theorem Has.box{H H2:List (Nat×Option Ob)}(h:Has H H2){s g:Nat}{cs:List D}{fz:Bool}(hl:bw H s g=some (.box cs fz)):∃fz2,bw H2 s g=some (.box cs fz2):=by
 obtain⟨o2,h1,h2⟩:=h _ _ _ hl;cases o2<;>simp[Ob.freeze] at h2;subst h2;exact⟨_,h1⟩
theorem Has.arr{H H2:List (Nat×Option Ob)}(h:Has H H2){s g:Nat}{e:TypeId}{n:Nat}{cs:List D}{fz:Bool}(hl:bw H s g=some (.arr e n cs fz)):∃fz2,bw H2 s g=some (.arr e n cs fz2):=by
 obtain⟨o2,h1,h2⟩:=h _ _ _ hl;cases o2<;>simp[Ob.freeze] at h2;obtain⟨rfl,rfl,rfl⟩:=h2;exact⟨_,h1⟩
theorem Has.map{H H2:List (Nat×Option Ob)}(h:Has H H2){s g:Nat}{ks vs:List D}{fz:Bool}(hl:bw H s g=some (.map ks vs fz)):∃fz2,bw H2 s g=some (.map ks vs fz2):=by
 obtain⟨o2,h1,h2⟩:=h _ _ _ hl;cases o2<;>simp[Ob.freeze] at h2;obtain⟨rfl,rfl⟩:=h2;exact⟨_,h1⟩
theorem Has.mrf{H H2:List (Nat×Option Ob)}(h:Has H H2){s g:Nat}{ks vs:List D}{fz:Bool}(hl:bw H s g=some (.mrf ks vs fz)):∃fz2,bw H2 s g=some (.mrf ks vs fz2):=by
 obtain⟨o2,h1,h2⟩:=h _ _ _ hl;cases o2<;>simp[Ob.freeze] at h2;obtain⟨rfl,rfl⟩:=h2;exact⟨_,h1⟩
theorem Has.freeze(H:List (Nat×Option Ob))(ss:List Nat):Has H (bF H ss):=fun s g o h=>by
 rw[cq,h];split
 ·exact⟨o.freeze,rfl,g6 o⟩
 ·exact⟨o,rfl,rfl⟩
theorem Has.thaw(H:List (Nat×Option Ob))(ss:List Nat):Has (bF H ss) H:=fun s g o h=>by
 rw[cq] at h;split at h
 ·cases hl:bw H s g with
  |none=>rw[hl] at h;simp at h
  |some o'=>rw[hl] at h;simp at h;subst h;exact⟨o',rfl,(g6 o').symm⟩
 ·exact⟨o,h,rfl⟩
def Dead(H:List (Nat×Option Ob))(s:Nat):Prop:=∀g,bw H s g=none
theorem Has.new{H:List (Nat×Option Ob)}{s:Nat}(hd:Dead H s)(n:Nat)(ob:Option Ob):Has H (H.set s (n,ob)):=fun s' g o h=>by
 by_cases e:s=s'
 ·subst e;rw[hd g] at h;cases h
 ·exact⟨o,by rw[bW e];exact h,rfl⟩
theorem im{f f2:D→Option (D×List Nat)}(hf:∀d r,f d=some r→f2 d=some r):∀(ds:List D) (r:List D×List Nat),cF f ds=some r→cF f2 ds=some r
 |[],r,h=>h
 |d::ds,r,h=>by
  simp only[cF] at h ⊢;split at h
  ·cases h
  ·rename_i d' ss hd;split at h
   ·cases h
   ·rename_i ds' ss' hds;rw[hf _ _ hd,im hf _ _ hds];exact h
theorem eo{H H2:List (Nat×Option Ob)}(h:Has H H2):∀(n:Nat) (d:D) (r:D×List Nat),bO H n d=some r→bO H2 n d=some r
 |0,_,_,hs=>by cases hs
 |n+1,d,r,hs=>by
  have L:=im (eo h n);cases d with
  |loc s g off=>
   simp only[bO] at hs ⊢;split at hs
   ·rename_i cs fz hl;obtain⟨fz2,hl2⟩:=h.box hl;rw[hl2];split at hs
    ·rename_i x1 x2 hx;simp only[L _ _ hx];exact hs
    ·cases hs
   ·rename_i e k cs fz hl;obtain⟨fz2,hl2⟩:=h.arr hl;rw[hl2];exact hs
   ·cases hs
  |own s g len=>
   simp only[bO] at hs ⊢;split at hs
   ·rename_i e k cs fz hl;obtain⟨fz2,hl2⟩:=h.arr hl;rw[hl2];exact hs
   ·cases hs
  |win s g off len n=>
   simp only[bO] at hs ⊢;split at hs
   ·rename_i e k cs fz hl;obtain⟨fz2,hl2⟩:=h.arr hl;rw[hl2];exact hs
   ·cases hs
  |mloc s g=>
   simp only[bO] at hs ⊢;split at hs
   ·rename_i ks vs fz hl;obtain⟨fz2,hl2⟩:=h.map hl;rw[hl2];exact hs
   ·rename_i ks vs fz hl;obtain⟨fz2,hl2⟩:=h.mrf hl;rw[hl2];split at hs
    ·rename_i x1 x2 hx;simp only[L _ _ hx];exact hs
    ·cases hs
   ·cases hs
  |agg cs=>
   simp only[bO] at hs ⊢;split at hs
   ·rename_i x1 x2 hx;simp only[L _ _ hx];exact hs
   ·cases hs
  |tup cs=>
   simp only[bO] at hs ⊢;split at hs
   ·rename_i x1 x2 hx;simp only[L _ _ hx];exact hs
   ·cases hs
  |fn f a b=>
   simp only[bO] at hs ⊢;split at hs
   ·rename_i x1 x2 hx;split at hs
    ·rename_i y1 y2 hy;simp only[L _ _ hx,L _ _ hy];exact hs
    ·cases hs
   ·cases hs
  |ifc t x=>
   simp only[bO] at hs ⊢;split at hs
   ·rename_i x1 x2 hx;simp only[eo h n _ _ hx];exact hs
   ·cases hs
  |_=>exact hs
def Lives(H:List (Nat×Option Ob))(ss:List Nat):Prop:=∀s∈ss,∃g o,bw H s g=some o
theorem Lives.append{H:List (Nat×Option Ob)}{ss ss':List Nat}(h:Lives H ss)(h':Lives H ss'):Lives H (ss++ss'):=fun s hs=>by
 rcases za9.1 hs with h1|h1
 ·exact h s h1
 ·exact h' s h1
theorem Lives.cons{H:List (Nat×Option Ob)}{s g:Nat}{o:Ob}{ss:List Nat}(hl:bw H s g=some o)(h:Lives H ss):Lives H (s::ss):=fun s' hs=>by
 rcases List.mem_cons.1 hs with rfl|h1
 ·exact⟨g,o,hl⟩
 ·exact h s' h1
theorem jJ{H:List (Nat×Option Ob)}{f:D→Option (D×List Nat)}(hf:∀d d' ss,f d=some (d',ss)→Lives H ss):∀(ds ds':List D) (ss:List Nat),cF f ds=some (ds',ss)→Lives H ss
 |[],_,_,h=>by simp only[cF,za0,zb2] at h;obtain⟨rfl,rfl⟩:=h;exact fun s hs=>by cases hs
 |d::ds,ds',ss,h=>by
  simp only[cF] at h;split at h
  ·cases h
  ·rename_i d' s1 hd;split at h
   ·cases h
   ·rename_i ds1 s2 hds;simp only[za0,zb2] at h;obtain⟨rfl,rfl⟩:=h;exact(hf _ _ _ hd).append (jJ hf _ _ _ hds)
theorem fT{H:List (Nat×Option Ob)}:∀(n:Nat) (d d':D) (ss:List Nat),bO H n d=some (d',ss)→Lives H ss
 |0,_,_,_,hs=>by cases hs
 |n+1,d,d',ss,hs=>by
  have L:=jJ (fT (H:=H) n);cases d with
  |loc s g off=>
   simp only[bO] at hs;split at hs
   ·rename_i hl;split at hs
    ·rename_i hx;simp only[za0,zb2] at hs;obtain⟨rfl,rfl⟩:=hs;exact(L _ _ _ hx).cons hl
    ·cases hs
   ·rename_i hl;simp only[za0,zb2] at hs;obtain⟨rfl,rfl⟩:=hs;exact Lives.cons hl (fun s hs=>by cases hs)
   ·cases hs
  |own s g len=>
   simp only[bO] at hs;split at hs
   ·rename_i hl;simp only[za0,zb2] at hs;obtain⟨rfl,rfl⟩:=hs;exact Lives.cons hl (fun s hs=>by cases hs)
   ·cases hs
  |win s g off len n=>
   simp only[bO] at hs;split at hs
   ·rename_i hl;simp only[za0,zb2] at hs;obtain⟨rfl,rfl⟩:=hs;exact Lives.cons hl (fun s hs=>by cases hs)
   ·cases hs
  |mloc s g=>
   simp only[bO] at hs;split at hs
   ·rename_i hl;simp only[za0,zb2] at hs;obtain⟨rfl,rfl⟩:=hs;exact Lives.cons hl (fun s hs=>by cases hs)
   ·rename_i hl;split at hs
    ·rename_i hx;simp only[za0,zb2] at hs;obtain⟨rfl,rfl⟩:=hs;exact(L _ _ _ hx).cons hl
    ·cases hs
   ·cases hs
  |agg cs=>
   simp only[bO] at hs;split at hs
   ·rename_i hx;simp only[za0,zb2] at hs;obtain⟨rfl,rfl⟩:=hs;exact L _ _ _ hx
   ·cases hs
  |tup cs=>
   simp only[bO] at hs;split at hs
   ·rename_i hx;simp only[za0,zb2] at hs;obtain⟨rfl,rfl⟩:=hs;exact L _ _ _ hx
   ·cases hs
  |fn f a b=>
   simp only[bO] at hs;split at hs
   ·rename_i hx;split at hs
    ·rename_i hy;simp only[za0,zb2] at hs;obtain⟨rfl,rfl⟩:=hs;exact(L _ _ _ hx).append (L _ _ _ hy)
    ·cases hs
   ·cases hs
  |ifc t x=>
   simp only[bO] at hs;split at hs
   ·rename_i hx;simp only[za0,zb2] at hs;obtain⟨rfl,rfl⟩:=hs;exact fT n _ _ _ hx
   ·cases hs
  |_=>simp only[bO,za0,zb2] at hs;obtain⟨rfl,rfl⟩:=hs;exact fun s hs=>by cases hs
theorem g9{H H2:List (Nat×Option Ob)}(h:Has H H2):∀(l:List (Nat×D)) (r:List (Nat×D)) (ss:List Nat),dL H l=some (r,ss)→Lives H ss∧dL H2 l=some (r,ss)
 |[],_,_,hs=>by simp only[dL,za0,zb2] at hs;obtain⟨rfl,rfl⟩:=hs;exact⟨(fun s hs=>by cases hs),rfl⟩
 |(i,d)::l,r,ss,hs=>by
  simp only[dL] at hs ⊢;split at hs
  ·cases hs
  ·rename_i d' s1 hd;split at hs
   ·cases hs
   ·rename_i r1 s2 hr;simp only[za0,zb2] at hs;obtain⟨rfl,rfl⟩:=hs;obtain⟨a1,a2⟩:=g9 h _ _ _ hr;exact⟨(fT _ _ _ _ hd).append a1,by simp only[eo h _ _ _ hd,a2]⟩
theorem tj{H H2:List (Nat×Option Ob)}(h:Has H H2){p:D}{r:List D×Nat}(hc:fK H p=some r):fK H2 p=some r:=by
 unfold fK at hc ⊢;split at hc
 ·split at hc
  ·rename_i hl;obtain⟨_,hl2⟩:=h.box hl;simp only[hl2];exact hc
  ·rename_i hl;obtain⟨_,hl2⟩:=h.arr hl;simp only[hl2];exact hc
  ·cases hc
 ·exact hc
 ·cases hc
theorem yq{H H2:List (Nat×Option Ob)}(h:Has H H2){p:D}{r:List D×List D}(hc:nR H p=some r):nR H2 p=some r:=by
 unfold nR at hc ⊢;split at hc
 ·split at hc
  ·rename_i hl;obtain⟨_,hl2⟩:=h.map hl;simp only[hl2];exact hc
  ·rename_i hl;obtain⟨_,hl2⟩:=h.mrf hl;simp only[hl2];exact hc
  ·cases hc
 ·exact hc
 ·exact hc
 ·cases hc
theorem vJ{H H2:List (Nat×Option Ob)}(h:Has H H2){p r:D}(hc:kD H p=some r):kD H2 p=some r:=by
 unfold kD at hc ⊢;split at hc
 ·split at hc
  ·rename_i hl;obtain⟨_,hl2⟩:=h.map hl;simp only[hl2];exact hc
  ·cases hc
 ·exact hc
 ·exact hc
 ·cases hc
inductive Kd where|pure|rd|al|ef
 deriving DecidableEq
def kd(P:Program)(o:Oper):Kd:=match o.op with
 | .move _| .assign _| .pick _ _ _| .extract _ _| .build _ _| .fieldAddr _ _ _| .field _ _ _| .indexAddr _ _ _| .nilCheck _| .makeFunc _ _ _| .makeInterface _ _
 | .binOp _ _ _ _ _| .unOp _ _ _| .convert _ _ _| .index _ _ _=> .pure
 | .load _ _| .lookup _ _ _ _| .buildSlice _ _ _| .slice _ _ _ _ _=> .rd
 | .alloc _| .box _ _| .makeMap _ none| .makeSlice _ _ _| .range _ _=> .al
 | .call c=>match c.callee with
  | .value _=> .rd
  | .builtin .max=> .pure
  | .builtin .min=> .pure
  | .builtin .len=>match c.argTypes.toList with
   |[t]=>match P.underlying t with
    |some (.slice _)=> .pure
    |some .string=> .pure
    |_=> .rd
   |_=> .ef
  |_=> .ef
 |_=> .ef
section
variable {E:Env}{T:List D}{H:List (Nat×Option Ob)}{o:Oper}{d:D}{σ':St}
theorem eY(E:Env)(T:List D)(H H2:List (Nat×Option Ob))(x:Operand):St.val E ⟨T,H2⟩ x=St.val E ⟨T,H⟩ x:=by cases x<;>rfl
theorem lv(E:Env)(T:List D)(H H2:List (Nat×Option Ob)):∀l,fp E ⟨T,H2⟩ l=fp E ⟨T,H⟩ l
 |[]=>rfl
 |x::l=>by simp only[fp];rw[eY E T H H2,lv E T H H2 l]
theorem lw(E:Env)(T:List D)(H H2:List (Nat×Option Ob)):∀l,eT E ⟨T,H2⟩ l=eT E ⟨T,H⟩ l
 |[]=>rfl
 |(i,x)::l=>by simp only[eT];rw[eY E T H H2,lw E T H H2 l]
theorem oq(E:Env)(T:List D)(H H2:List (Nat×Option Ob))(x:Option Operand):dM E ⟨T,H2⟩ x=dM E ⟨T,H⟩ x:=by
 cases x with
 |none=>rfl
 |some y=>simp only[dM];rw[eY E T H H2]
theorem lZ(E:Env)(T:List D)(H H2:List (Nat×Option Ob))(o:Oper):dP E ⟨T,H2⟩ o=dP E ⟨T,H⟩ o:=zD fun _ _=>rfl
theorem dD{x:Option D}(h:eB ⟨T,H⟩ x=some (d,σ')):σ'=⟨T,H⟩∧∀H2,eB ⟨T,H2⟩ x=some (d,⟨T,H2⟩):=by
 obtain⟨rfl,rfl⟩:=co h;exact⟨rfl,fun _=>rfl⟩
theorem lx(hk:kd E.P o= .pure)(h:cB E ⟨T,H⟩ o=some (d,σ')):σ'=⟨T,H⟩∧∀H2,cB E ⟨T,H2⟩ o=some (d,⟨T,H2⟩):=by
 unfold kd at hk;unfold cB at h ⊢;cases ho:o.op<;>simp only[ho,reduceCtorEq] at hk
 case call c=>
  simp only[ho] at h ⊢;split at hk
  ·cases hk
  ·rename_i hc;simp only[hc,fun H2=>lZ E T H H2] at h ⊢;exact dD h
  ·rename_i hc;simp only[hc,fun H2=>lZ E T H H2] at h ⊢;exact dD h
  ·rename_i hc;simp only[hc,fun H2=>lZ E T H H2,fun H2=>eY E T H H2] at h ⊢;split at hk
   ·rename_i t ht;simp only[ht] at h ⊢;split at h
    ·rename_i x t' ha ht';cases ht';split at h
     ·rename_i hx hu;exact dD h
     ·rename_i hx hu;simp only[hu] at hk;cases hk
     ·rename_i hx hu;exact dD h
     ·cases h
    ·cases h
   ·cases hk
  ·cases hk
 all_goals simp only[ho,fun H2=>eY E T H H2,fun H2=>lv E T H H2,fun H2=>lw E T H H2,fun H2=>lZ E T H H2] at h ⊢
 case makeMap t r=>cases r<;>cases hk
 case move=>exact dD h
 case assign=>exact dD h
 case unOp=>exact dD h
 case convert src dst x=>
  cases hb:ll E src dst (St.val E ⟨T,H⟩ x) with
  |some d0=>
   simp only[hb,za0,zb2] at h;obtain⟨rfl,rfl⟩:=h;exact⟨rfl,fun H2=>rfl⟩
  |none=>
   simp only[hb] at h;obtain⟨h1,h2⟩:=dD h;exact⟨h1,fun H2=>h2 H2⟩
 case index=>exact dD h
 case binOp op t x y s=>
  split at h
  ·rename_i a b hx hy;split at h
   ·rename_i d1 h1;simp only[za0,zb2] at h;obtain⟨rfl,rfl⟩:=h;exact⟨rfl,fun _=>rfl⟩
   ·exact dD h
  ·cases h
 case makeInterface t x=>
  split at h
  ·split at h
   ·cases h
   ·split at h
    ·rename_i hc;simp only[za0,zb2] at h;obtain⟨rfl,rfl⟩:=h;exact⟨rfl,fun _=>by rw[if_pos hc]⟩
    ·cases h
   ·cases h
  ·cases h
 case makeFunc f x y=>
  split at h
  ·split at h
   ·simp only[za0,zb2] at h;obtain⟨rfl,rfl⟩:=h;exact⟨rfl,fun _=>rfl⟩
   ·cases h
  ·cases h
 case nilCheck x=>
  split at h
  all_goals first|cases h;done|(simp only[za0,zb2] at h;obtain⟨rfl,rfl⟩:=h;exact⟨rfl,fun _=>rfl⟩)
 all_goals
  split at h
  ·exact dD h
  ·cases h
theorem ni{x:List (Nat×Option Ob)→Option D}(hx:∀H2,Has H H2→∀d,x H=some d→x H2=some d)(h:eB ⟨T,H⟩ (x H)=some (d,σ')):
  ∃ss,σ'=⟨T,bF H ss⟩∧Lives H ss∧∀H2,Has H H2→eB ⟨T,H2⟩ (x H2)=some (d,⟨T,bF H2 ss⟩):=by
 obtain⟨h1,rfl⟩:=co h;exact⟨[],rfl,(fun s hs=>by cases hs),fun H2 h2=>by rw[hx H2 h2 d h1];rfl⟩
theorem vK{H2:List (Nat×Option Ob)}(hh:Has H H2){t:TypeId}{p d:D}(h:d5 E ⟨T,H⟩ t p=some d):d5 E ⟨T,H2⟩ t p=some d:=by
 unfold d5 at h ⊢;dsimp only at h ⊢;split at h
 ·cases h
 ·rename_i cs off hc;rw[tj hh hc];exact h
theorem rC{H2:List (Nat×Option Ob)}(hh:Has H H2){t:TypeId}{x k d:D}{ok:Bool}(h:eV E ⟨T,H⟩ t x k ok=some d):eV E ⟨T,H2⟩ t x k ok=some d:=by
 unfold eV at h ⊢;split at h
 ·cases h
 ·split at h
  ·rename_i hk;rw[if_pos hk];split at h
   ·rename_i ks vs z hm hz;simp only[yq hh hm,hz];exact h
   ·cases h
  ·cases h
def Env.calm(E:Env):Prop:=E.nst=false∧∀k,E.inl k=none
theorem qi(h:E.calm)(g:D):pY E g=none:=by
 unfold pY;split
 ·rw[h.2]
 ·rfl
theorem zF(hns:E.calm)(hst:∀c f g,o.op= .call c→c.callee= .value f→St.val E ⟨T,H⟩ f=some g→gX E g=none)(hk:kd E.P o= .rd)(h:cB E ⟨T,H⟩ o=some (d,σ')):∃ss,σ'=⟨T,bF H ss⟩∧Lives H ss∧∀H2,Has H H2→cB E ⟨T,H2⟩ o=some (d,⟨T,bF H2 ss⟩):=by
 unfold kd at hk;unfold cB at h ⊢;cases ho:o.op<;>simp only[ho,reduceCtorEq] at hk
 case makeMap t r=>cases r<;>cases hk
 all_goals simp only[ho,fun H2=>eY E T H H2,fun H2=>lv E T H H2,fun H2=>lw E T H H2,fun H2=>lZ E T H H2,fun H2=>oq E T H H2] at h ⊢
 case load t x=>
  split at h
  ·rename_i p hp;simp only[hns.1,Bool.false_and] at h ⊢;exact ni (x:=fun H=>d5 E ⟨T,H⟩ t p) (fun H2 h2 d h=>vK h2 h) h
  ·cases h
 case lookup t x k ok=>
  split at h
  ·rename_i p q hp hq;exact ni (x:=fun H=>eV E ⟨T,H⟩ t p q ok) (fun H2 h2 d h=>rC h2 h) h
  ·cases h
 case buildSlice t n ps=>
  split at h
  ·rename_i l hl;unfold cS at h ⊢;split at h
   ·cases h
   ·rename_i e he;dsimp only at h ⊢;split at h
    ·rename_i n' z ps' ss hn hz hs;split at h
     ·rename_i hc;split at h
      ·rename_i cs hf;simp only[za0,zb2] at h;obtain⟨rfl,rfl⟩:=h;refine⟨ss,rfl,(g9 (Has.refl H) _ _ _ hs).1,fun H2 h2=> ?_⟩;simp only[hn,hz,(g9 h2 _ _ _ hs).2,hc,if_true,hf];rfl
      ·cases h
     ·cases h
    ·cases h
  ·cases h
 case slice t x lo hi mx=>
  split at h
  ·exact ni (x:=fun _=>dP E ⟨T,H⟩ o) (fun H2 _ d h=>h) h
  ·rename_i dx hx;split at h
   ·rename_i l hh hlo hhi;unfold dF at h ⊢;split at h
    ·split at h
     ·rename_i d0 hd0;cases h;exact⟨[],rfl,(fun s hs=>by cases hs),fun H2 h2=>by first|rfl|simp_all⟩
     ·rename_i hA;unfold eU at h;split at h
      ·rename_i n e s g ha;split at h
       ·rename_i m cs fz l h' hm hl hlo' hhi';split at h
        ·rename_i hcc;simp only[za0,zb2] at h;obtain⟨rfl,rfl⟩:=h;refine⟨[s],rfl,(fun s' hs'=>by rw[zc8.1 hs'];exact⟨g,_,hl⟩),fun H2 h2=> ?_⟩;obtain⟨fz2,hl2⟩:=h2.box hl;unfold eU;simp only[ha,hm,hl2,hlo',hhi',if_pos hcc];rfl
        ·cases h
       ·cases h
      ·cases h
    ·rename_i e he;dsimp only at h ⊢;split at h
     ·rename_i y hy;unfold nQ at h ⊢;split at h
      ·split at h
       ·rename_i hc;simp only[za0,zb2] at h;obtain⟨rfl,rfl⟩:=h;refine⟨[],rfl,(fun s hs=>by cases hs),fun H2 h2=> ?_⟩;simp only[if_pos hc];rfl
       ·cases h
      ·cases h
     split at h
     ·rename_i n full len cs ss hn hs;split at h
      ·rename_i lo' hi' hl' hh';split at h
       ·rename_i hc;simp only[za0,zb2] at h;obtain⟨rfl,rfl⟩:=h;refine⟨ss,rfl,fT _ _ _ _ hs,fun H2 h2=> ?_⟩;simp only[hn,eo h2 _ _ _ hs,hl',hh',hc,and_self,if_true];rfl
       ·cases h
      ·cases h
     ·rename_i n ss hn hs;split at h
      ·rename_i lo' hi' _ _;split at h
       ·rename_i hc;simp only[za0,zb2] at h;obtain⟨rfl,rfl⟩:=h;refine⟨[],rfl,(fun s hs=>by cases hs),fun H2 h2=> ?_⟩;simp only[hn,eo h2 _ _ _ hs,hc,and_self,if_true];rfl
       ·cases h
      ·cases h
     ·cases h
   ·cases h
  ·cases h
 case call c=>
  split at hk
  ·rename_i f hc;simp only[hc] at h ⊢;split at h
   ·rename_i g as hg has;have hmu:gX E g=none:=hst c f g ho hc hg;have hoo:kr E g=none:=by
     have:gX E g=none:=hmu;unfold kr;rw[this]
    simp only[qi hns,hoo] at h ⊢;have hmo:∀as,nS E g as=none:=fun as=>by
     have:gX E g=none:=hmu;unfold nS;rw[this]
    simp only[hmo] at h ⊢;unfold fw at h ⊢;split at h
    ·rename_i k first caps
     dsimp only at h ⊢;split at h
     ·cases h
     ·rename_i ds ss hs;have hL:=jJ (H:=H) (fT (H:=H) depth) _ _ _ hs;split at h
      ·cases h
      ·rename_i r hr;simp only[za0,zb2] at h;obtain⟨rfl,rfl⟩:=h;by_cases hp:r.plain=true
       ·rw[if_pos hp];refine⟨[],rfl,(fun s hs=>by cases hs),fun H2 h2=> ?_⟩;simp only[im (eo h2 depth) _ _ hs,hr,if_pos hp];rfl
       ·rw[if_neg hp];refine⟨ss,rfl,hL,fun H2 h2=> ?_⟩;simp only[im (eo h2 depth) _ _ hs,hr,if_neg hp];rfl
    ·cases h
   ·cases h
  ·cases hk
  ·cases hk
  ·rename_i hc;split at hk
   ·rename_i t ht;simp only[hc,ht] at h ⊢;split at h
    ·rename_i x t' ha ht';cases ht';split at h
     ·rename_i hx hu;simp only[hu] at hk;cases hk
     ·rename_i dx k' e' hx hu;exact ni (x:=fun H=>kD H dx) (fun H2 h2 d h=>vJ h2 h) h
     ·rename_i hx hu;simp only[hu] at hk;cases hk
     ·cases h
    ·cases h
   ·cases hk
  ·cases hk
end
end Go.Pd
end
