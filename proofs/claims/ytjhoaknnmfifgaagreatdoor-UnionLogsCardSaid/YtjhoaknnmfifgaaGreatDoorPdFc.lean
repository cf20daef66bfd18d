import Derived.Test.YtjhoaknnmfifgaaGreatDoorPdFb
import Derived.MapKept
import Derived.WalkSpells
import Derived.RangeFuncCalls
import Derived.Orders
section
namespace Go.Pd
open Go.RowKit
section
variable {E:Env}{I0:Nat→Prop}{B:Nat→Prop}{I:Nat→Prop}{A:Nat→Nat→Option Gh}{σ:St}{a:Act}{w:World}{G:Nat→Nat}
theorem u6{f:Value→Value→Bool}:∀{l:List Value},(∀v∈l,f v v=true)→((l.zip l).all fun x=>f x.1 x.2)=true
 |[],_=>rfl
 |v::l,h=>by
  simp only[List.zip_cons_cons,List.all_cons,h v (za4 ..),Bool.true_and];exact u6 fun u hu=>h u (za5 _ hu)
theorem Ar{k:D}{v:Value}(hv:RelV I A G w k v){P:Program}{t:TypeId}(hkk:cD P t k=true)(n:Nat):Instr.sameBits (n+1) v v=true:=by
 have hkk0:=hkk;unfold cD at hkk;split at hkk
 ·rw[hv.int_inv];simp[Instr.sameBits]
 ·rw[hv.str_inv];simp[Instr.sameBits,(MapKept.bytes_beq _ _).2 rfl]
 ·rw[hv.bool_inv];simp[Instr.sameBits]
 ·obtain⟨fs,hu,_,hkf⟩:=dC hkk0;obtain⟨vs,h1,h2,_⟩:=fe hkf;rw[hv.toV1 (u:= .agg vs.toArray) (by simp[D.toV1,h1])];unfold Instr.sameBits;simp only[ze3,Bool.true_and];refine u6 (f:=fun x y=>Instr.sameBits n x y) fun v hv=> ?_;rcases h2 v hv with⟨k,a,rfl⟩|⟨s,rfl⟩|⟨b,rfl⟩
  ·cases n<;>simp[Instr.sameBits]
  ·cases n<;>simp[Instr.sameBits,(MapKept.bytes_beq _ _).2 rfl]
  ·cases n<;>simp[Instr.sameBits]
 ·cases hkk
def cS(w:World)(b:Nat)(o:Obj):World:={w with heap:=w.heap.setIfInBounds b o}
theorem bW(w:World)(b:Nat)(o:Obj):(cS w b o).heap.size=w.heap.size:=by simp[cS]
theorem ci(w:World)(b:Nat)(o:Obj){k:Nat}(h:k≠b):(cS w b o).heap[k]?=w.heap[k]?:=by
 simp[cS,Ne.symm h]
theorem cY{w:World}{b:Nat}{o:Obj}(h:b<w.heap.size):(cS w b o).heap[b]?=some o:=by
 simp[cS,h]
theorem iM{B:Nat→Prop}{w:World}{b:Nat}(hb:¬B b)(o:Obj):Blw B w (cS w b o):=
 ⟨rfl,rfl,rfl,by simp[cS],fun k hk=>ci w b o (fun e=>hb (e▸hk))⟩
theorem nB{P:Program}{t:TypeId}{k:D}(h:cD P t k=true):Clo k:=by
 have h0:=h;unfold cD at h;split at h
 ·exact .atom rfl
 ·exact .atom rfl
 ·exact .atom rfl
 ·obtain⟨fs,hu,_,hkf⟩:=dC h0;obtain⟨vs,h1,h2,h3⟩:=fe hkf;exact .agg _ fun d hd=>by
   rcases h3 d hd with⟨k,a,rfl⟩|⟨s,rfl⟩|⟨b,rfl⟩<;>exact .atom rfl
 ·cases h
theorem u7(h:Inv I0 B I A σ a w){t kt et:TypeId}{s g:Nat}{ks vs:List D}{k x:D}{σ':St}(hmt:fA E.P t=some (kt,et))(hkk:cD E.P kt k=true)(hl:bi σ.H s g=some (.mrf ks vs false))(hs:gi σ s ks vs k x=some σ'){vm vk vx:Value}(hm:RelV I A (bl σ.H) w (.mloc s g) vm)(hk:RelV I A (bl σ.H) w k vk)(hx:RelV I A (bl σ.H) w x vx):
  ∃w',(Instr.mapUpdate t vm vk vx).run E.P w= .ok () w'∧Step I0 B I a w (.tup []) σ' undef w':=by
 obtain⟨kd,hkd⟩:=gU hkk;unfold gi at hs;split at hs
 ·rename_i s1 g1 len;split at hs
  ·rename_i e n cs hl1 hf;simp only[za0] at hs;subst hs;obtain⟨y,hy,hyB,es,ck,hb,hkl,hvl,hkr,hvr,hfr,hclo⟩:=h.ob s g _ hl;have hnI:¬I y.b:=fun hi=>by have:=hfr.2 hi;cases this
   obtain⟨y1,hy1,hyB1,hok1⟩:=h.ob s1 g1 _ hl1;have hok1':=hok1;obtain⟨c,hb1,_,_,_,_,_,hfr1,_⟩:=hok1';have hnI1:¬I y1.b:=fun hi=>by have:=hfr1.2 hi;cases this
   have hne:s1≠s:=fun e=>by
    subst e;have h1:=bT hl1;have h2:=bT hl;have:g1=g:=by omega
    subst this;rw[hl] at hl1;cases hl1
   obtain⟨hx1,hx2⟩:=hx.own_inv hy1;obtain⟨A1,k1,kA,kN,kR⟩:=h.kill s1 (dq hl1);have k2:=k1.grow;have hlen:σ.H.length<((σ.setOb s1 none).grow).H.length:=by simp[St.grow,St.setOb]
   have hg0:bl ((σ.setOb s1 none).grow).H σ.H.length=0:=by
    show bl ((σ.H.set s1 (bl σ.H s1,none))++[(0,none)]) σ.H.length=0;rw[genH_grow];simp[bl]
   have hgg:bl ((σ.setOb s1 none).grow).H=bl (σ.setOb s1 none).H:=funext (genH_grow _);obtain⟨A2,m1,m2,m3,m4⟩:=k2.new (x:=y1) (o:= .arr e n cs false) hlen (w':=w) (hyB1.resolve_left hnI1) (fun s' g' z hz ez=>by
     by_cases es':s'=s1
     ·subst es';rw[kN] at hz;cases hz
     ·rw[kA _ _ es'] at hz;exact es' (h.inj _ _ _ _ _ _ hz hy1 ez).1) (zb0 _) (fun _ _=>rfl) (fun _ _ _ _=>rfl)
    (fun A' G' hR=>hok1.carry (fun d v hr=>hR d v (by rw[hgg];exact kR d v hr)) rfl Iff.rfl)
    (fun z j b hb=>by
     obtain⟨q0,q1,q2,q3,q4,q5,q6,q7,q8,q9,q10,r1,r2,r3⟩:=hb;have hz:RowAt A σ.H w z j b:=RowAt.unkill ⟨q0,q1,q2,q3,q4,q5,q6,q7,q8,q9,q10,r1,(by rw[←lk];exact r2),r3⟩ kA kN;exact⟨fun e=>(h.rw.sep z j b hz).2.2.2 _ _ _ hy1 e,rfl⟩)
   rw[hg0] at m2;have hsl:s<σ.H.length:=dq hl;have hA2:A2 s g=some y:=by rw[m4,if_neg (by omega),kA _ _ (Ne.symm hne)];exact hy
   have hls:bi (((σ.setOb s1 none).grow).newOb σ.H.length (.arr e n cs false)).H s g=some (.mrf ks vs false):=by
    simp only[St.newOb];rw[bO (by omega)];show bi ((σ.H.set s1 (bl σ.H s1,none))++[(0,none)]) s g=_;rw[lk,bO hne];exact hl
   have hR2:∀d v,RelV I A (bl σ.H) w d v→RelV I A2 (bl (((σ.setOb s1 none).grow).newOb σ.H.length (.arr e n cs false)).H) w d v:=fun d v hr=>m3 d v (by rw[hgg];exact kR d v hr);have hlt:y.b<w.heap.size:=(zc0.1 hb).1;have hu:=gV hmt;have hck:=iL (w:=w) hkk hk false 9998;rw[hm.mloc_inv hy];have hfn:=jM hk hkd hkk hf (es:=es.toList) (by simpa using hkl) (fun j d e hd he=>hkr j d e hd (by simpa using he));have hgl:0<bl (((σ.setOb s1 none).grow).newOb σ.H.length (.arr e n cs false)).H σ.H.length:=by
    simp only[St.newOb];rw[cu hlen];exact Nat.succ_pos _
   have hvx:RelV I A2 (bl (((σ.setOb s1 none).grow).newOb σ.H.length (.arr e n cs false)).H) w (.own σ.H.length 0 len) vx:=by
    rw[hx1];cases hx with
    |clo hx=>cases hx
    |own _ _ _ ad cap hg hlc hh=>
     obtain⟨e1,e2,_⟩:=hh _ hy1;refine .own _ _ _ _ _ hgl (by rw[←e2];exact hlc) fun z hz=> ?_;rw[m2] at hz;cases hz;exact⟨rfl,rfl,hx2⟩
   have hok:(∀d v,RelV I A2 (bl (((σ.setOb s1 none).grow).newOb σ.H.length (.arr e n cs false)).H) w d v→RelV I A2 (bl (((σ.setOb s1 none).grow).newOb σ.H.length (.arr e n cs false)).H) (cS w y.b (.map (es.push {key:=vk,val:=vx,born:=ck}) (ck+1))) d v)→
     OkOb I A2 (bl (((σ.setOb s1 none).grow).newOb σ.H.length (.arr e n cs false)).H) (cS w y.b (.map (es.push {key:=vk,val:=vx,born:=ck}) (ck+1))) y (.mrf (ks++[k]) (vs++[.own σ.H.length 0 len]) false):=by
    intro hR;refine⟨_,_,cY hlt,by simp[hkl],by simp[hvl],fun j' d e' hd he=> ?_,fun j' d e' hd he=> ?_,⟨(fun hh=>by cases hh),fun hi=>absurd hi hnI⟩,fun d hd=> ?_⟩
    ·rw[Array.getElem?_push] at he;by_cases ej:j'=es.size
     ·rw[if_pos ej] at he;cases he;rw[zb8 (by omega),ej,hkl] at hd;simp at hd;subst hd;exact hR _ _ (hR2 _ _ hk)
     ·rw[if_neg ej] at he;have hj:=(zc0.1 he).1;rw[zb9 (by omega)] at hd;exact hR _ _ (hR2 _ _ (hkr j' d e' hd he))
    ·rw[Array.getElem?_push] at he;by_cases ej:j'=es.size
     ·rw[if_pos ej] at he;cases he;rw[zb8 (by omega),ej,hvl] at hd;simp at hd;subst hd;exact hR _ _ hvx
     ·rw[if_neg ej] at he;have hj:=(zc0.1 he).1;rw[zb9 (by omega)] at hd;exact hR _ _ (hR2 _ _ (hvr j' d e' hd he))
    ·rcases za9.1 hd with h2|h2
     ·exact hclo d h2
     ·rw[zd1.1 h2];exact nB hkk
   obtain⟨hi',hR⟩:=m1.set (o':= .mrf (ks++[k]) (vs++[.own σ.H.length 0 len]) false) hls hA2 hnI (w':=cS w y.b (.map (es.push {key:=vk,val:=vx,born:=ck}) (ck+1))) (bW _ _ _) (fun b hb'=>ci w y.b _ hb') hok;refine⟨cS w y.b (.map (es.push {key:=vk,val:=vx,born:=ck}) (ck+1)),?_,I,A2,hi',fL,fun _ hb=>hb,fun b hb'=>ci w y.b _ (fun e=>hnI (e▸hb')),iM (hyB.resolve_left hnI) _⟩;simp only[Instr.mapUpdate,Sem.run_bind,run_underlying hu,Result.andThen_ok,getObj,Sem.run,hb,hck,hfn,setObj,cS]
  ·cases hs
 ·cases hs
theorem jN(h:Inv I0 B I A σ a w){t:TypeId}{m k x:D}{σ':St}(hs:cy E σ t m k x=some σ'){vm vk vx:Value}(hm:RelV I A (bl σ.H) w m vm)(hk:RelV I A (bl σ.H) w k vk)(hx:RelV I A (bl σ.H) w x vx):
  ∃w',(Instr.mapUpdate t vm vk vx).run E.P w= .ok () w'∧Step I0 B I a w (.tup []) σ' undef w':=by
 unfold cy at hs;split at hs
 ·rename_i kt et s g hmt;split at hs
  ·rename_i hkk;obtain⟨kd,hkd⟩:=gU hkk;split at hs
   ·rename_i ks vs hl;split at hs
    ·cases hs
    ·rename_i x' ss hsn;split at hs
     ·cases hs
     ·rename_i hns;have hns':s∉ss:=by simpa using hns
      obtain⟨b1,b2⟩:=cr h depth _ _ _ hsn;obtain⟨hfz,hRf⟩:=h.freeze ss b1.free;obtain⟨y,hy,hyB,es,ck,hb,hkl,hvl,hkr,hvr,hfr,hclo⟩:=h.ob s g _ hl;have hnI:¬I y.b:=fun hi=>by have:=hfr.2 hi;cases this
      have hnI':¬du I A ss y.b:=by
       rintro (hi|⟨s',hs',g',y',hy',hb'⟩)
       ·exact hnI hi
       ·exact hns' ((h.inj _ _ _ _ _ _ hy hy' hb').1▸hs')
      have hlf:bi (σ.freeze ss).H s g=some (.map ks vs false):=by
       have:=ch ss σ.H s g;simpa [hns',hl,St.freeze] using this
      have hlt:y.b<w.heap.size:=(zc0.1 hb).1;have hu:=gV hmt;have hck:=iL (w:=w) hkk hk false 9998;rw[hm.mloc_inv hy];have hck2:Clo k:=nB hkk;have hcx:Clo x':=(b2 vx hx).clo;have fin:∀(ks' vs':List D) (es':Array MapEntry) (ck':Nat),ks'.length=es'.size→vs'.length=es'.size→
        (∀(j:Nat) (d:D) (e:MapEntry),ks'[j]?=some d→es'[j]?=some e→RelV (du I A ss) A (bl (σ.freeze ss).H) w d e.key)→(∀(j:Nat) (d:D) (e:MapEntry),vs'[j]?=some d→es'[j]?=some e→RelV (du I A ss) A (bl (σ.freeze ss).H) w d e.val)→(∀d,(d∈ks'∨d∈vs')→Clo d)→
        Step I0 B I a w (.tup []) ((σ.freeze ss).setOb s (some (.map ks' vs' false))) undef (cS w y.b (.map es' ck')):=by
       intro ks' vs' es' ck' h1 h2 h3 h4 h5;obtain⟨hi',hR⟩:=hfz.set (o':= .map ks' vs' false) hlf hy hnI' (w':=cS w y.b (.map es' ck')) (bW _ _ _) (fun b hb'=>ci w y.b _ hb') (fun hR=>
        ⟨es',ck',cY hlt,h1,h2,fun j d e hd he=>hR _ _ (h3 j d e hd he),fun j d e hd he=>hR _ _ (h4 j d e hd he),⟨(fun hh=>by cases hh),fun hi=>absurd hi hnI'⟩,h5⟩)
       exact⟨du I A ss,A,hi',fL,fun _ hb=> .inl hb,fun b hb'=>ci w y.b _ (fun e=>hnI (e▸hb')),iM (hyB.resolve_left hnI) _⟩
      split at hs
      ·rename_i i hf;simp only[za0] at hs;subst hs;obtain⟨j,e,dk,rfl,he,hdk,heq,hfn⟩:=jM hk hkd hkk hf (es:=es.toList) (by simpa using hkl) (fun j d e hd he=>hkr j d e hd (by simpa using he));rw[Nat.zero_add] at hfn ⊢;have he':es[j]?=some e:=by simpa using he
       have hjlt:j<es.size:=(zc0.1 he').1;have hdk':=xn heq;subst hdk';have hke:e.key=vk:=by
        have r1:=hkr j _ e hdk he';obtain⟨u,hu'⟩:=uW hkk;rw[r1.toV1 hu',hk.toV1 hu']
       have hkts:(Instr.keyThatStays (((es[j]?).map (·.key)).getD vk) vk).run E.P w= .ok vk w:=by
        rw[he'];simp only[Option.map_some,Option.getD_some,hke];simp[Instr.keyThatStays,Ar hk hkk]
       refine⟨cS w y.b (.map (es.modify j fun e=>{e with key:=vk,val:=vx}) ck),?_,fin _ _ _ _ (by simpa using hkl) (by simpa using hvl) (fun j' d e' hd he=> ?_) (fun j' d e' hd he=> ?_) (fun d hd=>by
        rcases hd with h1|h1
        ·exact hclo d (.inl h1)
        ·rcases List.mem_or_eq_of_mem_set h1 with h2|h2
         ·exact hclo d (.inr h2)
         ·rw[h2];exact hcx)⟩
       ·simp only[Instr.mapUpdate,Sem.run_bind,run_underlying hu,Result.andThen_ok,getObj,Sem.run,hb,hck,hfn,hkts,setObj,cS]
       ·rw[Array.getElem?_modify] at he;by_cases ej:j=j'
        ·subst ej;rw[if_pos rfl,he'] at he;simp only[Option.map_some,za0] at he;subst he;rw[hdk] at hd;cases hd;exact hRf _ _ hk
        ·rw[if_neg ej] at he;exact hRf _ _ (hkr j' d e' hd he)
       ·rw[Array.getElem?_modify] at he;by_cases ej:j=j'
        ·subst ej;rw[if_pos rfl,he'] at he;simp only[Option.map_some,za0] at he;subst he;rw[List.getElem?_set_self (by omega)] at hd;cases hd;exact .clo (b2 vx hx)
        ·rw[if_neg ej] at he;rw[List.getElem?_set_ne ej] at hd;exact hRf _ _ (hvr j' d e' hd he)
      ·rename_i hf;simp only[za0] at hs;subst hs;have hfn:=jM hk hkd hkk hf (es:=es.toList) (by simpa using hkl) (fun j d e hd he=>hkr j d e hd (by simpa using he));refine⟨cS w y.b (.map (es.push {key:=vk,val:=vx,born:=ck}) (ck+1)),?_,fin _ _ _ _ (by simp[hkl]) (by simp[hvl]) (fun j' d e' hd he=> ?_) (fun j' d e' hd he=> ?_) (fun d hd=>by
        rcases hd with h1|h1
        ·rcases za9.1 h1 with h2|h2
         ·exact hclo d (.inl h2)
         ·rw[zd1.1 h2];exact hck2
        ·rcases za9.1 h1 with h2|h2
         ·exact hclo d (.inr h2)
         ·rw[zd1.1 h2];exact hcx)⟩
       ·simp only[Instr.mapUpdate,Sem.run_bind,run_underlying hu,Result.andThen_ok,getObj,Sem.run,hb,hck,hfn,setObj,cS]
       ·rw[Array.getElem?_push] at he;by_cases ej:j'=es.size
        ·rw[if_pos ej] at he;cases he;rw[zb8 (by omega),ej,hkl] at hd;simp at hd;subst hd;exact hRf _ _ hk
        ·rw[if_neg ej] at he;have hj:=(zc0.1 he).1;rw[zb9 (by omega)] at hd;exact hRf _ _ (hkr j' d e' hd he)
       ·rw[Array.getElem?_push] at he;by_cases ej:j'=es.size
        ·rw[if_pos ej] at he;cases he;rw[zb8 (by omega),ej,hvl] at hd;simp at hd;subst hd;exact .clo (b2 vx hx)
        ·rw[if_neg ej] at he;have hj:=(zc0.1 he).1;rw[zb9 (by omega)] at hd;exact hRf _ _ (hvr j' d e' hd he)
      ·cases hs
   ·rename_i ks vs hl;split at hs
    ·exact u7 h hmt hkk hl hs hm hk hx
    ·cases hs
   ·cases hs
  ·cases hs
 ·cases hs
theorem As(h:Inv I0 B I A σ a w)(hB:∀k,B k→k<w.heap.size){dst:Option Tmp}{d:D}{σ':St}{b:Bool}(hn:ce σ dst (GW b) (fun s g=> .mloc s g)=some (d,σ'))(t:TypeId):
  ∃u w',(Instr.makeMap t none).run E.P w= .ok u w'∧Step I0 B I a w d σ' u w':=by
 refine⟨.map (some w.heap.size),w.alloc (.map #[] 0),by simp[Instr.makeMap],?_⟩;cases b with
 |true=>
  refine jH (w1:=w) (x:=⟨w.heap.size,0,0⟩) h hB hn (fun _ _=>rfl) (Blw.refl _ _) rfl rfl rfl (fun A' G' hR=> ?_) (fun s g A' G' hA hg=> ?_)
  ·exact⟨#[],0,cE w _,rfl,rfl,(fun j d e hd=>by simp at hd),(fun j d e hd=>by simp at hd),⟨(fun hh=>by cases hh),fun hi=>by have:=h.iw _ hi;exact absurd this (zc8 _)⟩,fun d hd=>by cases hd⟩
  ·exact .mloc _ _ _ hg fun y hy=>by rw[hA] at hy;cases hy;rfl
 |false=>
  refine jH (w1:=w) (x:=⟨w.heap.size,0,0⟩) h hB hn (fun _ _=>rfl) (Blw.refl _ _) rfl rfl rfl (fun A' G' hR=> ?_) (fun s g A' G' hA hg=> ?_)
  ·exact⟨#[],0,cE w _,rfl,rfl,(fun j d e hd=>by simp at hd),(fun j d e hd=>by simp at hd),⟨(fun hh=>by cases hh),fun hi=>by have:=h.iw _ hi;exact absurd this (zc8 _)⟩,fun d hd=>by rcases hd with h|h<;>cases h⟩
  ·exact .mloc _ _ _ hg fun y hy=>by rw[hA] at hy;cases hy;rfl
theorem xo(h:Inv I0 B I A σ a w)(hB:∀k,B k→k<w.heap.size){dst:Option Tmp}{t:TypeId}{x d:D}{σ':St}(hn:iH E σ dst t x=some (d,σ')){v:Value}(hv:RelV I A (bl σ.H) w x v):
  ∃u w',(Instr.range t v).run E.P w= .ok u w'∧Step I0 B I a w d σ' u w':=by
 unfold iH at hn;split at hn
 ·rename_i s hu;rw[hv.str_inv];refine⟨.pointer (some ⟨w.heap.size,0,none⟩),w.alloc (.stringIter s 0),by simp[Instr.range,run_underlying hu],?_⟩;refine jH (w1:=w) (x:=⟨w.heap.size,0,0⟩) h hB hn (fun _ _=>rfl) (Blw.refl _ _) rfl rfl rfl (fun A' G' hR=> ?_) (fun s g A' G' hA hg=> ?_)
  ·exact⟨cE w _,fun hi=>by have:=h.iw _ hi;exact absurd this (zc8 _)⟩
  ·exact .loc _ _ _ _ hg fun y hy=>by rw[hA] at hy;cases hy;rfl
 ·cases hn
theorem At(h:Inv I0 B I A σ a w){x d:D}{σ':St}(hs:gR σ x=some (d,σ')){v:Value}(hv:RelV I A (bl σ.H) w x v)(ty:TypeId):
  ∃u w',(Instr.next v true ty).run E.P w= .ok u w'∧Step I0 B I a w d σ' u w':=by
 unfold gR at hs;split at hs
 ·rename_i s g;split at hs
  ·rename_i b pos hl;obtain⟨y,hy,hyB,hb,hnI⟩:=h.ob s g _ hl;rw[hv.loc_inv hy];split at hs
   ·rename_i hlt;simp only[za0,zb3] at hs;obtain⟨rfl,rfl⟩:=hs;refine⟨.tuple #[.bool true,.int .i64 pos,.int .i32 (Utf8.decode b pos).1],cS w y.b (.stringIter b (pos+(Utf8.decode b pos).2)),?_,?_⟩
    ·simp only[Instr.next,Sem.run_bind,getObj,Sem.run,hb,Result.andThen_ok,hlt,if_true,setObj,Sem.run_pure,goInt,cS]
    ·have hlt':y.b<w.heap.size:=(zc0.1 hb).1;obtain⟨hi',hR⟩:=h.set (o':= .sit b (pos+(Utf8.decode b pos).2)) hl hy hnI (w':=cS w y.b (.stringIter b (pos+(Utf8.decode b pos).2))) (bW _ _ _) (fun k hk=>ci w y.b _ hk) (fun hR=>⟨cY hlt',hnI⟩);refine⟨I,A,hi',.clo (.tup _ _ rfl fun j d' u hd hu=> ?_),fun _ hb=>hb,fun k hk=>ci w y.b _ (fun e=>hnI (e▸hk)),iM (hyB.resolve_left hnI) _⟩
     match j,hd,hu with
     |0,hd,hu=>simp at hd hu;subst hd hu;exact .bool _
     |1,hd,hu=>simp at hd hu;subst hd hu;exact .int _ _
     |2,hd,hu=>simp at hd hu;subst hd hu;exact .int _ _
     |j+3,hd,_=>simp at hd
   ·rename_i hlt;simp only[za0,zb3] at hs;obtain⟨rfl,rfl⟩:=hs;refine⟨.tuple #[.bool false],w,?_,Step.pure h (.clo (.tup _ _ rfl fun j d' u hd hu=> ?_))⟩
    ·simp only[Instr.next,Sem.run_bind,getObj,Sem.run,hb,Result.andThen_ok,hlt,if_false,Sem.run_pure]
    ·match j,hd,hu with
     |0,hd,hu=>simp at hd hu;subst hd hu;exact .bool _
     |j+1,hd,_=>simp at hd
  ·cases hs
 ·cases hs
theorem bL{o:BinOp}{t:TypeId}{x y:Operand}{ad ad':Option Addr}{n c n' c':Nat}:(eqGuard o t x y (.slice ad n c) (.slice ad' n' c')).run E.P w= .ok () w:=by
 cases o<;>rfl
theorem xp{o:BinOp}{t:TypeId}{x y:Operand}{dx dy d:D}(hs:dO E o t dx dy=some d){vx vy:Value}(hx:RelV I A G w dx vx)(hy:RelV I A G w dy vy):
  ∃u,(do eqGuard o t x y vx vy;binOp o t vx vy:Sem Value).run E.P w= .ok u w∧RelV I A G w d u:=by
 unfold dO at hs;split at hs
 ·rename_i e hu;have q1:∀(ad:Addr) (n c:Nat),(binOp .eql t (.slice (some ad) n c) (.slice none 0 0)).run E.P w= .ok (.bool false) w:=fun ad n c=>Lib.run_eql_slice_nil w t e (some ad) n c 0 0 hu;have q2:∀(ad:Addr) (n c:Nat),(binOp .neq t (.slice (some ad) n c) (.slice none 0 0)).run E.P w= .ok (.bool true) w:=fun ad n c=>run_neq_slice_nil_any w t e (some ad) n c 0 0 hu;have q3:∀(ad:Addr) (n c:Nat),(binOp .eql t (.slice none 0 0) (.slice (some ad) n c)).run E.P w= .ok (.bool false) w:=fun ad n c=>run_eql_nil_slice w t e (some ad) n c 0 0 hu;have q4:∀(ad:Addr) (n c:Nat),(binOp .neq t (.slice none 0 0) (.slice (some ad) n c)).run E.P w= .ok (.bool true) w:=fun ad n c=>run_neq_nil_slice w t e (some ad) n c 0 0 hu;have q5:(binOp .eql t (.slice none 0 0) (.slice none 0 0)).run E.P w= .ok (.bool true) w:=Lib.run_eql_slice_nil w t e none 0 0 0 0 hu;have q6:(binOp .neq t (.slice none 0 0) (.slice none 0 0)).run E.P w= .ok (.bool false) w:=run_neq_slice_nil_any w t e none 0 0 0 0 hu;split at hs
  ·rw[hy.nils_inv];rcases hx.osl_inv with⟨rfl,rfl⟩|⟨rfl,ad,n,c,rfl⟩
   ·split at hs<;>(try cases hs)
    ·exact⟨.bool true,by simp only[Sem.run_bind,bL,Result.andThen_ok,q5],.clo (.bool _)⟩
    ·exact⟨.bool false,by simp only[Sem.run_bind,bL,Result.andThen_ok,q6],.clo (.bool _)⟩
   ·split at hs<;>(try cases hs)
    ·exact⟨.bool false,by simp only[Sem.run_bind,bL,Result.andThen_ok,q1],.clo (.bool _)⟩
    ·exact⟨.bool true,by simp only[Sem.run_bind,bL,Result.andThen_ok,q2],.clo (.bool _)⟩
  ·rw[hx.nils_inv];rcases hy.osl_inv with⟨rfl,rfl⟩|⟨rfl,ad,n,c,rfl⟩
   ·split at hs<;>(try cases hs)
    ·exact⟨.bool true,by simp only[Sem.run_bind,bL,Result.andThen_ok,q5],.clo (.bool _)⟩
    ·exact⟨.bool false,by simp only[Sem.run_bind,bL,Result.andThen_ok,q6],.clo (.bool _)⟩
   ·split at hs<;>(try cases hs)
    ·exact⟨.bool false,by simp only[Sem.run_bind,bL,Result.andThen_ok,q3],.clo (.bool _)⟩
    ·exact⟨.bool true,by simp only[Sem.run_bind,bL,Result.andThen_ok,q4],.clo (.bool _)⟩
  ·rw[hy.nils_inv];obtain⟨ad,cap,rfl,_⟩:=lW (k:=0) hx;split at hs<;>(try cases hs)
   ·exact⟨.bool false,by simp only[Sem.run_bind,bL,Result.andThen_ok,q1],.clo (.bool _)⟩
   ·exact⟨.bool true,by simp only[Sem.run_bind,bL,Result.andThen_ok,q2],.clo (.bool _)⟩
  ·rw[hy.nils_inv];split at hs<;>(try (cases hs;done));rename_i hpos;obtain⟨ad,cap,rfl,_⟩:=pp (k:=0) hpos hx;split at hs<;>(try cases hs)
   ·exact⟨.bool false,by simp only[Sem.run_bind,bL,Result.andThen_ok,q1],.clo (.bool _)⟩
   ·exact⟨.bool true,by simp only[Sem.run_bind,bL,Result.andThen_ok,q2],.clo (.bool _)⟩
  ·rw[hy.nils_inv];obtain⟨ad,cap,rfl,_⟩:=hx.win_inv;split at hs<;>(try cases hs)
   ·exact⟨.bool false,by simp only[Sem.run_bind,bL,Result.andThen_ok,q1],.clo (.bool _)⟩
   ·exact⟨.bool true,by simp only[Sem.run_bind,bL,Result.andThen_ok,q2],.clo (.bool _)⟩
  ·rw[hx.nils_inv];obtain⟨ad,cap,rfl,_⟩:=hy.win_inv;split at hs<;>(try cases hs)
   ·exact⟨.bool false,by simp only[Sem.run_bind,bL,Result.andThen_ok,q3],.clo (.bool _)⟩
   ·exact⟨.bool true,by simp only[Sem.run_bind,bL,Result.andThen_ok,q4],.clo (.bool _)⟩
  ·rw[hx.nils_inv];obtain⟨ad,cap,rfl,_⟩:=lW (k:=0) hy;split at hs<;>(try cases hs)
   ·exact⟨.bool false,by simp only[Sem.run_bind,bL,Result.andThen_ok,q3],.clo (.bool _)⟩
   ·exact⟨.bool true,by simp only[Sem.run_bind,bL,Result.andThen_ok,q4],.clo (.bool _)⟩
  ·rw[hx.nils_inv];split at hs<;>(try (cases hs;done));rename_i hpos;obtain⟨ad,cap,rfl,_⟩:=pp (k:=0) hpos hy;split at hs<;>(try cases hs)
   ·exact⟨.bool false,by simp only[Sem.run_bind,bL,Result.andThen_ok,q3],.clo (.bool _)⟩
   ·exact⟨.bool true,by simp only[Sem.run_bind,bL,Result.andThen_ok,q4],.clo (.bool _)⟩
  ·cases hs
 ·rename_i e hu;split at hs
  ·have hg:∀(o:BinOp) (ad:Addr),(eqGuard o t x y (.pointer (some ad)) (.pointer none)).run E.P w= .ok () w:=fun o ad=>by cases o<;>rfl
   have hq:∀(ad:Addr) (d:Nat),(Op.equalIn (d+1) t (.pointer (some ad)) (.pointer none)).run E.P w= .ok false w:=fun ad d=>by simp[Op.equalIn,run_underlying hu]
   have q1:∀(ad:Addr),(binOp .eql t (.pointer (some ad)) (.pointer none)).run E.P w= .ok (.bool false) w:=fun ad=>by simp only[binOp];simp[Op.equal,Op.maxDepth,hq ad 9999]
   have q2:∀(ad:Addr),(binOp .neq t (.pointer (some ad)) (.pointer none)).run E.P w= .ok (.bool true) w:=fun ad=>by simp only[binOp];simp[Op.equal,Op.maxDepth,hq ad 9999]
   have hy:vy= .pointer none:=hy.flat rfl;subst hy;cases hx with
   |clo h=>cases h
   |loc _ _ _ ad _ _=>
    split at hs<;>(try cases hs)
    ·exact⟨.bool false,by simp only[Sem.run_bind,hg,Result.andThen_ok,q1],.clo (.bool _)⟩
    ·exact⟨.bool true,by simp only[Sem.run_bind,hg,Result.andThen_ok,q2],.clo (.bool _)⟩
  ·cases hs
 ·cases hs
theorem xq(h:Inv I0 B I A σ a w){t:TypeId}{x d:D}{σ':St}(hs:fR E σ t x=some (d,σ')){v:Value}(hv:RelV I A (bl σ.H) w x v)(ty:TypeId):∃u w',(Builtin.clear_ #[t] ty #[v]).run E.P w= .ok u w'∧Step I0 B I a w d σ' u w':=by
 unfold fR at hs;split at hs
 ·rename_i e y he hy;obtain⟨s,g,off,len⟩:=y;obtain⟨ad,cap,rfl,hcap,hg,had⟩:=ig hy hv;split at hs
  ·rename_i n z e' m cs hn hz hl;simp only at hs hl;split at hs
   ·rename_i h0;simp only[za0,zb3] at hs;obtain⟨rfl,rfl⟩:=hs;subst h0;refine⟨.tuple #[],w,?_,Step.pure h fL⟩;simp[Builtin.clear_,run_underlying (cM he)]
   ·rename_i h0;split at hs
    ·rename_i hcond;simp only[zc4,zc7] at hcond;obtain⟨hzl,hone,hle⟩:=hcond;simp only[za0,zb3] at hs;obtain⟨rfl,rfl⟩:=hs;obtain⟨x,hx,hxB,c,hb,hcs,hm,hlc,hcl,hrel,hfz,hclo⟩:=h.ob s g _ hl;have hle':x.len*m≤x.cap*m:=Nat.mul_le_mul_right _ hlc;have hnI:¬I x.b:=fun hi=>by have:=hfz.2 hi;cases this
     have had:=(had (by omega) x hx).1;subst had;obtain⟨i,zv,hi,hzv,ho⟩:=eE hz;have hzr0:RelV I (fun _ _=>none) (fun _=>0) w z zv:= .clo (eu ho);obtain⟨c1,c2,c3⟩:=hzr0.cells hone;obtain⟨k1,k2⟩:=pv (R:=RelC I w) c1 (fun j x u hx hu=>(c2 j x u hx hu).toC) len;have hzs:zv.cells.size=n:=by omega
     obtain⟨zs,hzsd⟩:∃zs,zs=(Builtin.zeroCells zv.cells len).toList:=⟨_,rfl⟩;have hzlen:zs.length=len*n:=by rw[hzsd];simp[Builtin.zeroCells,hzs]
     have hz1:∀u∈zs,u.oneCell'=true:=fun u hu=>by
      rw[hzsd] at hu;unfold Builtin.zeroCells at hu;simp only[Array.toList_map,zd6] at hu;obtain⟨j,hj,rfl⟩:=hu;have hpos:0<zv.cells.size:=by
       rcases Nat.eq_zero_or_pos zv.cells.size with h0|h0
       ·rw[h0,Nat.mul_zero] at hj;simp at hj
       ·exact h0
      have hlt:j%zv.cells.size<zv.cells.size:=zd9 _ hpos;rw[getElem!_pos zv.cells _ hlt];exact c3 _ (by simp)
     have hst:=run_storeCells_at (P:=E.P) x.b off e' zs 0 c w hb (by simp only[Nat.add_zero];rw[hzlen];omega) hz1;simp only[Nat.add_zero] at hst;refine⟨.tuple #[],w.setRow x.b (c.toList.take off++zs++c.toList.drop (off+zs.length)).toArray,?_,?_⟩
     ·obtain⟨l',rfl⟩:∃l',len=l'+1:=⟨len-1,by omega⟩;have hzvr:(zeroValue e).run E.P w= .ok zv w:=by
       simp[zeroValue,typeInfo,hi,hzv]
      rw[hzsd] at hst ⊢;simp[Builtin.clear_,run_underlying (cM he),hzvr,hst]
     ·obtain⟨hi',hR⟩:=h.set (o':= .arr e' m (co cs off (dQ len z.cells)) false) hl hx hnI (w':=w.setRow x.b (c.toList.take off++zs++c.toList.drop (off+zs.length)).toArray) (by simp) (fun b hb'=>setRow_other w x.b b _ hb') (fun hR=>by
       have hrl:(dQ len z.cells).length=len*n:=by rw[gk,hzl]
       have hzr:∀(j:Nat) (d:D) (v:Value),(dQ len z.cells)[j]?=some d→zs[j]?=some v→RelC I w d v:=fun j d v hd hv=>by
        refine k2 j d v hd ?_;rw[hzsd] at hv;rw[←Array.getElem?_toList];exact hv
       refine⟨_,setRow_heap w x.b c _ e' _ hb,?_,hm,hlc,by rw[dU,hcl],fun j d v hd hv=> ?_,⟨(fun hh=>by cases hh),fun hi=>absurd hi hnI⟩,fun d hd=> ?_⟩
       ·rw[fE _ _ _ (by omega),hcs]
       ·refine hR _ _ (eR (R:=RelV I A (bl σ.H) w) (c:=c.toList) (vs:=zs) (by simp;omega) (by omega) (by omega) (fun j d v hd hv=>hrel j d v hd (by simpa using hv)) (fun j d v hd hv=> .clo (hzr j d v hd hv)) j d v hd (by simpa using hv))
       ·rcases gC _ _ _ _ hd with h1|h1
        ·exact hclo d h1
        ·obtain⟨j,hj,rfl⟩:=List.getElem_of_mem h1;exact(hzr j _ _ (zd2 hj) (zd2 (by omega:j<zs.length))).clo)
      exact⟨I,A,hi',fL,fun _ hb=>hb,fun b hb'=>setRow_other w x.b b _ (fun e=>hnI (e▸hb')),eQ (hxB.resolve_left hnI) _⟩
    ·cases hs
  ·cases hs
 ·cases hs
theorem rR(h:Inv I0 B I A σ a w){t t2:TypeId}{e e':TypeId}{s g off len n n' m:Nat}{cs news:List D}{ss:List Nat}(b1:Sites σ.H ss)(hns:s∉ss){vy:Value}{vnews:List Value}{ad:Addr}{cap:Nat}(ty:TypeId)
  (k1:Ap w vy m vnews) (k2:vnews.length=news.length) (k3:∀(j:Nat) (x:D) (u:Value),news[j]?=some x→vnews[j]?=some u→RelC (du I A ss) w x u) (k4:∀u∈vnews,u.oneCell'=true)
  (had:0<len→∀y,A s g=some y→ad=⟨y.b,off,none⟩) (he:fx E.P t=some e) (hn:sz E.P e=some n) (hl:bi σ.H s g=some (.arr e' n' cs false)) (hnl:news.length=m*n) (hle:off+len*n≤cs.length):
  ∃u w',(Builtin.copy_ #[t,t2] ty #[.slice (some ad) len cap,vy]).run E.P w= .ok u w'∧Step I0 B I a w (.int .i64 (min m len:Nat)) ((σ.freeze ss).setOb s (some (.arr e' n' (co cs off (news.take (min m len*n))) false))) u w':=by
 obtain⟨hfz0,hRf⟩:=h.freeze ss b1.free;obtain⟨x,hx,hxB,c,hb,hcs,hm,hlc,hcl,hrel,hfz,hclo⟩:=h.ob s g _ hl;have hnI:¬I x.b:=fun hi=>by have:=hfz.2 hi;cases this
 have hnI':¬du I A ss x.b:=by
  rintro (hi'|⟨s',hs',g',y',hy',hb'⟩)
  ·exact hnI hi'
  ·exact hns ((h.inj _ _ _ _ _ _ hx hy' hb').1▸hs')
 have hlive':bi (σ.freeze ss).H s g=some (.arr e' n' cs false):=by
  show bi (br σ.H ss) s g=_;rw[ch,if_neg hns];exact hl
 obtain⟨zs,hzs⟩:∃zs,zs=vnews.take (min m len*n):=⟨_,rfl⟩;have hzl:zs.length=min m len*n:=by
  rw[hzs,ze2,k2,hnl];exact Nat.min_eq_left (Nat.mul_le_mul_right _ (Nat.min_le_left ..))
 have hle1:x.len*n'≤x.cap*n':=Nat.mul_le_mul_right _ hlc;have hle2:min m len*n≤len*n:=Nat.mul_le_mul_right _ (Nat.min_le_right ..);have hz1:∀u∈zs,u.oneCell'=true:=fun u hu=>k4 u (List.mem_of_mem_take (hzs▸hu));have hfirst:(Builtin.firstCells n (min m len) vy).run E.P w= .ok zs.toArray w:=by
  rcases k1 with⟨rfl,rfl,rfl⟩|⟨ad2,cap2,rfl,hc2⟩
  ·simp[Builtin.firstCells,hzs]
  ·have:=run_loadCells_list (P:=E.P) w ad2 zs (fun j v hj=>hc2 j v (by
    rw[hzs,List.getElem?_take] at hj;split at hj
    ·exact hj
    ·cases hj))
   rw[hzl] at this;exact this
 have hlen:(Builtin.lenOf vy).run E.P w= .ok m w:=by
  rcases k1 with⟨rfl,rfl,rfl⟩|⟨ad2,cap2,rfl,_⟩<;>rfl
 have hstore:∃w',(storeCells ad zs).run E.P w= .ok () w'∧w'.heap.size=w.heap.size∧(∀b,b≠x.b→w'.heap[b]?=w.heap[b]?)∧w'.heap[x.b]?=some (.cells (c.toList.take off++zs++c.toList.drop (off+zs.length)).toArray e' (0,0))∧Blw B w w':=by
  rcases Nat.eq_zero_or_pos zs.length with h0|h0
  ·have hz0:zs=[]:=List.eq_nil_of_length_eq_zero h0;refine⟨w,by rw[hz0];rfl,rfl,fun _ _=>rfl,?_,Blw.refl _ _⟩;rw[hb,hz0];simp
  ·have hlp:0<len:=by
    rcases Nat.eq_zero_or_pos len with h1|h1
    ·rw[hzl,h1] at h0;simp at h0
    ·exact h1
   have hd:=had hlp x hx;subst hd;have hst:=run_storeCells_at (P:=E.P) x.b off e' zs 0 c w hb (by simp only[Nat.add_zero];omega) hz1;simp only[Nat.add_zero] at hst;exact⟨_,hst,by simp,fun b hb'=>setRow_other w x.b b _ hb',setRow_heap w x.b c _ e' _ hb,eQ (hxB.resolve_left hnI) _⟩
 obtain⟨w',r1,r2,r3,r4,r5⟩:=hstore;refine⟨goInt (min m len:Nat),w',?_,?_⟩
 ·obtain⟨i,hi,rfl⟩:=km hn;have hso:(sizeOf e).run E.P w= .ok i.size w:=by simp[sizeOf,typeInfo,hi]
  simp[Builtin.copy_,run_underlying (cM he),hlen,hso,hfirst,r1]
 ·obtain⟨hi',hR⟩:=hfz0.set (o':= .arr e' n' (co cs off (news.take (min m len*n))) false) hlive' hx hnI' (w':=w') r2 r3 (fun hR=>by
   have htl:(news.take (min m len*n)).length=zs.length:=by rw[hzs,ze2,ze2,k2]
   have hzr:∀(j:Nat) (d:D) (v:Value),(news.take (min m len*n))[j]?=some d→zs[j]?=some v→RelC (du I A ss) w d v:=fun j d v hd hv=>by
    rw[List.getElem?_take] at hd;rw[hzs,List.getElem?_take] at hv;split at hd
    ·rename_i hj;rw[if_pos hj] at hv;exact k3 j d v hd hv
    ·cases hd
   refine⟨_,r4,?_,hm,hlc,by rw[dU,hcl],fun j d v hd hv=> ?_,⟨(fun hh=>by cases hh),fun hi=>absurd hi hnI'⟩,fun d hd=> ?_⟩
   ·rw[fE _ _ _ (by omega),hcs]
   ·exact hR _ _ (eR (R:=RelV (du I A ss) A (bl (σ.freeze ss).H) w) (c:=c.toList) (vs:=zs) (by simp;omega) (by omega) (by omega) (fun j d v hd hv=>hRf _ _ (hrel j d v hd (by simpa using hv))) (fun j d v hd hv=> .clo (hzr j d v hd hv)) j d v hd (by simpa using hv))
   ·rcases gC _ _ _ _ hd with h1|h1
    ·exact hclo d h1
    ·obtain⟨j,hj,rfl⟩:=List.getElem_of_mem h1;exact(hzr j _ _ (zd2 hj) (zd2 (by omega:j<zs.length))).clo)
  exact⟨_,A,hi',.clo (.int _ _),fun _ hb=> .inl hb,fun b hb'=>r3 b (fun e=>hnI (e▸hb')),r5⟩
theorem Au(h:Inv I0 B I A σ a w){t t2:TypeId}{x y d:D}{σ':St}(hs:iG E σ t x y=some (d,σ')){vx vy:Value}(hvx:RelV I A (bl σ.H) w x vx)(hvy:RelV I A (bl σ.H) w y vy)(ty:TypeId):∃u w',(Builtin.copy_ #[t,t2] ty #[vx,vy]).run E.P w= .ok u w'∧Step I0 B I a w d σ' u w':=by
 unfold iG at hs;split at hs
 ·rename_i e q y' ss he hq hsn;obtain⟨s,g,off,len⟩:=q;obtain⟨ad,cap,rfl,hcap,hg,had⟩:=ig hq hvx;split at hs
  ·rename_i n m news e' n' cs hn hnews hl;simp only at hs hl;split at hs
   ·split at hs
    ·rename_i r hr;obtain⟨s2,g2,off2,len2⟩:=r;unfold eC at hs;simp only[hl] at hs;split at hs
     ·rename_i hc;obtain⟨⟨rfl,rfl⟩,hnl,hone,hle⟩:=hc;simp only[za0,zb3] at hs;obtain⟨rfl,rfl⟩:=hs;obtain⟨ad2,cap2,rfl,hcap2,hg2,had2⟩:=ig hr hvy;obtain⟨x,hx,hxB,c,hb,hcs,hm,hlc,hcl,hrel,hfz,hclo⟩:=h.ob _ _ _ hl;have hle1:x.len*n'≤x.cap*n':=Nat.mul_le_mul_right _ hlc;have hcc:cs.length≤c.size:=by omega
      have hge:len2*n≤cs.length-off2:=by rw[ze2,ze1] at hnl;omega
      have hcell:∀(j:Nat) (u:Value),((c.toList.drop off2).take (len2*n))[j]?=some u→j<len2*n∧c[off2+j]?=some u:=fun j u hj=>by
       rw[List.getElem?_take] at hj;split at hj
       ·rename_i hlt;rw[List.getElem?_drop] at hj;exact⟨hlt,by simpa using hj⟩
       ·cases hj
      have hrc:∀(j:Nat) (d:D) (u:Value),((cs.drop off2).take (len2*n))[j]?=some d→((c.toList.drop off2).take (len2*n))[j]?=some u→RelC I w d u:=fun j d u hd hu=>by
       obtain⟨hlt,hu⟩:=hcell j u hu;rw[List.getElem?_take,if_pos hlt,List.getElem?_drop] at hd;exact(hrel _ d u hd hu).closed (hclo d (List.mem_of_getElem? hd))
      exact rR (t2:=t2) (vnews:=(c.toList.drop off2).take (len2*n)) (news:=(cs.drop off2).take (len2*n)) (m:=len2) (ss:=[]) h (fun _ h=>by cases h) (fun h=>by cases h) ty
       (.inr ⟨ad2,cap2,rfl,fun j u hj=>by
        obtain⟨hlt,hu⟩:=hcell j u hj;have hp:0<len2:=by rcases Nat.eq_zero_or_pos len2 with h0|h0;(rw[h0,Nat.zero_mul] at hlt;omega);exact h0
        rw[(had2 hp x hx).1,cV hb];exact hu⟩) (by simp only[ze2,ze1,Array.length_toList];omega) (fun j d u hd hu=>(hrc j d u hd hu).mono (fun b hb=> .inl hb) fun _ _=>rfl) (fun u hu=>by
        obtain⟨j,hj,rfl⟩:=List.getElem_of_mem hu;have hj':j<((cs.drop off2).take (len2*n)).length:=by
         rw[hnl];rw[ze2] at hj;omega
        exact(hrc j _ _ (zd2 hj') (zd2 hj)).one (zd7.1 hone _ (List.getElem_mem _))) (fun hp y hy=>(had hp y hy).1) he hn hl hnl hle
     ·cases hs
    ·cases hs
   ·rename_i hns;have hns:s∉ss:=by simpa using hns
    split at hs
    ·rename_i hc;obtain⟨hnl,hone,hle⟩:=hc;simp only[za0,zb3] at hs;obtain⟨rfl,rfl⟩:=hs;obtain⟨b1,b2⟩:=cr h depth _ _ _ hsn;obtain⟨vnews,k1,k2,k3,k4⟩:=rQ h hsn hnews hone hvy;exact rR h b1 hns ty k1 k2 k3 k4 (fun hp y hy=>(had hp y hy).1) he hn hl hnl hle
    ·cases hs
  ·cases hs
 ·cases hs
theorem rS:∀(ns:List Int) (s:ByteArray),ns.foldl (fun r n=>r.push (UInt8.ofNat n.toNat)) s=⟨s.data++(ns.map fun n=>UInt8.ofNat n.toNat).toArray⟩
 |[],s=>by simp
 |n::ns,s=>by
  rw[List.foldl_cons,rS ns];apply ByteArray.ext;apply Array.toList_inj.1;simp[ByteArray.push]
theorem xr{src dst:TypeId}{x:Option D}{d:D}(hs:lR E src dst x=some d){v:Value}(hv:∀dx,x=some dx→RelV I A G w dx v):
  ∃u,(convert src dst v).run E.P w= .ok u w∧RelV I A G w d u:=by
 unfold lR at hs;split at hs
 ·rename_i f len cs;split at hs
  ·rename_i e he hd;split at hs
   ·rename_i bs hu hm;split at hs
    ·rename_i hl;cases hs;have hr:=(hv _ rfl).clo_of (.inr (.inl ⟨f,len,cs,rfl⟩));obtain⟨hml,hmg⟩:=cT hm;have hb:∀(j:Nat) (d:D),cs[j]?=some d→∃n:Int,d= .int .u8 n∧bs[j]?=some (UInt8.ofNat n.toNat):=fun j d hj=>by
      obtain⟨y,hy,hr⟩:=hmg j d hj;unfold GX at hy;split at hy
      ·rename_i n;cases hy;exact⟨n,rfl,hr⟩
      ·cases hy
     rcases hr.slc_inv with⟨rfl,rfl,rfl⟩|⟨ad,cap,us,rfl,p1,p2,p3,p4,p5⟩
     ·have:bs=[]:=List.length_eq_zero_iff.1 (by simpa using hml.symm);subst this;refine⟨.string .empty,?_,.clo (.str _)⟩;rw[run_convert_bytes_string w src dst e none 0 0 (cM he) hu hd];simp[Conv.bytesToString,Sem.run_pure]
     ·have hns:∃ns:List Int,ns.length=cs.length∧(∀(j:Nat) (v:Value),(ns.map (Value.int .u8))[j]?=some v→w.cell? (ad.add j)=some v)∧bs=ns.map fun n=>UInt8.ofNat n.toNat:=by
       refine⟨cs.map fun d=>match d with| .int _ n=>n|_=>0,by simp,fun j v hj=> ?_,?_⟩
       ·rw[zc3,zc3] at hj;cases hc:cs[j]? with
        |none=>rw[hc] at hj;cases hj
        |some d=>
         rw[hc] at hj;obtain⟨n,rfl,_⟩:=hb j d hc;cases hj;have h5:us j= .int .u8 n:=(p5 j _ hc).flat rfl;rw[p4 j _ hc,h5]
       ·apply List.ext_getElem?;intro j;rw[zc3,zc3];cases hc:cs[j]? with
        |none=>
         rw[List.getElem?_eq_none_iff] at hc;rw[zd3 (by omega)];rfl
        |some d=>
         obtain⟨n,rfl,h2⟩:=hb j d hc;rw[h2];rfl
      obtain⟨ns,q1,q2,q3⟩:=hns;refine⟨_,?_,.clo (.str _)⟩;rw[run_convert_bytes_string w src dst e (some ad) len cap (cM he) hu hd];have h3:=run_loadCells_list (P:=E.P) w ad (ns.map (Value.int .u8)) q2;rw[zc2,q1,hl] at h3;rw[run_bytesToString w ad len cap ns h3,rS,q3];simp
    ·cases hs
   ·cases hs
  ·cases hs
 ·cases hs
end
def y3(P:Program)(gl:Nat→Option D)(k:FuncId)(g:lM):Prop:=
 (∀vs w,(callFunc k vs).run P w= .ok (.enter k vs) w)∧
 ∀(I:Nat→Prop) (w:World) (b cap n len:Nat) (e:TypeId) (c:Array Value) (cs rest cs':List D) (m:Option Nat) (vrest:Array Value),
  (∀b,I b→b<w.heap.size)→Gl gl I w→¬I b→w.heap[b]?=some (.cells c e (0,0))→c.size=cap*n→cap≤maxLen→len≤cap→cs.length=len*n→cs.all D.plainZ=true→
  (∀(j:Nat) (d:D) (v:Value),cs[j]?=some d→c[j]?=some v→d.toVZ=some v)→rest.length=vrest.size→(∀(j:Nat) (d:D) (v:Value),rest[j]?=some d→vrest[j]?=some v→RelC I w d v)→
  g cs len rest=some (cs',m)→cs'.all D.plainZ=true→(match m with|none=>cs'.length=cs.length|some m=>cs'.length=m*n∧m≤len)→
  Calls P k (#[.slice (some ⟨b,0,none⟩) len cap]++vrest) w fun en w'=>en= .returned (match m with|none=> .tuple #[]|some m=> .slice (some ⟨b,0,none⟩) m cap)∧
   ∃c',w'.heap[b]?=some (.cells c' e (0,0))∧c'.size=c.size∧(∀(j:Nat) (d:D) (v:Value),cs'[j]?=some d→c'[j]?=some v→d.toVZ=some v)∧
    w.heap.size≤w'.heap.size∧(∀k,k<w.heap.size→k≠b→w'.heap[k]?=w.heap[k]?)∧w'.os=w.os∧w'.tape=w.tape∧w'.output=w.output
def BP(P:Program)(gl:Nat→Option D)(k:FuncId)(p:Nat)(g:List D→Option D):Prop:=
 (∀vs w,(callFunc k vs).run P w= .ok (.enter k vs) w)∧
 ∀(I:Nat→Prop) (w:World) (b cap n len m:Nat) (e:TypeId) (f:Bool) (c:Array Value) (ds cs cs':List D) (r:D) (vs:Array Value),
  (∀b,I b→b<w.heap.size)→Gl gl I w→¬I b→w.heap[b]?=some (.cells c e (0,0))→c.size=cap*n→cap≤maxLen→len≤cap→cs.length=len*n→cs.all D.plain=true→
  (∀(j:Nat) (d:D) (v:Value),cs[j]?=some d→c[j]?=some v→d.toV=some v)→p<ds.length→ds.length=vs.size→vs[p]?=some (.slice (some ⟨b,0,none⟩) len cap)→(∀(j:Nat) (d:D) (v:Value),j≠p→ds[j]?=some d→vs[j]?=some v→RelC I w d v)→
  g (ds.set p (.slc false len cs))=some (.tup [.slc f m cs',r])→cs'.all D.plain=true→cs'.length=cs.length→
  Calls P k vs w fun en w'=>∃v c',en= .returned v∧RelC (fun x=>I x∨(w.heap.size≤x∧x<w'.heap.size)) w' r v∧w'.heap[b]?=some (.cells c' e (0,0))∧c'.size=c.size∧(∀(j:Nat) (d:D) (v:Value),cs'[j]?=some d→c'[j]?=some v→d.toV=some v)∧
    w.heap.size≤w'.heap.size∧(∀k,k<w.heap.size→k≠b→w'.heap[k]?=w.heap[k]?)∧w'.os=w.os∧w'.tape=w.tape∧w'.output=w.output
def BQ(P:Program)(gl:Nat→Option D)(k:FuncId)(p:Nat)(g:List D→Option D):Prop:=
 (∀vs w,(callFunc k vs).run P w= .ok (.enter k vs) w)∧
 ∀(I:Nat→Prop) (w:World) (b cap n tot off len capw m:Nat) (e:TypeId) (f:Bool) (c:Array Value) (ds ca cs':List D) (r:D) (vs:Array Value),
  (∀b,I b→b<w.heap.size)→Gl gl I w→¬I b→w.heap[b]?=some (.cells c e (0,0))→c.size=cap*n→cap≤maxLen→tot≤cap→ca.length=tot*n→ca.all D.plain=true→
  (∀(j:Nat) (d:D) (v:Value),ca[j]?=some d→c[j]?=some v→d.toV=some v)→0<len→off+len*n≤ca.length→len≤capw→(off=0→capw=cap)→off+capw*n=cap*n→0<n→p<ds.length→ds.length=vs.size→vs[p]?=some (.slice (some ⟨b,off,none⟩) len capw)→(∀(j:Nat) (d:D) (v:Value),j≠p→ds[j]?=some d→vs[j]?=some v→RelC I w d v)→
  g (ds.set p (.slc false len ((ca.drop off).take (len*n))))=some (.tup [.slc f m cs',r])→cs'.all D.plain=true→cs'.length=len*n→
  Calls P k vs w fun en w'=>∃v c',en= .returned v∧RelC (fun x=>I x∨(w.heap.size≤x∧x<w'.heap.size)) w' r v∧w'.heap[b]?=some (.cells c' e (0,0))∧c'.size=c.size∧(∀(j:Nat) (d:D) (v:Value),(co ca off cs')[j]?=some d→c'[j]?=some v→d.toV=some v)∧
    w.heap.size≤w'.heap.size∧(∀k,k<w.heap.size→k≠b→w'.heap[k]?=w.heap[k]?)∧w'.os=w.os∧w'.tape=w.tape∧w'.output=w.output
def vd(P:Program)(gl:Nat→Option D)(k:FuncId):Mu→Prop
 | .plc p g=>BP P gl k p g
 | .plw p g=>BQ P gl k p g
 |mu=>y3 P gl k mu.f
def KG(P:Program)(gl:Nat→Option D)(k:FuncId)(g:List (Nat×Option Ob)→List D→Option (D×List (Nat×Option Ob))):Prop:=
 ∀(I0 B I:Nat→Prop) (A:Nat→Nat→Option Gh) (T:List D) (a:Act) (w:World) (H H':List (Nat×Option Ob)) (ds:List D) (vs:Array Value) (r:D),Inv I0 B I A ⟨T,H⟩ a w→Gl gl I w→(∀k,B k→k<w.heap.size)→g H ds=some (r,H')→
  ds.length=vs.size→(∀(j:Nat) (d:D) (v:Value),ds[j]?=some d→vs[j]?=some v→RelV I A (bl H) w d v)→Calls P k vs w fun e w'=>∃v,e= .returned v∧Step I0 B I a w r ⟨T,H'⟩ v w'
def xt(i:Inl):Prop:=∀{α:Type} (lf:Option D→Option α) (ef:List D→(Bool→Option α)→Option α) (H:List (Nat×Option Ob)) (ds:List D) (c:D→List (Nat×Option Ob)→Tree) (x:α),bv lf ef (i.t H ds c)=some x→∃r H',i.g H ds=some (r,H')∧bv lf ef (c r H')=some x
structure InlOK(P:Program)(gl:Nat→Option D)(k:FuncId)(i:Inl):Prop where
 en:∀vs w,(callFunc k vs).run P w= .ok (.enter k vs) w
 ok:KG P gl k i.g
 tr:xt i
section
variable {E:Env}{I0:Nat→Prop}{B:Nat→Prop}{I:Nat→Prop}{A:Nat→Nat→Option Gh}{σ:St}{a:Act}{w:World}
theorem rT{l:List D}(h:l.all D.plain=true){j:Nat}{d:D}(hd:l[j]?=some d):d.plain=true:=by
 rw[zd7] at h;exact h d (List.mem_of_getElem? hd)
theorem RelV.toVZ{I:Nat→Prop}{A:Nat→Nat→Option Gh}{G:Nat→Nat}{w:World}{d:D}{v u:Value}(h:RelV I A G w d v)(hd:d.toVZ=some u):v=u:=by
 unfold D.toVZ at hd;split at hd
 ·cases hd;exact(h.closed (.atom rfl)).toVZ rfl
 ·exact h.toV hd
theorem BR{o:Bool}{k:FuncId}{g:lM}(hg:y3 E.P E.gl k g)(h:Inv I0 B I A σ a w)(hgl:Gl E.gl I w)(hB:∀k,B k→k<w.heap.size){dst:Option Tmp}{args:List D}{d:D}{σ':St}(hs:lQ o σ dst g args=some (d,σ'))
  {vargs:Array Value} (hl:args.length=vargs.size) (hr:∀(j:Nat) (d:D) (v:Value),args[j]?=some d→vargs[j]?=some v→RelV I A (bl σ.H) w d v):
  Calls E.P k vargs w fun e w'=>∃v,e= .returned v∧Step I0 B I a w d σ' v w':=by
 unfold lQ at hs;split at hs
 ·rename_i s g0 len rest;split at hs
  ·rename_i e n cs hlive;split at hs
   ·rename_i rest' ss hsn;split at hs
    ·cases hs
    ·rename_i hc;simp only[Bool.or_eq_true,Bool.not_eq_true',not_or,Bool.not_eq_false,zc6] at hc;obtain⟨hns,hpl⟩:=hc;have hns:s∉ss:=by simpa using hns
     have hpl:=mP hpl;obtain⟨a1,a2,a3⟩:=dK (I:=I) (A:=A) (w:=w) (cr h depth) _ _ _ hsn;obtain⟨hfz,hRf⟩:=h.freeze ss a2.free;obtain⟨y,hy,hyB,c,hb,hcs,hm,hlc,hcl,hrel,hfr,hclo⟩:=h.ob s g0 _ hlive;have hnI:¬I y.b:=fun hi=>by have:=hfr.2 hi;cases this
     have hnI':¬du I A ss y.b:=by
      rintro (hi'|⟨s',hs',g',y',hy',hb'⟩)
      ·exact hnI hi'
      ·exact hns ((h.inj _ _ _ _ _ _ hy hy' hb').1▸hs')
     have hgl':Gl E.gl (du I A ss) w:=fun g d hg=>(hgl g d hg).mono (fun _ hb=> .inl hb) (fun _ _=>rfl);have hv0:∃v0,vargs[0]?=some v0:=⟨vargs[0]'(by rw[←hl];simp),by simp⟩;obtain⟨v0,hv0⟩:=hv0;obtain⟨hvv,hk⟩:=(hr 0 _ v0 rfl hv0).own_inv hy;subst hk;have hva:vargs= #[v0]++vargs.extract 1 vargs.size:=by
      have h1:0<vargs.size:=by rw[←hl];simp
      have e1:vargs[0]=v0:=by rw[Array.getElem?_eq_getElem h1] at hv0;exact Option.some.inj hv0
      apply Array.ext
      ·simp;omega
      ·intro j hj1 hj2;rw[Array.getElem_append];split
       ·rename_i h2;have:j=0:=by simpa using h2
        subst this;simp[e1]
       ·rename_i h2;simp at h2;simp[show 1+(j-1)=j by omega]
     have hbs:y.b<w.heap.size:=(zc0.1 hb).1;have hcells:∀(j:Nat) (d:D) (v:Value),cs[j]?=some d→c[j]?=some v→d.toVZ=some v:=fun j d v hd hv=>by
      have h1:=hrel j d v hd hv;have hp:=zd7.1 hpl d (List.mem_of_getElem? hd);unfold D.plainZ at hp;obtain⟨u,hu⟩:=Option.isSome_iff_exists.1 hp;rw[hu,h1.toVZ hu]
     have hrest:∀(j:Nat) (d:D) (v:Value),rest'[j]?=some d→(vargs.extract 1 vargs.size)[j]?=some v→RelC (du I A ss) w d v:=fun j d v hd hv=>by
      obtain⟨d0,hd0,hr0⟩:=a3 j d hd;refine hr0 v (hr (j+1) d0 v (by simpa using hd0) ?_);rw[Array.getElem?_extract] at hv;split at hv
      ·rw[Nat.add_comm];exact hv
      ·cases hv
     have hrl:rest'.length=(vargs.extract 1 vargs.size).size:=by rw[a1];simp;simp at hl;omega
     rw[hva,hvv];split at hs
     ·
      rename_i cs' hgo;split at hs
      ·rename_i hc2;simp only[zc4,zc7] at hc2;simp only[za0,zb3] at hs;obtain⟨rfl,rfl⟩:=hs;refine(hg.2 (du I A ss) w y.b y.cap n y.len e c cs rest' cs' none _ hfz.iw hgl' hnI' hb hcs hm hlc hcl hpl hcells hrl hrest hgo (mP hc2.2) hc2.1).mono ?_
       rintro en w' ⟨rfl,c',q1,q2,q3,q4,q5,q6,q7,q8⟩
       refine⟨_,rfl,?_⟩;obtain⟨hi1,hR1⟩:=h.set (o':= .arr e n cs' false) hlive hy hnI (w':=cS w y.b (.cells c' e (0,0))) (bW _ _ _) (fun b hb=>ci _ _ _ hb) (fun hR=>⟨c',cY hbs,by rw[q2];exact hcs,hm,hlc,by rw[hc2.1];exact hcl,
        fun j d v hd hv=> .clo (lV (q3 j d v hd hv)),⟨(fun hh=>by cases hh),fun hi=>absurd hi hnI⟩,fun d hd=>by
         obtain⟨j,hj,rfl⟩:=List.getElem_of_mem hd;have hjv:j<c'.size:=by rw[q2,hcs];have:=Nat.mul_le_mul_right n hlc;omega
         exact(lV (w:=w) (I:=I) (q3 j _ _ (zd2 hj) (Array.getElem?_eq_getElem hjv))).clo⟩)
       obtain⟨hi2,hR2⟩:=hi1.world (w':=w') (I':=I) (by rw[bW];exact q4) (fun b hb'=>by
        rw[bW] at hb';by_cases e1:b=y.b
        ·subst e1;rw[q1,cY hbs]
        ·rw[q5 b hb' e1,ci _ _ _ e1]) (fun _ hb=>hb) (fun _ hb=> .inl hb) (by rw[bW];exact hB)
       exact⟨I,A,hi2,fL,fun _ hb=>hb,fun b hb'=>q5 b (h.iw b hb') (fun e1=>hnI (e1▸hb')),⟨q6,q7,q8,q4,fun b hb'=>q5 b (hB b hb') (fun e=>(hyB.resolve_left hnI) (e▸hb'))⟩⟩
      ·cases hs
     ·
      rename_i cs' m hgo;split at hs
      ·rename_i hc2;simp only[zc4,zc7] at hc2;refine(hg.2 (du I A ss) w y.b y.cap n y.len e c cs rest' cs' (some m) _ hfz.iw hgl' hnI' hb hcs hm hlc hcl hpl hcells hrl hrest hgo (mP hc2.2) hc2.1).mono ?_
       rintro en w' ⟨rfl,c',q1,q2,q3,q4,q5,q6,q7,q8⟩
       refine⟨_,rfl,?_⟩;obtain⟨A1,hk1,hk2,hk3,hk4⟩:=h.kill s (dq hlive);have hA1:∀s' g' y',A1 s' g'=some y'→y'.b≠y.b:=fun s' g' y' hy' e=>by
        by_cases es:s'=s
        ·subst es;rw[hk3] at hy';cases hy'
        ·rw[hk2 _ _ es] at hy';exact es (h.inj _ _ _ _ _ _ hy' hy e).1
       exact ga hk1 hs (hyB.resolve_left hnI) hnI hA1 (fun b hb'=>q5 b (h.iw b hb') (fun e1=>hnI (e1▸hb'))) (fun s' g' y' hy'=>q5 _ (hk1.A_lt hy') (hA1 _ _ _ hy')) (fun y' j b' hb'=>by
        obtain⟨p1,_,_,p4⟩:=h.rw.sep _ _ _ (hb'.unkill hk2 hk3);exact⟨p4 _ _ _ hy,q5 b' p1 (Ne.symm (p4 _ _ _ hy))⟩) ⟨q6,q7,q8,q4,fun b hb'=>q5 b (hB b hb') (fun e=>(hyB.resolve_left hnI) (e▸hb'))⟩
        q1 (by rw[q2];exact hcs) hm (by omega) hc2.1.1 (fun j x u hx hu=>lV (q3 j x u hx hu))
      ·cases hs
     ·cases hs
   ·cases hs
  ·cases hs
 ·cases hs
theorem BS{k:FuncId}{p:Nat}{g:List D→Option D}(hg:BP E.P E.gl k p g)(h:Inv I0 B I A σ a w)(hgl:Gl E.gl I w)(hB:∀k,B k→k<w.heap.size){args:List D}{d:D}{σ':St}(hs:nu σ p g args=some (d,σ'))
  {vargs:Array Value} (hl:args.length=vargs.size) (hr:∀(j:Nat) (d:D) (v:Value),args[j]?=some d→vargs[j]?=some v→RelV I A (bl σ.H) w d v):
  Calls E.P k vargs w fun e w'=>∃v,e= .returned v∧Step I0 B I a w d σ' v w':=by
 unfold nu at hs;split at hs
 ·rename_i s g0 len hp;split at hs
  ·rename_i e n cs hlive;split at hs
   ·rename_i ds ss hsn;split at hs
    ·cases hs
    ·rename_i hc;simp only[Bool.or_eq_true,Bool.not_eq_true',not_or,Bool.not_eq_false,zc6] at hc;obtain⟨hns,hpl⟩:=hc;have hns:s∉ss:=by simpa using hns
     obtain⟨a1,a2,a3⟩:=dK (I:=I) (A:=A) (w:=w) (cr h depth) _ _ _ hsn;obtain⟨hfz,hRf⟩:=h.freeze ss a2.free;obtain⟨y,hy,hyB,c,hb,hcs,hm,hlc,hcl,hrel,hfr,hclo⟩:=h.ob s g0 _ hlive;have hnI:¬I y.b:=fun hi=>by have:=hfr.2 hi;cases this
     have hnI':¬du I A ss y.b:=by
      rintro (hi'|⟨s',hs',g',y',hy',hb'⟩)
      ·exact hnI hi'
      ·exact hns ((h.inj _ _ _ _ _ _ hy hy' hb').1▸hs')
     have hgl':Gl E.gl (du I A ss) w:=fun g d hg=>(hgl g d hg).mono (fun _ hb=> .inl hb) (fun _ _=>rfl);have hpa:p<args.length:=(zc1.1 hp).1;obtain⟨v0,hv0⟩:∃v0,vargs[p]?=some v0:=⟨vargs[p]'(by rw[←hl];exact hpa),by simp⟩;obtain⟨hvv,hk⟩:=(hr p _ v0 hp hv0).own_inv hy;subst hk;have hbs:y.b<w.heap.size:=(zc0.1 hb).1;have hcells:∀(j:Nat) (d:D) (v:Value),cs[j]?=some d→c[j]?=some v→d.toV=some v:=fun j d v hd hv=>by
      have h1:=hrel j d v hd hv;have hp:=rT hpl hd;unfold D.plain at hp;obtain⟨u,hu⟩:=Option.isSome_iff_exists.1 hp;rw[hu,h1.toV hu]
     have hrest:∀(j:Nat) (d:D) (v:Value),j≠p→ds[j]?=some d→vargs[j]?=some v→RelC (du I A ss) w d v:=fun j d v hj hd hv=>by
      obtain⟨d0,hd0,hr0⟩:=a3 j d hd;rw[List.getElem?_set_ne (Ne.symm hj)] at hd0;exact hr0 v (hr j d0 v hd0 hv)
     have hdl:ds.length=vargs.size:=by rw[a1];simpa using hl
     split at hs
     ·rename_i f m cs' r hgo;split at hs
      ·rename_i hc2;simp only[zc4,zc7] at hc2;simp only[za0,zb3] at hs;obtain⟨rfl,rfl⟩:=hs;refine(hg.2 (du I A ss) w y.b y.cap n y.len m e f c ds cs cs' r vargs hfz.iw hgl' hnI' hb hcs hm hlc hcl hpl hcells (by omega) hdl (by rw[hv0,hvv]) hrest hgo hc2.2 hc2.1).mono ?_
       rintro en w' ⟨v,c',rfl,hrv,q1,q2,q3,q4,q5,q6,q7,q8⟩
       refine⟨v,rfl,?_⟩;have hlive':bi (σ.freeze ss).H s g0=some (.arr e n cs false):=by
        show bi (br σ.H ss) s g0=_;rw[ch,if_neg hns];exact hlive
       obtain⟨hi1,hR1⟩:=hfz.set (o':= .arr e n cs' false) hlive' hy hnI' (w':=cS w y.b (.cells c' e (0,0))) (bW _ _ _) (fun b hb=>ci _ _ _ hb) (fun hR=>⟨c',cY hbs,by rw[q2];exact hcs,hm,hlc,by rw[hc2.1];exact hcl,
        fun j d v hd hv=> .clo (ew (q3 j d v hd hv)),⟨(fun hh=>by cases hh),fun hi=>absurd hi hnI'⟩,fun d hd=>by
         obtain⟨j,hj,rfl⟩:=List.getElem_of_mem hd;have hjv:j<c'.size:=by rw[q2,hcs];have:=Nat.mul_le_mul_right n hlc;omega
         exact(ew (w:=w) (I:=I) (q3 j _ _ (zd2 hj) (Array.getElem?_eq_getElem hjv))).clo⟩)
       obtain⟨hi2,hR2⟩:=hi1.world (w':=w') (I':=fun b=>du I A ss b∨(w.heap.size≤b∧b<w'.heap.size)) (by rw[bW];exact q4) (fun b hb'=>by
        rw[bW] at hb';by_cases e1:b=y.b
        ·subst e1;rw[q1,cY hbs]
        ·rw[q5 b hb' e1,ci _ _ _ e1]) (fun _ hb=> .inl hb) (fun _ hb=>by rw[bW];exact hb) (by rw[bW];exact hB)
       exact⟨_,A,hi2,.clo hrv,fun _ hb=> .inl (.inl hb),fun b hb'=>q5 b (h.iw b hb') (fun e1=>hnI (e1▸hb')),⟨q6,q7,q8,q4,fun b hb'=>q5 b (hB b hb') (fun e=>(hyB.resolve_left hnI) (e▸hb'))⟩⟩
      ·cases hs
     ·cases hs
   ·cases hs
  ·cases hs
 ·cases hs
theorem BT{k:FuncId}{p:Nat}{g:List D→Option D}(hg:BQ E.P E.gl k p g)(h:Inv I0 B I A σ a w)(hgl:Gl E.gl I w)(hB:∀k,B k→k<w.heap.size){args:List D}{d:D}{σ':St}(hs:nv σ p g args=some (d,σ'))
  {vargs:Array Value} (hl:args.length=vargs.size) (hr:∀(j:Nat) (d:D) (v:Value),args[j]?=some d→vargs[j]?=some v→RelV I A (bl σ.H) w d v):
  Calls E.P k vargs w fun e w'=>∃v,e= .returned v∧Step I0 B I a w d σ' v w':=by
 unfold nv at hs;split at hs
 ·rename_i x0 hp;split at hs
  ·rename_i y0 hy0;obtain⟨s,g0,off,len⟩:=y0;dsimp only at hs;split at hs
   ·rename_i e n cs hlive;split at hs
    ·rename_i ds ss hsn;split at hs
     ·cases hs
     ·rename_i hc;simp only[Bool.or_eq_true,Bool.not_eq_true',not_or,Bool.not_eq_false,zc6,zc4,zc7] at hc;obtain⟨⟨hns,hn0,hwn⟩,hpl,hpos,hbd⟩:=hc;have hns:s∉ss:=by simpa using hns
      obtain⟨a1,a2,a3⟩:=dK (I:=I) (A:=A) (w:=w) (cr h depth) _ _ _ hsn;obtain⟨hfz,hRf⟩:=h.freeze ss a2.free;obtain⟨y,hy,hyB,c,hb,hcs,hm,hlc,hcl,hrel,hfr,hclo⟩:=h.ob s g0 _ hlive;have hnI:¬I y.b:=fun hi=>by have:=hfr.2 hi;cases this
      have hnI':¬du I A ss y.b:=by
       rintro (hi'|⟨s',hs',g',y',hy',hb'⟩)
       ·exact hnI hi'
       ·exact hns ((h.inj _ _ _ _ _ _ hy hy' hb').1▸hs')
      have hgl':Gl E.gl (du I A ss) w:=fun g d hg=>(hgl g d hg).mono (fun _ hb=> .inl hb) (fun _ _=>rfl);have hpa:p<args.length:=(zc1.1 hp).1;obtain⟨v0,hv0⟩:∃v0,vargs[p]?=some v0:=⟨vargs[p]'(by rw[←hl];exact hpa),by simp⟩;obtain⟨ad,capw,hvv,hcapw,hgg,had⟩:=ig hy0 (hr p _ v0 hp hv0);obtain⟨had,hoff,hcn⟩:=had hpos y hy;subst had;have hbs:y.b<w.heap.size:=(zc0.1 hb).1;have hcells:∀(j:Nat) (d:D) (v:Value),cs[j]?=some d→c[j]?=some v→d.toV=some v:=fun j d v hd hv=>by
       have h1:=hrel j d v hd hv;have hp:=rT hpl hd;unfold D.plain at hp;obtain⟨u,hu⟩:=Option.isSome_iff_exists.1 hp;rw[hu,h1.toV hu]
      have hrest:∀(j:Nat) (d:D) (v:Value),j≠p→ds[j]?=some d→vargs[j]?=some v→RelC (du I A ss) w d v:=fun j d v hj hd hv=>by
       obtain⟨d0,hd0,hr0⟩:=a3 j d hd;rw[List.getElem?_set_ne (Ne.symm hj)] at hd0;exact hr0 v (hr j d0 v hd0 hv)
      have hdl:ds.length=vargs.size:=by rw[a1];simpa using hl
      split at hs
      ·rename_i f m cs' r hgo;split at hs
       ·rename_i hc2;simp only[zc4,zc7] at hc2;simp only[za0,zb3] at hs;obtain⟨rfl,rfl⟩:=hs;refine(hg.2 (du I A ss) w y.b y.cap n y.len off len capw m e f c ds cs cs' r vargs hfz.iw hgl' hnI' hb hcs hm hlc hcl hpl hcells hpos hbd hcapw hoff (hcn n hwn) hn0 (by omega) hdl (by rw[hv0,hvv]) hrest hgo hc2.2 hc2.1).mono ?_
        rintro en w' ⟨v,c',rfl,hrv,q1,q2,q3,q4,q5,q6,q7,q8⟩
        refine⟨v,rfl,?_⟩;have hlive':bi (σ.freeze ss).H s g0=some (.arr e n cs false):=by
         show bi (br σ.H ss) s g0=_;rw[ch,if_neg hns];exact hlive
        have hwl:(co cs off cs').length=y.len*n:=by rw[dU];exact hcl
        obtain⟨hi1,hR1⟩:=hfz.set (o':= .arr e n (co cs off cs') false) hlive' hy hnI' (w':=cS w y.b (.cells c' e (0,0))) (bW _ _ _) (fun b hb=>ci _ _ _ hb) (fun hR=>⟨c',cY hbs,by rw[q2];exact hcs,hm,hlc,hwl,
         fun j d v hd hv=> .clo (ew (q3 j d v hd hv)),⟨(fun hh=>by cases hh),fun hi=>absurd hi hnI'⟩,fun d hd=>by
          obtain⟨j,hj,rfl⟩:=List.getElem_of_mem hd;have hjv:j<c'.size:=by rw[q2,hcs];have:=Nat.mul_le_mul_right n hlc;omega
          exact(ew (w:=w) (I:=I) (q3 j _ _ (zd2 hj) (Array.getElem?_eq_getElem hjv))).clo⟩)
        obtain⟨hi2,hR2⟩:=hi1.world (w':=w') (I':=fun b=>du I A ss b∨(w.heap.size≤b∧b<w'.heap.size)) (by rw[bW];exact q4) (fun b hb'=>by
         rw[bW] at hb';by_cases e1:b=y.b
         ·subst e1;rw[q1,cY hbs]
         ·rw[q5 b hb' e1,ci _ _ _ e1]) (fun _ hb=> .inl hb) (fun _ hb=>by rw[bW];exact hb) (by rw[bW];exact hB)
        exact⟨_,A,hi2,.clo hrv,fun _ hb=> .inl (.inl hb),fun b hb'=>q5 b (h.iw b hb') (fun e1=>hnI (e1▸hb')),⟨q6,q7,q8,q4,fun b hb'=>q5 b (hB b hb') (fun e=>(hyB.resolve_left hnI) (e▸hb'))⟩⟩
       ·cases hs
      ·cases hs
    ·cases hs
   ·cases hs
  ·cases hs
 ·cases hs
end
def Ox(P:Program)(gl:Nat→Option D)(k:FuncId)(ds:List D)(r:D):Prop:=
 ∀(I:Nat→Prop) (w:World) (vs:Array Value),(∀b,I b→b<w.heap.size)→Gl gl I w→ds.length=vs.size→(∀(j:Nat) (d:D) (v:Value),ds[j]?=some d→vs[j]?=some v→RelC I w d v)→
  Calls P k vs w fun e w'=>∃v,e= .returned v∧RelC (fun b=>I b∨(w.heap.size≤b∧b<w'.heap.size)) w' r v∧Blw (·<w.heap.size) w w'
def CallOK(P:Program)(gl:Nat→Option D)(k:FuncId)(ds:List D)(r:D):Prop:=
 (∀vs w,(callFunc k vs).run P w= .ok (.enter k vs) w)∧Ox P gl k ds r
def KH(P:Program)(gl:Nat→Option D)(k:FuncId)(ds:List D)(r:D):Prop:=
 ∀(I:Nat→Prop) (w:World) (vs:Array Value),(∀b,I b→b<w.heap.size)→Gl gl I w→ds.length=vs.size→(∀(j:Nat) (d:D) (v:Value),ds[j]?=some d→vs[j]?=some v→RelC I w d v)→
  ∃v,(callFunc k vs).run P w= .ok (.value v) w∧RelC I w r v
def xu(P:Program)(gl:Nat→Option D)(k:FuncId)(e:TypeId)(n:Nat)(ds:List D)(len:Nat)(cs:List D):Prop:=
 ∀(I:Nat→Prop) (w:World) (vs:Array Value),(∀b,I b→b<w.heap.size)→Gl gl I w→ds.length=vs.size→(∀(j:Nat) (d:D) (v:Value),ds[j]?=some d→vs[j]?=some v→RelC I w d v)→
  Calls P k vs w fun en w'=>Blw (·<w.heap.size) w w'∧∃(b cap:Nat) (c:Array Value),en= .returned (.slice (some ⟨b,0,none⟩) len cap)∧w.heap.size≤b∧w'.heap[b]?=some (.cells c e (0,0))∧c.size=cap*n∧cap≤maxLen∧len≤cap∧cs.length=len*n∧
   ∀(j:Nat) (d:D) (v:Value),cs[j]?=some d→c[j]?=some v→d.toV=some v
structure EnvOK(E:Env):Prop where
 call:∀k ds r,E.call k ds=some r→CallOK E.P E.gl k ds r∨((∀e n,E.wr k≠some (.own e n))∧KH E.P E.gl k ds r)
 wr:∀k g,E.wr k=some g→vd E.P E.gl k g
 ow:∀k e n,E.wr k=some (.own e n)→∀ds len cs,E.call k ds=some (.slc false len cs)→xu E.P E.gl k e n ds len cs
 inl:∀k i,E.inl k=some i→InlOK E.P E.gl k i
theorem pA{P:Program}{gl:Nat→Option D}{wr:FuncId→Option Mu}{call:FuncId→List D→Option D}(h:∀k ds r,call k ds=some r→CallOK P gl k ds r):∀k ds r,call k ds=some r→CallOK P gl k ds r∨((∀e n,wr k≠some (.own e n))∧KH P gl k ds r):=
 fun k ds r hc=> .inl (h k ds r hc)
theorem EnvOK.stillF{E:Env}(h:EnvOK E)(fs:List (Nat×Nat)):EnvOK (E.stillF fs):=by
 have hk:∀k mu,(E.stillF fs).wr k=some mu→E.wr k=some mu∧∃e n,mu= .own e n:=fun k mu hk=>by
  unfold Env.stillF at hk;dsimp only at hk;split at hk
  ·rename_i hw;cases hk;exact⟨hw,_,_,rfl⟩
  ·cases hk
 exact⟨fun k ds r hc=>(h.call k ds r hc).imp id fun hx=>⟨fun e n hw=>hx.1 e n (hk k _ hw).1,hx.2⟩,fun k g hg=>h.wr k g (hk k g hg).1,fun k e n hg=>h.ow k e n (hk k _ hg).1,fun _ _ hi=>nomatch hi⟩
theorem EnvOK.still{E:Env}(h:EnvOK E):EnvOK E.still:=⟨fun k ds r hc=>(h.call k ds r hc).imp id fun hx=>⟨fun e n hw=>(by cases hw),hx.2⟩,fun k g hk=>(by cases hk),fun k e n hk=>(by cases hk),fun _ _ hi=>nomatch hi⟩
def Wide(F:Fence):Prop:=F=Fence.wide∨∃l,F=Fence.wide.inRound l
theorem Wide.fn{F:Fence}(h:Wide F)(f:FuncId):F.fn f:=by rcases h with rfl|⟨l,rfl⟩<;>exact trivial
theorem Wide.depth{F:Fence}(h:Wide F):F.depth=none:=by rcases h with rfl|⟨l,rfl⟩<;>rfl
theorem Wide.calls{F:Fence}(h:Wide F){n:Nat}{P:Program}{f:FuncId}{vs:Array Value}{w:World}{R:Ending→World→Prop}(hc:Calls P f vs w R):CallsIn F n P f vs w R:=by
 rcases h with rfl|⟨l,rfl⟩
 ·exact callsIn_wide.2 hc
 ·exact(callsIn_wide.2 hc).inRound l
section
variable {F:Fence}{n:Nat}{P:Program}{o:Oper}{a:Act}{w w':World}{K:Act→World→Prop}{Q:Exit→Act→World→Prop}
theorem lp(hF:Wide F)(hd:∀c,o.op≠ .defer c){v:Value}(hrun:(execOp a.eval o).run P w= .ok (.value v) w')(hK:K (a.put o.dst v) w'):o.wpIn F n P a w K Q:=
 ⟨fun f _=>hF.fn f,by rw[Oper.semAt_plain F _ _ hd,hrun];exact hK⟩
theorem fU(hF:Wide F)(hd:∀c,o.op≠ .defer c)(hrun:(execOp a.eval o).run P w= .ok .skip w')(hK:K (a.put o.dst undef) w'):o.wpIn F n P a w K Q:=
 ⟨fun f _=>hF.fn f,by rw[Oper.semAt_plain F _ _ hd,hrun];exact hK⟩
theorem iN(hF:Wide F)(hd:∀c,o.op≠ .defer c){f:FuncId}{vs:Array Value}(hrun:(execOp a.eval o).run P w= .ok (.enter f vs) w')
  (hK:Calls P f vs w' fun e w''=>∃v,e= .returned v∧K (a.put o.dst v) w''):o.wpIn F n P a w K Q:=by
 refine⟨fun f _=>hF.fn f,?_⟩;rw[Oper.semAt_plain F _ _ hd,hrun];refine⟨(fun hs=>by rw[hF.depth] at hs;cases hs),(hF.calls hK).mono ?_⟩
 rintro e w'' ⟨v,rfl,hk⟩
 exact hk
end
section
variable {E:Env}{I0:Nat→Prop}{B:Nat→Prop}{I:Nat→Prop}{A:Nat→Nat→Option Gh}{σ:St}{a:Act}{w:World}
theorem jO(h:Inv I0 B I A σ a w)(hgl:Gl E.gl I w):∀{l:List Operand} {ds:List D},fa E σ l=some ds→
  ds.length=l.length∧∀(j:Nat) (d:D) (v:Value),ds[j]?=some d→(l.map a.eval)[j]?=some v→RelV I A (bl σ.H) w d v
 |[],ds,hs=>by
  simp only[fa,za0] at hs;subst hs;exact⟨rfl,fun j d v hd=>by simp at hd⟩
 |x::l,ds,hs=>by
  simp only[fa] at hs;split at hs
  ·cases hs
  ·rename_i d0 hd0;split at hs
   ·cases hs
   ·rename_i r hr;simp only[za0] at hs;subst hs;obtain⟨h1,h2⟩:=jO h hgl hr;refine⟨by simp[h1],fun j d v hd hv=> ?_⟩;cases j with
    |zero=>simp at hd hv;subst hd hv;exact bN h hgl hd0
    |succ j=>simp at hd;exact h2 j d v hd (by simpa using hv)
theorem rU(hcall:EnvOK E)(h:Inv I0 B I A σ a w)(hgl:Gl E.gl I w)(hB:∀k,B k→k<w.heap.size){f d:D}{args:List D}{σ':St}(hs:fc E σ f args=some (d,σ'))
  {vf:Value} {vargs:Array Value} (hf:RelV I A (bl σ.H) w f vf) (hl:args.length=vargs.size) (hr:∀(j:Nat) (d:D) (v:Value),args[j]?=some d→vargs[j]?=some v→RelV I A (bl σ.H) w d v):
  (∃k vs,(do let t←Deferred.ofValue vf vargs;invoke t.target t.args:Sem Next).run E.P w= .ok (.enter k vs) w∧Calls E.P k vs w fun e w'=>∃v,e= .returned v∧Step I0 B I a w d σ' v w')∨
   ∃v,(do let t←Deferred.ofValue vf vargs;invoke t.target t.args:Sem Next).run E.P w= .ok (.value v) w∧Step I0 B I a w d σ' v w:=by
 unfold fc at hs;split at hs
 ·rename_i k first caps
  split at hs
  ·cases hs
  ·rename_i ds ss hsn;split at hs
   ·cases hs
   ·rename_i r hc;simp only[za0,zb3] at hs;obtain⟨rfl,rfl⟩:=hs;obtain⟨vx,vy,rfl,hx,hy,hrx,hry⟩:=hf.fn_inv;obtain⟨a1,a2,a3⟩:=dK (I:=I) (A:=A) (w:=w) (cr h depth) _ _ _ hsn;obtain⟨hfz,hRf⟩:=h.freeze ss a2.free;have hgl':Gl E.gl (du I A ss) w:=fun g d hg=>(hgl g d hg).mono (fun _ hb=> .inl hb) (fun _ _=>rfl);have hargs:∀(j:Nat) (d:D) (v:Value),ds[j]?=some d→(vx++vargs++vy)[j]?=some v→RelC (du I A ss) w d v:=fun j d v hd hv=>by
     obtain⟨d0,hd0,hr0⟩:=a3 j d hd;refine hr0 v ?_;by_cases c1:j<first.length
     ·rw[za8,zb9 c1] at hd0;rw[Array.append_assoc,Array.getElem?_append_left (by omega)] at hv;exact hrx j d0 v hd0 hv
     ·rw[za8,zb8 (by omega)] at hd0;rw[Array.append_assoc,Array.getElem?_append_right (by omega),←hx] at hv;by_cases c2:j-first.length<args.length
      ·rw[zb9 c2] at hd0;rw[Array.getElem?_append_left (by omega)] at hv;exact hr _ d0 v hd0 hv
      ·rw[zb8 (by omega)] at hd0;rw[Array.getElem?_append_right (by omega),←hl] at hv;exact hry _ d0 v hd0 hv
    rcases hcall.call k ds r hc with⟨henter,hok⟩|⟨_,hx0⟩
    case inr=>
     obtain⟨v,hv1,hv2⟩:=hx0 (du I A ss) w (vx++vargs++vy) hfz.iw hgl' (by simp[a1,hx,hy,hl]) hargs;refine .inr ⟨v,by simp only[Array.append_assoc] at hv1;simp[Deferred.ofValue,invoke,hv1],?_⟩;by_cases hp:r.plain=true
     ·rw[if_pos hp];exact⟨I,A,h,.clo (hv2.plain hp),fun _ hb=>hb,fun _ _=>rfl,Blw.refl _ _⟩
     ·rw[if_neg hp];exact⟨_,A,hfz,.clo hv2,fun _ hb=> .inl hb,fun _ _=>rfl,Blw.refl _ _⟩
    refine .inl ⟨k,vx++vargs++vy,by simp[Deferred.ofValue,invoke,henter],?_⟩;refine(hok (du I A ss) w (vx++vargs++vy) hfz.iw hgl' (by simp[a1,hx,hy,hl]) hargs).mono ?_
    ·rintro e w' ⟨v,rfl,hrv,hbel⟩
     refine⟨v,rfl,?_⟩;by_cases hp:r.plain=true
     ·rw[if_pos hp];obtain⟨hi',hR'⟩:=h.world (w':=w') (I':=I) hbel.size (fun b hb=>hbel.block b hb) (fun _ hb=>hb) (fun _ hb=> .inl hb) hB;exact⟨I,A,hi',.clo (hrv.plain hp),fun _ hb=>hb,fun b hb=>hbel.block b (h.iw b hb),Blw.of hbel hB⟩
     ·rw[if_neg hp];obtain⟨hi',hR'⟩:=hfz.world (w':=w') (I':=fun b=>du I A ss b∨(w.heap.size≤b∧b<w'.heap.size)) hbel.size (fun b hb=>hbel.block b hb) (fun _ hb=> .inl hb) (fun _ hb=>hb) hB;exact⟨_,A,hi',.clo hrv,fun _ hb=> .inl (.inl hb),fun b hb=>hbel.block b (h.iw b hb),Blw.of hbel hB⟩
 ·cases hs
theorem BV{k0:FuncId}{e0:TypeId}{n0:Nat}{dst:Option Tmp}(hcall:EnvOK E)(hmu:E.wr k0=some (.own e0 n0))(h:Inv I0 B I A σ a w)(hgl:Gl E.gl I w)(hB:∀k,B k→k<w.heap.size){d:D}{args:List D}{σ':St}(hs:jF E σ dst e0 n0 (.fn (.func k0) [] []) args=some (d,σ'))
  {vf:Value} {vargs:Array Value} (hf:RelV I A (bl σ.H) w (.fn (.func k0) [] []) vf) (hl:args.length=vargs.size) (hr:∀(j:Nat) (d:D) (v:Value),args[j]?=some d→vargs[j]?=some v→RelV I A (bl σ.H) w d v):
  (∃k vs,(do let t←Deferred.ofValue vf vargs;invoke t.target t.args:Sem Next).run E.P w= .ok (.enter k vs) w∧Calls E.P k vs w fun e w'=>∃v,e= .returned v∧Step I0 B I a w d σ' v w')∨
   ∃v,(do let t←Deferred.ofValue vf vargs;invoke t.target t.args:Sem Next).run E.P w= .ok (.value v) w∧Step I0 B I a w d σ' v w:=by
 unfold jF at hs;split at hs
 ·rename_i len cs hres;unfold jE at hres;dsimp only at hres;split at hres
  ·cases hres
  ·rename_i ds ss hsn;split at hres
   ·rename_i len' cs' hc;cases hres;split at hs
    ·rename_i hp;simp only[zc4,zc7] at hp;rcases hcall.call k0 ds _ hc with⟨henter,_⟩|⟨hnw,_⟩
     case inr=>exact absurd hmu (hnw _ _)
     have hown:=hcall.ow k0 e0 n0 hmu ds len cs hc;obtain⟨vx,vy,rfl,hx,hy,hrx,hry⟩:=hf.fn_inv;have ex:vx= #[]:=by simpa using hx.symm
     have ey:vy= #[]:=by simpa using hy.symm
     subst ex ey;rw[zb7,zb6] at hsn;obtain⟨a1,a2,a3⟩:=dK (I:=I) (A:=A) (w:=w) (cr h depth) _ _ _ hsn;obtain⟨hfz,hRf⟩:=h.freeze ss a2.free;refine .inl ⟨k0,vargs,by simp[Deferred.ofValue,invoke,henter],?_⟩;have hgl':Gl E.gl (du I A ss) w:=fun g d hg=>(hgl g d hg).mono (fun _ hb=> .inl hb) (fun _ _=>rfl);refine(hown (du I A ss) w vargs hfz.iw hgl' (by rw[a1,hl]) (fun j d v hd hv=> ?_)).mono ?_
     ·obtain⟨d0,hd0,hr0⟩:=a3 j d hd;exact hr0 v (hr j d0 v hd0 hv)
     ·rintro e w' ⟨hbel,b,cap,c,rfl,q1,q2,q3,q4,q5,q6,q7⟩
      refine⟨_,rfl,?_⟩;exact ga h hs (fun hb=>absurd (hB b hb) (by omega)) (fun hb=>absurd (h.iw b hb) (by omega)) (fun s' g' y hy=>fun e1=>absurd (h.A_lt hy) (by omega)) (fun b' hb'=>hbel.block b' (h.iw b' hb')) (fun s' g' y hy=>hbel.block _ (h.A_lt hy)) (fun y j b' hb'=>⟨by have:=(h.rw.sep y j b' hb').1;omega,hbel.block b' (h.rw.sep y j b' hb').1⟩) (Blw.of hbel hB)
       q2 q3 q4 q5 q6 (fun j x u hx hu=>ew (q7 j x u hx hu))
    ·cases hs
   ·cases hres
 ·exact rU hcall h hgl hB hs hf hl hr
theorem rV(h:Inv I0 B I A σ a w)(hgl:Gl E.gl I w){x:Option Operand}{d:Option D}(hs:dA E σ x=some d)(k:Nat):ll k d (x.map a.eval):=by
 unfold dA at hs;split at hs
 ·simp only[za0] at hs;subst hs;exact rO (I:=I) (A:=A) (G:=bl σ.H) (w:=w) trivial
 ·split at hs
  ·rename_i d0 hd0;simp only[za0] at hs;subst hs;exact rO (I:=I) (A:=A) (G:=bl σ.H) (w:=w) (bN h hgl hd0)
  ·cases hs
theorem bZ{σ σ':St}{x:Option D}{d:D}(h:ep σ x=some (d,σ')):x=some d∧σ=σ':=by
 unfold ep at h;split at h
 ·simp only[za0,zb3] at h;obtain⟨rfl,rfl⟩:=h;exact⟨rfl,rfl⟩
 ·cases h
theorem d5{σ':St}{x:Option St}{d:D}(h:unit x=some (d,σ')):x=some σ'∧d= .tup []:=by
 unfold unit at h;split at h
 ·simp only[za0,zb3] at h;obtain⟨rfl,rfl⟩:=h;exact⟨rfl,rfl⟩
 ·cases h
theorem Ex{F:Fence}{n:Nat}(hF:Wide F)(hcall:EnvOK E)(h:Inv I0 B I A σ a w)(hgl:Gl E.gl I w)(hB:∀k,B k→k<w.heap.size){o:Oper}{d:D}{σ':St}(hev:cw E σ o=some (d,σ'))
  {K:Act→World→Prop} {Q:Exit→Act→World→Prop} (hK:∀v w',Step I0 B I a w d σ' v w'→K (a.put o.dst v) w'):o.wpIn F n E.P a w K Q:=by
 have value:(∀c,o.op≠ .defer c)→(∃u w',(execOp a.eval o).run E.P w= .ok (.value u) w'∧Step I0 B I a w d σ' u w')→o.wpIn F n E.P a w K Q:=fun hd ⟨u,w',h1,h2⟩=>lp hF hd h1 (hK u w' h2);have viaScal:(∀c,o.op≠ .defer c)→ep σ (dD E σ o)=some (d,σ')→o.wpIn F n E.P a w K Q:=fun hd hp=>by
  obtain⟨h1,rfl⟩:=bZ hp;obtain⟨v,hv,hr⟩:=Ew h hgl h1;exact value hd ⟨v,w,hv,Step.pure h hr⟩
 unfold cw at hev;split at hev
 ·
  rename_i x ho;obtain⟨h1,rfl⟩:=bZ hev;exact value (fun c e=>by rw[ho] at e;cases e) ⟨a.eval x,w,by unfold execOp;rw[ho];rfl,Step.pure h (bN h hgl h1)⟩
 ·
  rename_i x ho;obtain⟨h1,rfl⟩:=bZ hev;exact value (fun c e=>by rw[ho] at e;cases e) ⟨a.eval x,w,by unfold execOp;rw[ho];rfl,Step.pure h (bN h hgl h1)⟩
 ·
  rename_i c x y ho;split at hev
  ·rename_i t hc;obtain⟨h1,rfl⟩:=bZ hev;have hcv:=(bN h hgl hc).bool_inv;refine value (fun c e=>by rw[ho] at e;cases e) ⟨if t then a.eval x else a.eval y,w,by unfold execOp;rw[ho];simp[hcv,asBool],Step.pure h ?_⟩;cases t with
   |true=>exact bN h hgl h1
   |false=>exact bN h hgl h1
  ·cases hev
 ·
  rename_i x i ho;split at hev
  ·rename_i ds hx;obtain⟨h1,rfl⟩:=bZ hev;obtain⟨vs,hv,hl,hr⟩:=(bN h hgl hx).tup_inv;have hlt:i<vs.size:=by rw[←hl];exact(zc1.1 h1).1
   exact value (fun c e=>by rw[ho] at e;cases e) ⟨vs[i],w,by unfold execOp;rw[ho];simp[hv,Instr.extract,hlt],Step.pure h (hr i d _ h1 (Array.getElem?_eq_getElem hlt))⟩
  ·cases hev
 ·
  rename_i t ho;obtain⟨v,w',h1,h2⟩:=xc h hB hev;exact value (fun c e=>by rw[ho] at e;cases e) ⟨v,w',by unfold execOp;rw[ho];simp[h1],h2⟩
 ·
  rename_i t x ho;split at hev
  ·rename_i d0 hx;obtain⟨v,w',h1,h2⟩:=BI (E:=E) (t:=t) h hB hev (bN h hgl hx);exact value (fun c e=>by rw[ho] at e;cases e) ⟨v,w',by unfold execOp;rw[ho];simp[h1],h2⟩
  ·cases hev
 ·
  rename_i t ps ho;split at hev
  ·rename_i l hl;obtain⟨h1,rfl⟩:=bZ hev;obtain⟨q1,q2⟩:=mS h hgl hl;obtain⟨v,r1,r2⟩:=xj (I:=I) (A:=A) (G:=bl σ.H) (w:=w) h1 (vl:=ps.map fun(i,x)=>(i,a.eval x)) (by simp[q1]) (fun j i x v i' hx hv=>by
    obtain⟨y,hy,hr⟩:=q2 j i x hx;rw[Array.toList_map,zc3,hy] at hv;simp at hv;obtain⟨rfl,rfl⟩:=hv;exact⟨rfl,hr⟩)
   exact value (fun c e=>by rw[ho] at e;cases e) ⟨v,w,by unfold execOp;rw[ho];simp only[Sem.run_bind,r1,Result.andThen_ok,Sem.run_pure],Step.pure h r2⟩
  ·cases hev
 ·
  rename_i t m ps ho;split at hev
  ·rename_i l hl;obtain⟨q1,q2⟩:=mS h hgl hl;obtain⟨v,w',r1,r2⟩:=nU h hB hev (vl:=ps.map fun(i,x)=>(i,a.eval x)) (by simp[q1]) (fun j i x v i' hx hv=>by
    obtain⟨y,hy,hr⟩:=q2 j i x hx;rw[Array.toList_map,zc3,hy] at hv;simp at hv;obtain⟨rfl,rfl⟩:=hv;exact⟨rfl,hr⟩)
   exact value (fun c e=>by rw[ho] at e;cases e) ⟨v,w',by unfold execOp;rw[ho];simp only[Sem.run_bind,r1,Result.andThen_ok,Sem.run_pure],r2⟩
  ·cases hev
 ·
  rename_i t x ho;split at hev
  ·rename_i p hp;split at hev
   ·obtain⟨u,r1,r2⟩:=Am h hev (bN h hgl hp);exact value (fun c e=>by rw[ho] at e;cases e) ⟨u,w,by unfold execOp;rw[ho];simp[r1],r2⟩
   ·obtain⟨h1,rfl⟩:=bZ hev;obtain⟨u,r1,r2⟩:=rM h h1 (bN h hgl hp);exact value (fun c e=>by rw[ho] at e;cases e) ⟨u,w,by unfold execOp;rw[ho];simp[r1],Step.pure h r2⟩
  ·cases hev
 ·
  rename_i t p x ho;split at hev
  ·rename_i dp dx hp hx;split at hev
   ·obtain⟨h1,rfl⟩:=d5 hev;obtain⟨w',r1,r2⟩:=BJ h h1 (bN h hgl hp) (bN h hgl hx);exact fU hF (fun c e=>by rw[ho] at e;cases e) (by unfold execOp;rw[ho];simp only[Sem.run_bind,r1,Result.andThen_ok,Sem.run_pure]) (hK _ _ r2)
   ·obtain⟨h1,rfl⟩:=d5 hev;obtain⟨w',r1,r2⟩:=xf h h1 (bN h hgl hp) (bN h hgl hx);exact fU hF (fun c e=>by rw[ho] at e;cases e) (by unfold execOp;rw[ho];simp only[Sem.run_bind,r1,Result.andThen_ok,Sem.run_pure]) (hK _ _ r2)
  ·cases hev
 ·
  rename_i t x f ho;split at hev
  ·rename_i p hp;obtain⟨h1,rfl⟩:=bZ hev;obtain⟨u,r1,r2⟩:=pn h1 (bN h hgl hp);exact value (fun c e=>by rw[ho] at e;cases e) ⟨u,w,by unfold execOp;rw[ho];simp only[Sem.run_bind,r1,Result.andThen_ok,Sem.run_pure],Step.pure h r2⟩
  ·cases hev
 ·
  rename_i t x f ho;split at hev
  ·rename_i p hp;obtain⟨h1,rfl⟩:=bZ hev;obtain⟨u,r1,r2⟩:=xi h1 (bN h hgl hp);exact value (fun c e=>by rw[ho] at e;cases e) ⟨u,w,by unfold execOp;rw[ho];simp only[Sem.run_bind,r1,Result.andThen_ok,Sem.run_pure],Step.pure h r2⟩
  ·cases hev
 ·
  rename_i t x i ho;split at hev
  ·rename_i p j hp hj;obtain⟨h1,rfl⟩:=bZ hev;obtain⟨u,r1,r2⟩:=pq h1 (bN h hgl hp) (bN h hgl hj);exact value (fun c e=>by rw[ho] at e;cases e) ⟨u,w,by unfold execOp;rw[ho];simp only[Sem.run_bind,r1,Result.andThen_ok,Sem.run_pure],Step.pure h r2⟩
  ·cases hev
 ·
  rename_i x ho;split at hev
  ·rename_i s g k hx;simp only[za0,zb3] at hev;obtain⟨rfl,rfl⟩:=hev;have hr:=bN h hgl hx;obtain⟨ad,hv,_⟩:=tq (k:=0) hr;exact value (fun c e=>by rw[ho] at e;cases e) ⟨a.eval x,w,by unfold execOp;rw[ho];simp only[hv];rfl,Step.pure h hr⟩
  ·rename_i cs k hx;simp only[za0,zb3] at hev;obtain⟨rfl,rfl⟩:=hev;have hr:=bN h hgl hx;obtain⟨ad,hv,_⟩:=pm (k:=0) hr;exact value (fun c e=>by rw[ho] at e;cases e) ⟨a.eval x,w,by unfold execOp;rw[ho];simp only[hv];rfl,Step.pure h hr⟩
  ·rename_i f y z hx;simp only[za0,zb3] at hev;obtain⟨rfl,rfl⟩:=hev;have hr:=bN h hgl hx;obtain⟨vx,vy,hv,_⟩:=hr.fn_inv;exact value (fun c e=>by rw[ho] at e;cases e) ⟨a.eval x,w,by unfold execOp;rw[ho];simp only[hv];rfl,Step.pure h hr⟩
  ·cases hev
 ·
  rename_i f x y ho;split at hev
  ·rename_i k;split at hev
   ·rename_i dx dy hx hy;simp only[za0,zb3] at hev;obtain⟨rfl,rfl⟩:=hev;obtain⟨a1,a2⟩:=jO h hgl hx;obtain⟨b1,b2⟩:=jO h hgl hy;exact value (fun c e=>by rw[ho] at e;cases e) ⟨_,w,by unfold execOp;rw[ho];rfl,Step.pure h (.fn _ _ _ _ _ (by simp[a1]) (by simp[b1])
     (fun j d v hd hv=>a2 j d v hd (by simpa using hv)) (fun j d v hd hv=>b2 j d v hd (by simpa using hv)))⟩
   ·cases hev
  ·cases hev
 ·
  rename_i t x ho;split at hev
  ·rename_i dx hx;split at hev
   ·cases hev
   ·rename_i td hn hu;split at hev
    ·rename_i h1;simp only[za0,zb3] at hev;obtain⟨rfl,rfl⟩:=hev;have hr:=bN h hgl hx;refine value (fun c e=>by rw[ho] at e;cases e) ⟨.iface t (a.eval x),w,?_,Step.pure h (.ifc _ _ _ hr)⟩;unfold execOp;rw[ho];simp only[Instr.makeInterface,Sem.run_bind,run_underlying hu,Result.andThen_ok];simp
    ·cases hev
   ·cases hev
  ·cases hev
 ·
  rename_i t r ho;split at hev
  ·obtain⟨v,w',h1,h2⟩:=As (E:=E) h hB hev t;exact value (fun c e=>by rw[ho] at e;cases e) ⟨v,w',by unfold execOp;rw[ho];simp[h1],h2⟩
  ·cases hev
 ·
  rename_i t x k ok ho;split at hev
  ·rename_i dx dk hx hk;obtain⟨h1,rfl⟩:=bZ hev;obtain⟨u,r1,r2⟩:=u0 h h1 (bN h hgl hx) (bN h hgl hk);exact value (fun c e=>by rw[ho] at e;cases e) ⟨u,w,by unfold execOp;rw[ho];simp only[Sem.run_bind,r1,Result.andThen_ok,Sem.run_pure],Step.pure h r2⟩
  ·cases hev
 ·
  rename_i t m k x ho;split at hev
  ·rename_i dm dk dx hm hk hx;obtain⟨h1,rfl⟩:=d5 hev;obtain⟨w',r1,r2⟩:=jN h h1 (bN h hgl hm) (bN h hgl hk) (bN h hgl hx);exact fU hF (fun c e=>by rw[ho] at e;cases e) (by unfold execOp;rw[ho];simp only[Sem.run_bind,r1,Result.andThen_ok,Sem.run_pure]) (hK _ _ r2)
  ·cases hev
 ·
  rename_i t m k x ho;split at hev
  ·rename_i dm dk dx hm hk hx;obtain⟨h1,rfl⟩:=d5 hev;obtain⟨w',r1,r2⟩:=jN h h1 (bN h hgl hm) (bN h hgl hk) (bN h hgl hx);exact fU hF (fun c e=>by rw[ho] at e;cases e) (by unfold execOp;rw[ho];simp only[Sem.run_bind,r1,Result.andThen_ok,Sem.run_pure]) (hK _ _ r2)
  ·cases hev
 ·
  rename_i t l c ho;split at hev
  ·rename_i dl dc hl hc;obtain⟨u,w',r1,r2⟩:=pw h hB hev (bN h hgl hl) (bN h hgl hc);exact value (fun c e=>by rw[ho] at e;cases e) ⟨u,w',by unfold execOp;rw[ho];simp only[Sem.run_bind,r1,Result.andThen_ok,Sem.run_pure],r2⟩
  ·cases hev
 ·
  rename_i t x lo hi mx ho;split at hev
  ·exact viaScal (fun c e=>by rw[ho] at e;cases e) hev
  ·rename_i dx hx;split at hev
   ·rename_i l hh hlo hhi;obtain⟨u,w',r1,r2⟩:=xk h hev (bN h hgl ‹_›) (fun k=>rV h hgl hlo k) (fun k=>rV h hgl hhi k);exact value (fun c e=>by rw[ho] at e;cases e) ⟨u,w',by unfold execOp;rw[ho];simp only[Option.map_none,Sem.run_bind,r1,Result.andThen_ok,Sem.run_pure],r2⟩
   ·cases hev
  ·cases hev
 ·
  rename_i t x ho;split at hev
  ·rename_i dx hx;obtain⟨u,w',r1,r2⟩:=xo h hB hev (bN h hgl hx);exact value (fun c e=>by rw[ho] at e;cases e) ⟨u,w',by unfold execOp;rw[ho];simp only[Sem.run_bind,r1,Result.andThen_ok,Sem.run_pure],r2⟩
  ·cases hev
 ·
  rename_i it isS ho;split at hev
  ·rename_i dx hx;obtain⟨u,w',r1,r2⟩:=At (E:=E) h hev (bN h hgl hx) o.type;exact value (fun c e=>by rw[ho] at e;cases e) ⟨u,w',by unfold execOp;rw[ho];simp only[Sem.run_bind,r1,Result.andThen_ok,Sem.run_pure],r2⟩
  ·cases hev
 ·
  rename_i c ho;split at hev
  ·rename_i f hc;split at hev
   ·rename_i g as hg has;obtain⟨q1,q2⟩:=jO h hgl has;have hq:∀(j:Nat) (d:D) (v:Value),as[j]?=some d→(c.args.map a.eval)[j]?=some v→RelV I A (bl σ.H) w d v:=fun j d v hd hv=>q2 j d v hd (by
     rw[←Array.getElem?_toList,Array.toList_map] at hv;exact hv)
    have hvf:=bN h hgl hg;split at hev
    ·
     rename_i i hi;obtain⟨k,first,caps,hgk,hik⟩:∃k first caps,g= .fn (.func k) first caps∧E.inl k=some i.1∧i.2=(first,caps):=by
      unfold rI at hi;split at hi
      ·split at hi
       ·rename_i j hj;cases hi;exact⟨_,_,_,rfl,hj,rfl⟩
       ·cases hi
      ·cases hi
     obtain⟨hik,hi2⟩:=hik;subst hgk;have hok:=hcall.inl k _ hik;obtain⟨vx,vy,hvx,hx,hy,hrx,hry⟩:=hvf.fn_inv;have q3:as.length=c.args.size:=by simpa using q1
     unfold rJ at hev;split at hev
     ·rename_i p hp;cases hev;rw[hi2] at hp;refine iN hF (fun c e=>by rw[ho] at e;cases e) (f:=k) (vs:=vx++(c.args.map a.eval++vy)) ?_ ((hok.ok I0 B I A σ.T a w σ.H p.2 _ (vx++(c.args.map a.eval++vy)) p.1 h hgl hB hp (by simp[q1,hx,hy]) fun j d v hd hv=> ?_).mono ?_)
      ·unfold execOp;rw[ho];simp[resolve,hc,hvx,Deferred.ofValue,invoke,hok.en]
      ·dsimp only at hd;by_cases c1:j<first.length
       ·rw[zb9 c1] at hd;rw[Array.getElem?_append_left (by omega)] at hv;exact hrx j d v hd hv
       ·rw[zb8 (by omega)] at hd;rw[Array.getElem?_append_right (by omega),←hx] at hv;by_cases c2:j-first.length<as.length
        ·rw[zb9 c2] at hd;rw[Array.getElem?_append_left (by simp;omega)] at hv;exact hq _ d v hd hv
        ·rw[zb8 (by omega)] at hd;rw[Array.getElem?_append_right (by simp;omega)] at hv;exact hry _ d v hd (by simpa [q1] using hv)
      ·rintro e w' ⟨v,rfl,hst⟩
       exact⟨v,rfl,hK _ _ hst⟩
     ·cases hev
    rename_i hnone;clear hnone;split at hev
    ·rename_i en hen;obtain⟨e0,n0⟩:=en;obtain⟨k,hgk,hwk⟩:∃k,g= .fn (.func k) [] []∧E.wr k=some (.own e0 n0):=by
      unfold kT at hen;split at hen
      ·rename_i e1 n1 hmu;cases hen;unfold gQ at hmu;split at hmu
       ·exact⟨_,rfl,hmu⟩
       ·cases hmu
      ·cases hen
     subst hgk;rcases BV hcall hwk h hgl hB hev hvf (vargs:=c.args.map a.eval) (by simp[q1]) hq with⟨k,vs,r1,r2⟩|⟨v,r1,r2⟩
     case inr=>exact lp hF (fun c e=>by rw[ho] at e;cases e) (v:=v) (w':=w) (by unfold execOp;rw[ho];simp only[resolve,hc];exact r1) (hK _ _ r2)
     refine iN hF (fun c e=>by rw[ho] at e;cases e) (f:=k) (vs:=vs) ?_ (r2.mono ?_)
     ·unfold execOp;rw[ho];simp only[resolve,hc];exact r1
     ·rintro e w' ⟨v,rfl,hst⟩
      exact⟨v,rfl,hK _ _ hst⟩
    ·split at hev
     ·rename_i m hm;obtain⟨k,hgk,hen,hmx⟩:∃k,g= .fn (.func k) [] []∧(∀vs w,(callFunc k vs).run E.P w= .ok (.enter k vs) w)∧Calls E.P k (c.args.map a.eval) w fun e w'=>∃v,e= .returned v∧Step I0 B I a w d σ' v w':=by
       unfold ph at hm;split at hm
       ·rename_i p mp hmu;split at hm
        ·unfold gQ at hmu;split at hmu
         ·rename_i k _;have hpk:BP E.P E.gl k p mp:=hcall.wr k _ hmu;cases hm;simp only[jG] at hev;exact⟨k,rfl,hpk.1,BS (E:=E) hpk h hgl hB hev (vargs:=c.args.map a.eval) (by simp[q1]) hq⟩
         ·cases hmu
        ·cases hm
       ·rename_i p mp hmu;split at hm
        ·split at hm
         ·unfold gQ at hmu;split at hmu
          ·rename_i k _;have hpk:BQ E.P E.gl k p mp:=hcall.wr k _ hmu;cases hm;simp only[jG] at hev;exact⟨k,rfl,hpk.1,BT (E:=E) hpk h hgl hB hev (vargs:=c.args.map a.eval) (by simp[q1]) hq⟩
          ·cases hmu
         ·cases hm
        ·cases hm
       ·rename_i mu hnp hnw hmu;split at hm
        ·unfold gQ at hmu;split at hmu
         ·rename_i k _;have hmk:y3 E.P E.gl k mu.f:=by
           have h1:=hcall.wr k _ hmu;cases mu with
           |plc p mp=>exact absurd rfl (hnp p mp)
           |plw p mp=>exact absurd rfl (hnw p mp)
           |fn g=>exact h1
           |tab t g=>exact h1
           |own e n=>exact h1
          cases hm;simp only[jG] at hev;exact⟨k,rfl,hmk.1,BR (E:=E) hmk h hgl hB hev (vargs:=c.args.map a.eval) (by simp[q1]) hq⟩
         ·cases hmu
        ·cases hm
       ·cases hm
      ·subst hgk;obtain⟨vx,vy,hvx,hx,hy,_⟩:=hvf.fn_inv;have ex:vx= #[]:=by simpa using hx.symm
       have ey:vy= #[]:=by simpa using hy.symm
       subst ex ey;refine iN hF (fun c e=>by rw[ho] at e;cases e) (f:=k) (vs:=c.args.map a.eval) ?_ (hmx.mono ?_)
       ·unfold execOp;rw[ho];simp[resolve,hc,hvx,Deferred.ofValue,invoke,hen]
       ·rintro e w' ⟨v,rfl,hst⟩
        exact⟨v,rfl,hK _ _ hst⟩
     ·rcases rU hcall h hgl hB hev hvf (vargs:=c.args.map a.eval) (by simp[q1]) hq with⟨k,vs,r1,r2⟩|⟨v,r1,r2⟩
      case inr=>exact lp hF (fun c e=>by rw[ho] at e;cases e) (v:=v) (w':=w) (by unfold execOp;rw[ho];simp only[resolve,hc];exact r1) (hK _ _ r2)
      refine iN hF (fun c e=>by rw[ho] at e;cases e) (f:=k) (vs:=vs) ?_ (r2.mono ?_)
      ·unfold execOp;rw[ho];simp only[resolve,hc];exact r1
      ·rintro e w' ⟨v,rfl,hst⟩
       exact⟨v,rfl,hK _ _ hst⟩
   ·cases hev
  ·rename_i hc;split at hev
   ·rename_i s x t u' ha ht;split at hev
    ·rename_i ds dx hs hx;split at hev
     ·rename_i htu;subst htu;obtain⟨u,w',r1,r2⟩:=uX h hB hev (bN h hgl hs) (bN h hgl hx) o.type;refine value (fun c e=>by rw[ho] at e;cases e) ⟨u,w',?_,r2⟩;have e1:c.args= #[s,x]:=by rw[←Array.toArray_toList (xs:=c.args),ha]
      have e2:c.argTypes= #[t,t]:=by rw[←Array.toArray_toList (xs:=c.argTypes),ht]
      unfold execOp;rw[ho];simp only[resolve,hc,e1,e2,invoke,builtin,pure_bind,Sem.run_bind,Sem.run_pure,Result.andThen_ok,List.map_toArray,List.map_cons,List.map_nil,r1]
     ·cases hev
    ·cases hev
   ·cases hev
  ·rename_i hc;split at hev
   ·rename_i x t ha ht;have e1:c.args= #[x]:=by rw[←Array.toArray_toList (xs:=c.args),ha]
    have e2:c.argTypes= #[t]:=by rw[←Array.toArray_toList (xs:=c.argTypes),ht]
    split at hev
    ·rename_i dx e' hx hu;obtain⟨h1,rfl⟩:=bZ hev;obtain⟨u,r1,r2⟩:=BL (E:=E) (w:=w) hu h1 (bN h hgl hx) o.type;refine value (fun c e=>by rw[ho] at e;cases e) ⟨u,w,?_,Step.pure h r2⟩;unfold execOp;rw[ho];simp only[resolve,hc,e1,e2,invoke,builtin,pure_bind,Sem.run_bind,Sem.run_pure,Result.andThen_ok,List.map_toArray,List.map_cons,List.map_nil,r1]
    ·rename_i dx k' e' hx hu;obtain⟨h1,rfl⟩:=bZ hev;obtain⟨u,r1,r2⟩:=Ao h hu h1 (bN h hgl hx) o.type;refine value (fun c e=>by rw[ho] at e;cases e) ⟨u,w,?_,Step.pure h r2⟩;unfold execOp;rw[ho];simp only[resolve,hc,e1,e2,invoke,builtin,pure_bind,Sem.run_bind,Sem.run_pure,Result.andThen_ok,List.map_toArray,List.map_cons,List.map_nil,r1]
    ·exact viaScal (fun c e=>by rw[ho] at e;cases e) hev
    ·cases hev
   ·cases hev
  ·exact viaScal (fun c e=>by rw[ho] at e;cases e) hev
  ·exact viaScal (fun c e=>by rw[ho] at e;cases e) hev
  ·rename_i hc;split at hev
   ·rename_i x t ha ht;have e1:c.args= #[x]:=by rw[←Array.toArray_toList (xs:=c.args),ha]
    have e2:c.argTypes= #[t]:=by rw[←Array.toArray_toList (xs:=c.argTypes),ht]
    split at hev
    ·rename_i dx hx;obtain⟨u,w',r1,r2⟩:=xq h hev (bN h hgl hx) o.type;refine value (fun c e=>by rw[ho] at e;cases e) ⟨u,w',?_,r2⟩;unfold execOp;rw[ho];simp only[resolve,hc,e1,e2,invoke,builtin,pure_bind,Sem.run_bind,Sem.run_pure,Result.andThen_ok,List.map_toArray,List.map_cons,List.map_nil,r1]
    ·cases hev
   ·cases hev
  ·rename_i hc;split at hev
   ·rename_i x y t t2 ha ht;have e1:c.args= #[x,y]:=by rw[←Array.toArray_toList (xs:=c.args),ha]
    have e2:c.argTypes= #[t,t2]:=by rw[←Array.toArray_toList (xs:=c.argTypes),ht]
    split at hev
    ·rename_i dx dy hx hy;obtain⟨u,w',r1,r2⟩:=Au (t2:=t2) h hev (bN h hgl hx) (bN h hgl hy) o.type;refine value (fun c e=>by rw[ho] at e;cases e) ⟨u,w',?_,r2⟩;unfold execOp;rw[ho];simp only[resolve,hc,e1,e2,invoke,builtin,pure_bind,Sem.run_bind,Sem.run_pure,Result.andThen_ok,List.map_toArray,List.map_cons,List.map_nil,r1]
    ·cases hev
   ·cases hev
  ·cases hev
 ·
  rename_i op t x y s ho;split at hev
  ·rename_i dx dy hx hy;split at hev
   ·rename_i d1 h1;simp only[za0,zb3] at hev;obtain⟨rfl,rfl⟩:=hev;obtain⟨u,r1,r2⟩:=xp (E:=E) (w:=w) (x:=x) (y:=y) h1 (bN h hgl hx) (bN h hgl hy);exact value (fun c e=>by rw[ho] at e;cases e) ⟨u,w,by unfold execOp;rw[ho];rw[Sem.run_bind,r1];rfl,Step.pure h r2⟩
   ·exact viaScal (fun c e=>by rw[ho] at e;cases e) hev
  ·cases hev
 ·rename_i ho;exact viaScal (fun c e=>by rw[ho] at e;cases e) hev
 ·rename_i src dst x ho;split at hev
  ·rename_i d1 h1;simp only[za0,zb3] at hev;obtain⟨rfl,rfl⟩:=hev;obtain⟨u,r1,r2⟩:=xr (E:=E) (w:=w) h1 fun dx hx=>bN h hgl hx;exact value (fun c e=>by rw[ho] at e;cases e) ⟨u,w,by unfold execOp;rw[ho];rw[Sem.run_bind,r1];rfl,Step.pure h r2⟩
  ·exact viaScal (fun c e=>by rw[ho] at e;cases e) hev
 ·rename_i ho;exact viaScal (fun c e=>by rw[ho] at e;cases e) hev
 ·cases hev
end
end Go.Pd
end
section
namespace Go.Pd
def kU(T2:List D):Option (D×St)→Option (D×St)
 |some (d,σ)=>some (d,⟨T2,σ.H⟩)
 |none=>none
def HQ(T2:List D):Option St→Option St
 |some σ=>some ⟨T2,σ.H⟩
 |none=>none
@[simp] theorem KI(T2:List D):kU T2 none=none:=rfl
@[simp] theorem BW(T2:List D)(d:D)(σ:St):kU T2 (some (d,σ))=some (d,⟨T2,σ.H⟩):=rfl
@[simp] theorem KJ(T2:List D):HQ T2 none=none:=rfl
@[simp] theorem KL(T2:List D)(σ:St):HQ T2 (some σ)=some ⟨T2,σ.H⟩:=rfl
section
variable {E:Env}{T T2:List D}{H:List (Nat×Option Ob)}
theorem dH(x:Option D):ep ⟨T2,H⟩ x=kU T2 (ep ⟨T,H⟩ x):=by cases x<;>rfl
theorem tu(x:Option St):unit (HQ T2 x)=kU T2 (unit x):=by cases x<;>rfl
theorem fV(dst:Option Tmp)(o:Ob)(mk:Nat→Nat→D):ce ⟨T2,H⟩ dst o mk=kU T2 (ce ⟨T,H⟩ dst o mk):=by
 unfold ce;cases dst with
 |none=>rfl
 |some s=>dsimp only;split<;>rfl
theorem BX(dst:Option Tmp)(o:Ob)(mk:Nat→Nat→D)(ss:List Nat):ce (St.freeze ⟨T2,H⟩ ss) dst o mk=kU T2 (ce (St.freeze ⟨T,H⟩ ss) dst o mk):=fV dst o mk
theorem BY(dst:Option Tmp)(o:Ob)(mk:Nat→Nat→D)(ss:List Nat)(s:Nat):ce ((St.freeze ⟨T2,H⟩ ss).setOb s none) dst o mk=kU T2 (ce ((St.freeze ⟨T,H⟩ ss).setOb s none) dst o mk):=fV dst o mk
theorem Av(dst:Option Tmp)(t:TypeId):iF E ⟨T2,H⟩ dst t=kU T2 (iF E ⟨T,H⟩ dst t):=by
 unfold iF;split
 ·split
  ·split<;>exact fV ..
  ·rfl
 ·rfl
theorem Ey(dst:Option Tmp)(x:D):o9 ⟨T2,H⟩ dst x=kU T2 (o9 ⟨T,H⟩ dst x):=by
 unfold o9;split
 ·exact fV ..
 ·rfl
theorem Aw(t:TypeId)(p x:D):dN E ⟨T2,H⟩ t p x=HQ T2 (dN E ⟨T,H⟩ t p x):=by
 unfold dN;dsimp only
 repeat' (first|rfl|split)
theorem BZ(dst:Option Tmp)(t:TypeId)(p:D):jC E ⟨T2,H⟩ dst t p=kU T2 (jC E ⟨T,H⟩ dst t p):=by
 unfold jC;dsimp only
 repeat' (first|rfl|split)
theorem Ez(t:TypeId)(p x:D):nt E ⟨T2,H⟩ t p x=HQ T2 (nt E ⟨T,H⟩ t p x):=by
 unfold nt;dsimp only
 repeat' (first|rfl|split)
theorem pB(t:TypeId)(n:Nat)(l:List (Nat×D)):cQ E ⟨T2,H⟩ t n l=kU T2 (cQ E ⟨T,H⟩ t n l):=by
 unfold cQ;dsimp only
 repeat' (first|rfl|split)
theorem xv(dst:Option Tmp)(e:TypeId)(n b m:Nat)(news:List D)(ss:List Nat)(s:D):cK ⟨T2,H⟩ dst e n b m news ss s=kU T2 (cK ⟨T,H⟩ dst e n b m news ss s):=by
 unfold cK;dsimp only
 repeat' (first|rfl|exact BX .. |exact BY .. |split)
theorem xw(dst:Option Tmp)(t:TypeId)(s x:D):dJ E ⟨T2,H⟩ dst t s x=kU T2 (dJ E ⟨T,H⟩ dst t s x):=by
 unfold dJ;dsimp only
 repeat' (first|rfl|exact xv .. |split)
theorem rb(dst:Option Tmp)(t:TypeId)(s x:D):dg E ⟨T2,H⟩ dst t s x=kU T2 (dg E ⟨T,H⟩ dst t s x):=by
 unfold dg
 repeat' (first|rfl|exact fV .. |split)
theorem EA(e:TypeId)(x:D)(y:Nat×Nat×Nat×Nat)(lo hi:Option D):pc E ⟨T2,H⟩ e x y lo hi=kU T2 (pc E ⟨T,H⟩ e x y lo hi):=by
 unfold pc
 repeat' (first|rfl|split)
theorem xx(t:TypeId)(x:D)(lo hi:Option D):eN E ⟨T2,H⟩ t x lo hi=kU T2 (eN E ⟨T,H⟩ t x lo hi):=by
 unfold eN;dsimp only
 repeat' (first|rfl|split)
theorem Ax(t:TypeId)(x:D)(lo hi:Option D):dn E ⟨T2,H⟩ t x lo hi=kU T2 (dn E ⟨T,H⟩ t x lo hi):=by
 unfold dn;dsimp only
 repeat' (first|rfl|exact EA .. |exact xx .. |split)
theorem Ay(t:TypeId)(x:D):fR E ⟨T2,H⟩ t x=kU T2 (fR E ⟨T,H⟩ t x):=by
 unfold fR;dsimp only
 repeat' (first|rfl|split)
theorem tw(n:Nat)(q r:Nat×Nat×Nat×Nat):eC ⟨T2,H⟩ n q r=kU T2 (eC ⟨T,H⟩ n q r):=by
 unfold eC;dsimp only
 repeat' (first|rfl|split)
theorem xy(s:Nat)(ks vs:List D)(k v:D):gi ⟨T2,H⟩ s ks vs k v=HQ T2 (gi ⟨T,H⟩ s ks vs k v):=by
 unfold gi;dsimp only
 repeat' (first|rfl|split)
theorem B0(t:TypeId)(x y:D):iG E ⟨T2,H⟩ t x y=kU T2 (iG E ⟨T,H⟩ t x y):=by
 unfold iG;dsimp only
 repeat' (first|rfl|exact tw .. |split)
theorem kV(t:TypeId)(m k v:D):cy E ⟨T2,H⟩ t m k v=HQ T2 (cy E ⟨T,H⟩ t m k v):=by
 unfold cy;dsimp only
 repeat' (first|rfl|exact xy .. |split)
theorem ve(f:D)(args:List D):fc E ⟨T2,H⟩ f args=kU T2 (fc E ⟨T,H⟩ f args):=by
 unfold fc;dsimp only
 repeat' (first|rfl|split)
 all_goals simp[kU]
theorem EB(o:Bool)(dst:Option Tmp)(g:lM)(args:List D):lQ o ⟨T2,H⟩ dst g args=kU T2 (lQ o ⟨T,H⟩ dst g args):=by
 unfold lQ;dsimp only
 repeat' (first|rfl|exact fV .. |split)
theorem EC(p:Nat)(g:List D→Option D)(args:List D):nu ⟨T2,H⟩ p g args=kU T2 (nu ⟨T,H⟩ p g args):=by
 unfold nu;dsimp only
 repeat' (first|rfl|split)
theorem ED(p:Nat)(g:List D→Option D)(args:List D):nv ⟨T2,H⟩ p g args=kU T2 (nv ⟨T,H⟩ p g args):=by
 unfold nv;dsimp only
 repeat' (first|rfl|split)
theorem EE(g:List (Nat×Option Ob)→List D→Option (D×List (Nat×Option Ob)))(ds:List D):rJ ⟨T2,H⟩ g ds=kU T2 (rJ ⟨T,H⟩ g ds):=by
 unfold rJ;dsimp only;split<;>rfl
theorem B1(dst:Option Tmp)(m:MutX)(args:List D):jG ⟨T2,H⟩ dst m args=kU T2 (jG ⟨T,H⟩ dst m args):=by
 cases m with
 |fst o g=>exact EB ..
 |plc p g=>exact EC ..
 |plw p g=>exact ED ..
theorem B2(f:D)(args:List D):jE E ⟨T2,H⟩ f args=jE E ⟨T,H⟩ f args:=rfl
theorem EF(dst:Option Tmp)(e:TypeId)(n:Nat)(f:D)(args:List D):jF E ⟨T2,H⟩ dst e n f args=kU T2 (jF E ⟨T,H⟩ dst e n f args):=by
 unfold jF;rw[B2 (T2:=T2) (T:=T)];split
 ·split
  ·exact fV ..
  ·rfl
 ·exact ve ..
theorem Az(dst:Option Tmp)(t:TypeId)(x:D):iH E ⟨T2,H⟩ dst t x=kU T2 (iH E ⟨T,H⟩ dst t x):=by
 unfold iH;split
 ·exact fV ..
 ·rfl
theorem B3(x:D):gR ⟨T2,H⟩ x=kU T2 (gR ⟨T,H⟩ x):=by
 unfold gR;dsimp only
 repeat' (first|rfl|split)
def Same(T T2:List D)(l:List Operand):Prop:=∀t,.tmp t∈l→T2[t]?=T[t]?
theorem Same.val{l:List Operand}(h:Same T T2 l){H H':List (Nat×Option Ob)}{x:Operand}(hx:x∈l):St.val E ⟨T2,H⟩ x=St.val E ⟨T,H'⟩ x:=by
 cases x with
 |tmp t=>exact h t hx
 |const v=>rfl
 |global g=>rfl
 |func f=>rfl
theorem oq{l:List Operand}(h:Same T T2 l):fa E ⟨T2,H⟩ l=fa E ⟨T,H⟩ l:=by
 induction l with
 |nil=>rfl
 |cons x xs ih=>
  simp only[fa];rw[h.val (H:=H) (H':=H) (za4 ..),ih fun t ht=>h t (za5 _ ht)]
theorem pC{l:List (Nat×Operand)}(h:Same T T2 (l.map (·.2))):eM E ⟨T2,H⟩ l=eM E ⟨T,H⟩ l:=by
 induction l with
 |nil=>rfl
 |cons p xs ih=>
  obtain⟨i,x⟩:=p;simp only[eM];rw[h.val (H:=H) (H':=H) (by simp),ih fun t ht=>h t (by simp;right;simpa using ht)]
theorem vg{x:Option Operand}(h:∀y,x=some y→St.val E ⟨T2,H⟩ y=St.val E ⟨T,H⟩ y):dA E ⟨T2,H⟩ x=dA E ⟨T,H⟩ x:=by
 cases x with
 |none=>rfl
 |some y=>simp only[dA];rw[h y rfl]
theorem B4{o:Oper}{H H':List (Nat×Option Ob)}(h:Same T T2 o.op.operands.toList):dD E ⟨T2,H⟩ o=dD E ⟨T,H'⟩ o:=by
 have h1:∀x∈o.op.operands,gh E ⟨T2,H⟩ x=gh E ⟨T,H'⟩ x:=fun x hx=>by
  unfold gh;rw[h.val (H:=H) (H':=H') (by simpa using hx)]
 have h2:∀x∈o.op.operands,dS E ⟨T2,H⟩ x=dS E ⟨T,H'⟩ x:=fun x hx=>by
  unfold dS;rw[h.val (H:=H) (H':=H') (by simpa using hx)]
 unfold dD;split
 ·rfl
 ·rename_i hs;rw[execOp_congr o (fun cs b e=>hs cs b e) h1];have:o.op.operands.all (dS E ⟨T2,H⟩)=o.op.operands.all (dS E ⟨T,H'⟩):=by
   rw[Bool.eq_iff_iff];simp only[Array.all_eq_true'];exact⟨fun hh x hx=>(h2 x hx)▸hh x hx,fun hh x hx=>(h2 x hx).symm▸hh x hx⟩
  rw[this]
theorem B5{o:Oper}(h:Same T T2 o.op.operands.toList):cw E ⟨T2,H⟩ o=kU T2 (cw E ⟨T,H⟩ o):=by
 have hsc:=B4 (E:=E) (H:=H) (H':=H) h;have V:∀x,x∈o.op.operands.toList→St.val E ⟨T2,H⟩ x=St.val E ⟨T,H⟩ x:=fun x hx=>h.val hx;unfold cw;cases ho:o.op<;>rw[ho] at V h<;>simp only[Op.operands] at V h<;>dsimp only
 case move x=>rw[V x (by simp)];exact dH _
 case assign x=>rw[V x (by simp)];exact dH _
 case pick c x y=>
  rw[V c (by simp)];split
  ·rename_i t _;cases t<;>simp only[Bool.false_eq_true,if_false,if_true]
   ·rw[V y (by simp)];exact dH _
   ·rw[V x (by simp)];exact dH _
  ·rfl
 case extract x i=>rw[V x (by simp)];split<;>first|exact dH _|rfl
 case alloc t=>exact Av ..
 case box t x=>rw[V x (by simp)];split<;>first|exact Ey .. |rfl
 case build t ps=>rw[pC (T:=T) (by simpa using h)];split<;>first|exact dH _|rfl
 case buildSlice t n ps=>rw[pC (T:=T) (by simpa using h)];split<;>first|exact pB .. |rfl
 case load t x=>rw[V x (by simp)];split<;>first|(split<;>first|exact BZ .. |exact dH _)|rfl
 case store t x y=>rw[V x (by simp),V y (by simp)];split<;>first|(split<;>first|(rw[Ez (T:=T)];exact tu _)|(rw[Aw (T:=T)];exact tu _))|rfl
 case fieldAddr t x f=>rw[V x (by simp)];split<;>first|exact dH _|rfl
 case field t x f=>rw[V x (by simp)];split<;>first|exact dH _|rfl
 case indexAddr t x i=>rw[V x (by simp),V i (by simp)];split<;>first|exact dH _|rfl
 case nilCheck x=>rw[V x (by simp)];split<;>rfl
 case makeFunc f x y=>
  split
  ·rw[oq (T:=T) (fun t ht=>h t (by simp at ht ⊢;exact .inl ht)),oq (T:=T) (fun t ht=>h t (by simp at ht ⊢;exact .inr ht))];split<;>rfl
  ·rfl
 case makeInterface t x=>rw[V x (by simp)];repeat' (first|rfl|split)
 case makeMap t r=>cases r<;>first|exact fV .. |rfl
 case lookup t x k ok=>rw[V x (by simp),V k (by simp)];split<;>first|exact dH _|rfl
 case mapUpdate t x k y=>rw[V x (by simp),V k (by simp),V y (by simp)];split<;>first|(rw[kV (T:=T)];exact tu _)|rfl
 case insert t x k y=>rw[V x (by simp),V k (by simp),V y (by simp)];split<;>first|(rw[kV (T:=T)];exact tu _)|rfl
 case makeSlice t l c=>rw[V l (by simp),V c (by simp)];split<;>first|exact rb .. |rfl
 case slice t x lo hi mx=>
  rw[V x (by simp),vg (T:=T) (x:=lo) (fun y hy=>V y (by simp[hy])),vg (T:=T) (x:=hi) (fun y hy=>V y (by simp[hy])),hsc];split
  ·exact dH _
  ·split<;>first|exact Ax .. |rfl
  ·rfl
 case range t x=>rw[V x (by simp)];split<;>first|exact Az .. |rfl
 case next it s=>rw[V it (by simp)];split<;>first|exact B3 .. |rfl
 case call c=>
  split
  ·rename_i f hc;rw[V f (by simp[Call.operands,hc]),oq (T:=T) (fun t ht=>h t (by simp[Call.operands] at ht ⊢;exact .inr ht))];split
   ·split
    ·exact EE ..
    split
    ·exact EF ..
    ·split
     ·exact B1 ..
     ·exact ve ..
   ·rfl
  ·split
   ·rename_i s x t u ha ht;rw[V s (by simp[Call.operands,ha]),V x (by simp[Call.operands,ha])]
    repeat' (first|rfl|exact xw .. |split)
   ·rfl
  ·split
   ·rename_i x t ha ht;rw[V x (by simp[Call.operands,ha]),hsc]
    repeat' (first|rfl|exact dH _|split)
   ·rfl
  ·rw[hsc];exact dH _
  ·rw[hsc];exact dH _
  ·split
   ·rename_i x t ha ht;rw[V x (by simp[Call.operands,ha])];split
    ·exact Ay ..
    ·rfl
   ·rfl
  ·split
   ·rename_i x y t t2 ha ht;rw[V x (by simp[Call.operands,ha]),V y (by simp[Call.operands,ha])];split
    ·exact B0 ..
    ·rfl
   ·rfl
  ·rfl
 case binOp op t x y s=>
  rw[V x (by simp),V y (by simp),hsc];split
  ·split
   ·rfl
   ·exact dH _
  ·rfl
 case unOp=>rw[hsc];exact dH _
 case convert src dst x=>
  rw[hsc];rw[V x (zd1.2 rfl)];cases lR E src dst (St.val E ⟨T,H⟩ x) with
  |some d=>rfl
  |none=>exact dH _
 case index=>rw[hsc];exact dH _
 all_goals rfl
end
def Has(H H2:List (Nat×Option Ob)):Prop:=∀s g o,bi H s g=some o→∃o2,bi H2 s g=some o2∧o2.freeze=o.freeze
theorem Has.refl(H:List (Nat×Option Ob)):Has H H:=fun _ _ o h=>⟨o,h,rfl⟩
theorem Has.box{H H2:List (Nat×Option Ob)}(h:Has H H2){s g:Nat}{cs:List D}{fz:Bool}(hl:bi H s g=some (.box cs fz)):∃fz2,bi H2 s g=some (.box cs fz2):=by
 obtain⟨o2,h1,h2⟩:=h _ _ _ hl;cases o2<;>simp[Ob.freeze] at h2;subst h2;exact⟨_,h1⟩
theorem Has.arr{H H2:List (Nat×Option Ob)}(h:Has H H2){s g:Nat}{e:TypeId}{n:Nat}{cs:List D}{fz:Bool}(hl:bi H s g=some (.arr e n cs fz)):∃fz2,bi H2 s g=some (.arr e n cs fz2):=by
 obtain⟨o2,h1,h2⟩:=h _ _ _ hl;cases o2<;>simp[Ob.freeze] at h2;obtain⟨rfl,rfl,rfl⟩:=h2;exact⟨_,h1⟩
theorem Has.map{H H2:List (Nat×Option Ob)}(h:Has H H2){s g:Nat}{ks vs:List D}{fz:Bool}(hl:bi H s g=some (.map ks vs fz)):∃fz2,bi H2 s g=some (.map ks vs fz2):=by
 obtain⟨o2,h1,h2⟩:=h _ _ _ hl;cases o2<;>simp[Ob.freeze] at h2;obtain⟨rfl,rfl⟩:=h2;exact⟨_,h1⟩
theorem Has.mrf{H H2:List (Nat×Option Ob)}(h:Has H H2){s g:Nat}{ks vs:List D}{fz:Bool}(hl:bi H s g=some (.mrf ks vs fz)):∃fz2,bi H2 s g=some (.mrf ks vs fz2):=by
 obtain⟨o2,h1,h2⟩:=h _ _ _ hl;cases o2<;>simp[Ob.freeze] at h2;obtain⟨rfl,rfl⟩:=h2;exact⟨_,h1⟩
theorem Has.freeze(H:List (Nat×Option Ob))(ss:List Nat):Has H (br H ss):=fun s g o h=>by
 rw[ch,h];split
 ·exact⟨o.freeze,rfl,gT o⟩
 ·exact⟨o,rfl,rfl⟩
theorem Has.thaw(H:List (Nat×Option Ob))(ss:List Nat):Has (br H ss) H:=fun s g o h=>by
 rw[ch] at h;split at h
 ·cases hl:bi H s g with
  |none=>rw[hl] at h;simp at h
  |some o'=>rw[hl] at h;simp at h;subst h;exact⟨o',rfl,(gT o').symm⟩
 ·exact⟨o,h,rfl⟩
def Dead(H:List (Nat×Option Ob))(s:Nat):Prop:=∀g,bi H s g=none
theorem Has.new{H:List (Nat×Option Ob)}{s:Nat}(hd:Dead H s)(n:Nat)(ob:Option Ob):Has H (H.set s (n,ob)):=fun s' g o h=>by
 by_cases e:s=s'
 ·subst e;rw[hd g] at h;cases h
 ·exact⟨o,by rw[bO e];exact h,rfl⟩
theorem ij{f f2:D→Option (D×List Nat)}(hf:∀d r,f d=some r→f2 d=some r):∀(ds:List D) (r:List D×List Nat),cA f ds=some r→cA f2 ds=some r
 |[],r,h=>h
 |d::ds,r,h=>by
  simp only[cA] at h ⊢;split at h
  ·cases h
  ·rename_i d' ss hd;split at h
   ·cases h
   ·rename_i ds' ss' hds;rw[hf _ _ hd,ij hf _ _ hds];exact h
theorem d6{H H2:List (Nat×Option Ob)}(h:Has H H2):∀(n:Nat) (d:D) (r:D×List Nat),bJ H n d=some r→bJ H2 n d=some r
 |0,_,_,hs=>by cases hs
 |n+1,d,r,hs=>by
  have L:=ij (d6 h n);cases d with
  |loc s g off=>
   simp only[bJ] at hs ⊢;split at hs
   ·rename_i cs fz hl;obtain⟨fz2,hl2⟩:=h.box hl;rw[hl2];split at hs
    ·rename_i x1 x2 hx;simp only[L _ _ hx];exact hs
    ·cases hs
   ·rename_i e k cs fz hl;obtain⟨fz2,hl2⟩:=h.arr hl;rw[hl2];exact hs
   ·cases hs
  |own s g len=>
   simp only[bJ] at hs ⊢;split at hs
   ·rename_i e k cs fz hl;obtain⟨fz2,hl2⟩:=h.arr hl;rw[hl2];exact hs
   ·cases hs
  |win s g off len n=>
   simp only[bJ] at hs ⊢;split at hs
   ·rename_i e k cs fz hl;obtain⟨fz2,hl2⟩:=h.arr hl;rw[hl2];exact hs
   ·cases hs
  |mloc s g=>
   simp only[bJ] at hs ⊢;split at hs
   ·rename_i ks vs fz hl;obtain⟨fz2,hl2⟩:=h.map hl;rw[hl2];exact hs
   ·rename_i ks vs fz hl;obtain⟨fz2,hl2⟩:=h.mrf hl;rw[hl2];split at hs
    ·rename_i x1 x2 hx;simp only[L _ _ hx];exact hs
    ·cases hs
   ·cases hs
  |agg cs=>
   simp only[bJ] at hs ⊢;split at hs
   ·rename_i x1 x2 hx;simp only[L _ _ hx];exact hs
   ·cases hs
  |tup cs=>
   simp only[bJ] at hs ⊢;split at hs
   ·rename_i x1 x2 hx;simp only[L _ _ hx];exact hs
   ·cases hs
  |fn f a b=>
   simp only[bJ] at hs ⊢;split at hs
   ·rename_i x1 x2 hx;split at hs
    ·rename_i y1 y2 hy;simp only[L _ _ hx,L _ _ hy];exact hs
    ·cases hs
   ·cases hs
  |ifc t x=>
   simp only[bJ] at hs ⊢;split at hs
   ·rename_i x1 x2 hx;simp only[d6 h n _ _ hx];exact hs
   ·cases hs
  |_=>exact hs
def Lives(H:List (Nat×Option Ob))(ss:List Nat):Prop:=∀s∈ss,∃g o,bi H s g=some o
theorem Lives.append{H:List (Nat×Option Ob)}{ss ss':List Nat}(h:Lives H ss)(h':Lives H ss'):Lives H (ss++ss'):=fun s hs=>by
 rcases za9.1 hs with h1|h1
 ·exact h s h1
 ·exact h' s h1
theorem Lives.cons{H:List (Nat×Option Ob)}{s g:Nat}{o:Ob}{ss:List Nat}(hl:bi H s g=some o)(h:Lives H ss):Lives H (s::ss):=fun s' hs=>by
 rcases List.mem_cons.1 hs with rfl|h1
 ·exact⟨g,o,hl⟩
 ·exact h s' h1
theorem jP{H:List (Nat×Option Ob)}{f:D→Option (D×List Nat)}(hf:∀d d' ss,f d=some (d',ss)→Lives H ss):∀(ds ds':List D) (ss:List Nat),cA f ds=some (ds',ss)→Lives H ss
 |[],_,_,h=>by simp only[cA,za0,zb3] at h;obtain⟨rfl,rfl⟩:=h;exact fun s hs=>by cases hs
 |d::ds,ds',ss,h=>by
  simp only[cA] at h;split at h
  ·cases h
  ·rename_i d' s1 hd;split at h
   ·cases h
   ·rename_i ds1 s2 hds;simp only[za0,zb3] at h;obtain⟨rfl,rfl⟩:=h;exact(hf _ _ _ hd).append (jP hf _ _ _ hds)
theorem fF{H:List (Nat×Option Ob)}:∀(n:Nat) (d d':D) (ss:List Nat),bJ H n d=some (d',ss)→Lives H ss
 |0,_,_,_,hs=>by cases hs
 |n+1,d,d',ss,hs=>by
  have L:=jP (fF (H:=H) n);cases d with
  |loc s g off=>
   simp only[bJ] at hs;split at hs
   ·rename_i hl;split at hs
    ·rename_i hx;simp only[za0,zb3] at hs;obtain⟨rfl,rfl⟩:=hs;exact(L _ _ _ hx).cons hl
    ·cases hs
   ·rename_i hl;simp only[za0,zb3] at hs;obtain⟨rfl,rfl⟩:=hs;exact Lives.cons hl (fun s hs=>by cases hs)
   ·cases hs
  |own s g len=>
   simp only[bJ] at hs;split at hs
   ·rename_i hl;simp only[za0,zb3] at hs;obtain⟨rfl,rfl⟩:=hs;exact Lives.cons hl (fun s hs=>by cases hs)
   ·cases hs
  |win s g off len n=>
   simp only[bJ] at hs;split at hs
   ·rename_i hl;simp only[za0,zb3] at hs;obtain⟨rfl,rfl⟩:=hs;exact Lives.cons hl (fun s hs=>by cases hs)
   ·cases hs
  |mloc s g=>
   simp only[bJ] at hs;split at hs
   ·rename_i hl;simp only[za0,zb3] at hs;obtain⟨rfl,rfl⟩:=hs;exact Lives.cons hl (fun s hs=>by cases hs)
   ·rename_i hl;split at hs
    ·rename_i hx;simp only[za0,zb3] at hs;obtain⟨rfl,rfl⟩:=hs;exact(L _ _ _ hx).cons hl
    ·cases hs
   ·cases hs
  |agg cs=>
   simp only[bJ] at hs;split at hs
   ·rename_i hx;simp only[za0,zb3] at hs;obtain⟨rfl,rfl⟩:=hs;exact L _ _ _ hx
   ·cases hs
  |tup cs=>
   simp only[bJ] at hs;split at hs
   ·rename_i hx;simp only[za0,zb3] at hs;obtain⟨rfl,rfl⟩:=hs;exact L _ _ _ hx
   ·cases hs
  |fn f a b=>
   simp only[bJ] at hs;split at hs
   ·rename_i hx;split at hs
    ·rename_i hy;simp only[za0,zb3] at hs;obtain⟨rfl,rfl⟩:=hs;exact(L _ _ _ hx).append (L _ _ _ hy)
    ·cases hs
   ·cases hs
  |ifc t x=>
   simp only[bJ] at hs;split at hs
   ·rename_i hx;simp only[za0,zb3] at hs;obtain⟨rfl,rfl⟩:=hs;exact fF n _ _ _ hx
   ·cases hs
  |_=>simp only[bJ,za0,zb3] at hs;obtain⟨rfl,rfl⟩:=hs;exact fun s hs=>by cases hs
theorem gW{H H2:List (Nat×Option Ob)}(h:Has H H2):∀(l:List (Nat×D)) (r:List (Nat×D)) (ss:List Nat),dz H l=some (r,ss)→Lives H ss∧dz H2 l=some (r,ss)
 |[],_,_,hs=>by simp only[dz,za0,zb3] at hs;obtain⟨rfl,rfl⟩:=hs;exact⟨(fun s hs=>by cases hs),rfl⟩
 |(i,d)::l,r,ss,hs=>by
  simp only[dz] at hs ⊢;split at hs
  ·cases hs
  ·rename_i d' s1 hd;split at hs
   ·cases hs
   ·rename_i r1 s2 hr;simp only[za0,zb3] at hs;obtain⟨rfl,rfl⟩:=hs;obtain⟨a1,a2⟩:=gW h _ _ _ hr;exact⟨(fF _ _ _ _ hd).append a1,by simp only[d6 h _ _ _ hd,a2]⟩
theorem vh{H H2:List (Nat×Option Ob)}(h:Has H H2){p:D}{r:List D×Nat}(hc:fq H p=some r):fq H2 p=some r:=by
 unfold fq at hc ⊢;split at hc
 ·split at hc
  ·rename_i hl;obtain⟨_,hl2⟩:=h.box hl;simp only[hl2];exact hc
  ·rename_i hl;obtain⟨_,hl2⟩:=h.arr hl;simp only[hl2];exact hc
  ·cases hc
 ·exact hc
 ·cases hc
theorem AA{H H2:List (Nat×Option Ob)}(h:Has H H2){p:D}{r:List D×List D}(hc:pd H p=some r):pd H2 p=some r:=by
 unfold pd at hc ⊢;split at hc
 ·split at hc
  ·rename_i hl;obtain⟨_,hl2⟩:=h.map hl;simp only[hl2];exact hc
  ·rename_i hl;obtain⟨_,hl2⟩:=h.mrf hl;simp only[hl2];exact hc
  ·cases hc
 ·exact hc
 ·exact hc
 ·cases hc
theorem xz{H H2:List (Nat×Option Ob)}(h:Has H H2){p r:D}(hc:lh H p=some r):lh H2 p=some r:=by
 unfold lh at hc ⊢;split at hc
 ·split at hc
  ·rename_i hl;obtain⟨_,hl2⟩:=h.map hl;simp only[hl2];exact hc
  ·cases hc
 ·exact hc
 ·exact hc
 ·cases hc
inductive Kd where|pure|rd|al|ef
 deriving DecidableEq
def kd(P:Program)(o:Oper):Kd:=match o.op with
 | .move _| .assign _| .pick _ _ _| .extract _ _| .build _ _| .fieldAddr _ _ _| .field _ _ _| .indexAddr _ _ _| .nilCheck _| .makeFunc _ _ _| .makeInterface _ _
 | .binOp _ _ _ _ _| .unOp _ _ _| .convert _ _ _| .index _ _ _=> .pure
 | .load _ _| .lookup _ _ _ _| .buildSlice _ _ _| .slice _ _ _ _ _=> .rd
 | .alloc _| .box _ _| .makeMap _ none| .makeSlice _ _ _| .range _ _=> .al
 | .call c=>match c.callee with
  | .value _=> .rd
  | .builtin .max=> .pure
  | .builtin .min=> .pure
  | .builtin .len=>match c.argTypes.toList with
   |[t]=>match P.underlying t with
    |some (.slice _)=> .pure
    |some .string=> .pure
    |_=> .rd
   |_=> .ef
  |_=> .ef
 |_=> .ef
section
variable {E:Env}{T:List D}{H:List (Nat×Option Ob)}{o:Oper}{d:D}{σ':St}
theorem eS(E:Env)(T:List D)(H H2:List (Nat×Option Ob))(x:Operand):St.val E ⟨T,H2⟩ x=St.val E ⟨T,H⟩ x:=by cases x<;>rfl
theorem lZ(E:Env)(T:List D)(H H2:List (Nat×Option Ob)):∀l,fa E ⟨T,H2⟩ l=fa E ⟨T,H⟩ l
 |[]=>rfl
 |x::l=>by simp only[fa];rw[eS E T H H2,lZ E T H H2 l]
theorem l8(E:Env)(T:List D)(H H2:List (Nat×Option Ob)):∀l,eM E ⟨T,H2⟩ l=eM E ⟨T,H⟩ l
 |[]=>rfl
 |(i,x)::l=>by simp only[eM];rw[eS E T H H2,l8 E T H H2 l]
theorem pD(E:Env)(T:List D)(H H2:List (Nat×Option Ob))(x:Option Operand):dA E ⟨T,H2⟩ x=dA E ⟨T,H⟩ x:=by
 cases x with
 |none=>rfl
 |some y=>simp only[dA];rw[eS E T H H2]
theorem mU(E:Env)(T:List D)(H H2:List (Nat×Option Ob))(o:Oper):dD E ⟨T,H2⟩ o=dD E ⟨T,H⟩ o:=B4 fun _ _=>rfl
theorem db{x:Option D}(h:ep ⟨T,H⟩ x=some (d,σ')):σ'=⟨T,H⟩∧∀H2,ep ⟨T,H2⟩ x=some (d,⟨T,H2⟩):=by
 obtain⟨rfl,rfl⟩:=bZ h;exact⟨rfl,fun _=>rfl⟩
theorem l9(hk:kd E.P o= .pure)(h:cw E ⟨T,H⟩ o=some (d,σ')):σ'=⟨T,H⟩∧∀H2,cw E ⟨T,H2⟩ o=some (d,⟨T,H2⟩):=by
 unfold kd at hk;unfold cw at h ⊢;cases ho:o.op<;>simp only[ho,reduceCtorEq] at hk
 case call c=>
  simp only[ho] at h ⊢;split at hk
  ·cases hk
  ·rename_i hc;simp only[hc,fun H2=>mU E T H H2] at h ⊢;exact db h
  ·rename_i hc;simp only[hc,fun H2=>mU E T H H2] at h ⊢;exact db h
  ·rename_i hc;simp only[hc,fun H2=>mU E T H H2,fun H2=>eS E T H H2] at h ⊢;split at hk
   ·rename_i t ht;simp only[ht] at h ⊢;split at h
    ·rename_i x t' ha ht';cases ht';split at h
     ·rename_i hx hu;exact db h
     ·rename_i hx hu;simp only[hu] at hk;cases hk
     ·rename_i hx hu;exact db h
     ·cases h
    ·cases h
   ·cases hk
  ·cases hk
 all_goals simp only[ho,fun H2=>eS E T H H2,fun H2=>lZ E T H H2,fun H2=>l8 E T H H2,fun H2=>mU E T H H2] at h ⊢
 case makeMap t r=>cases r<;>cases hk
 case move=>exact db h
 case assign=>exact db h
 case unOp=>exact db h
 case convert src dst x=>
  cases hb:lR E src dst (St.val E ⟨T,H⟩ x) with
  |some d0=>
   simp only[hb,za0,zb3] at h;obtain⟨rfl,rfl⟩:=h;exact⟨rfl,fun H2=>rfl⟩
  |none=>
   simp only[hb] at h;obtain⟨h1,h2⟩:=db h;exact⟨h1,fun H2=>h2 H2⟩
 case index=>exact db h
 case binOp op t x y s=>
  split at h
  ·rename_i a b hx hy;split at h
   ·rename_i d1 h1;simp only[za0,zb3] at h;obtain⟨rfl,rfl⟩:=h;exact⟨rfl,fun _=>rfl⟩
   ·exact db h
  ·cases h
 case makeInterface t x=>
  split at h
  ·split at h
   ·cases h
   ·split at h
    ·rename_i hc;simp only[za0,zb3] at h;obtain⟨rfl,rfl⟩:=h;exact⟨rfl,fun _=>by rw[if_pos hc]⟩
    ·cases h
   ·cases h
  ·cases h
 case makeFunc f x y=>
  split at h
  ·split at h
   ·simp only[za0,zb3] at h;obtain⟨rfl,rfl⟩:=h;exact⟨rfl,fun _=>rfl⟩
   ·cases h
  ·cases h
 case nilCheck x=>
  split at h
  all_goals first|cases h;done|(simp only[za0,zb3] at h;obtain⟨rfl,rfl⟩:=h;exact⟨rfl,fun _=>rfl⟩)
 all_goals
  split at h
  ·exact db h
  ·cases h
theorem ot{x:List (Nat×Option Ob)→Option D}(hx:∀H2,Has H H2→∀d,x H=some d→x H2=some d)(h:ep ⟨T,H⟩ (x H)=some (d,σ')):
  ∃ss,σ'=⟨T,br H ss⟩∧Lives H ss∧∀H2,Has H H2→ep ⟨T,H2⟩ (x H2)=some (d,⟨T,br H2 ss⟩):=by
 obtain⟨h1,rfl⟩:=bZ h;exact⟨[],rfl,(fun s hs=>by cases hs),fun H2 h2=>by rw[hx H2 h2 d h1];rfl⟩
theorem xA{H2:List (Nat×Option Ob)}(hh:Has H H2){t:TypeId}{p d:D}(h:dT E ⟨T,H⟩ t p=some d):dT E ⟨T,H2⟩ t p=some d:=by
 unfold dT at h ⊢;dsimp only at h ⊢;split at h
 ·cases h
 ·rename_i cs off hc;rw[vh hh hc];exact h
theorem tx{H2:List (Nat×Option Ob)}(hh:Has H H2){t:TypeId}{x k d:D}{ok:Bool}(h:eO E ⟨T,H⟩ t x k ok=some d):eO E ⟨T,H2⟩ t x k ok=some d:=by
 unfold eO at h ⊢;split at h
 ·cases h
 ·split at h
  ·rename_i hk;rw[if_pos hk];split at h
   ·rename_i ks vs z hm hz;simp only[AA hh hm,hz];exact h
   ·cases h
  ·cases h
def Env.calm(E:Env):Prop:=E.nst=false∧∀k,E.inl k=none
theorem rW(h:E.calm)(g:D):rI E g=none:=by
 unfold rI;split
 ·rw[h.2]
 ·rfl
theorem B6(hns:E.calm)(hst:∀c f g,o.op= .call c→c.callee= .value f→St.val E ⟨T,H⟩ f=some g→gQ E g=none)(hk:kd E.P o= .rd)(h:cw E ⟨T,H⟩ o=some (d,σ')):∃ss,σ'=⟨T,br H ss⟩∧Lives H ss∧∀H2,Has H H2→cw E ⟨T,H2⟩ o=some (d,⟨T,br H2 ss⟩):=by
 unfold kd at hk;unfold cw at h ⊢;cases ho:o.op<;>simp only[ho,reduceCtorEq] at hk
 case makeMap t r=>cases r<;>cases hk
 all_goals simp only[ho,fun H2=>eS E T H H2,fun H2=>lZ E T H H2,fun H2=>l8 E T H H2,fun H2=>mU E T H H2,fun H2=>pD E T H H2] at h ⊢
 case load t x=>
  split at h
  ·rename_i p hp;simp only[hns.1,Bool.false_and] at h ⊢;exact ot (x:=fun H=>dT E ⟨T,H⟩ t p) (fun H2 h2 d h=>xA h2 h) h
  ·cases h
 case lookup t x k ok=>
  split at h
  ·rename_i p q hp hq;exact ot (x:=fun H=>eO E ⟨T,H⟩ t p q ok) (fun H2 h2 d h=>tx h2 h) h
  ·cases h
 case buildSlice t n ps=>
  split at h
  ·rename_i l hl;unfold cQ at h ⊢;split at h
   ·cases h
   ·rename_i e he;dsimp only at h ⊢;split at h
    ·rename_i n' z ps' ss hn hz hs;split at h
     ·rename_i hc;split at h
      ·rename_i cs hf;simp only[za0,zb3] at h;obtain⟨rfl,rfl⟩:=h;refine⟨ss,rfl,(gW (Has.refl H) _ _ _ hs).1,fun H2 h2=> ?_⟩;simp only[hn,hz,(gW h2 _ _ _ hs).2,hc,if_true,hf];rfl
      ·cases h
     ·cases h
    ·cases h
  ·cases h
 case slice t x lo hi mx=>
  split at h
  ·exact ot (x:=fun _=>dD E ⟨T,H⟩ o) (fun H2 _ d h=>h) h
  ·rename_i dx hx;split at h
   ·rename_i l hh hlo hhi;unfold dn at h ⊢;split at h
    ·split at h
     ·rename_i d0 hd0;cases h;exact⟨[],rfl,(fun s hs=>by cases hs),fun H2 h2=>by first|rfl|simp_all⟩
     ·rename_i hA;unfold eN at h;split at h
      ·rename_i n e s g ha;split at h
       ·rename_i m cs fz l h' hm hl hlo' hhi';split at h
        ·rename_i hcc;simp only[za0,zb3] at h;obtain⟨rfl,rfl⟩:=h;refine⟨[s],rfl,(fun s' hs'=>by rw[zd1.1 hs'];exact⟨g,_,hl⟩),fun H2 h2=> ?_⟩;obtain⟨fz2,hl2⟩:=h2.box hl;unfold eN;simp only[ha,hm,hl2,hlo',hhi',if_pos hcc];rfl
        ·cases h
       ·cases h
      ·cases h
    ·rename_i e he;dsimp only at h ⊢;split at h
     ·rename_i y hy;unfold pc at h ⊢;split at h
      ·split at h
       ·rename_i hc;simp only[za0,zb3] at h;obtain⟨rfl,rfl⟩:=h;refine⟨[],rfl,(fun s hs=>by cases hs),fun H2 h2=> ?_⟩;simp only[if_pos hc];rfl
       ·cases h
      ·cases h
     split at h
     ·rename_i n full len cs ss hn hs;split at h
      ·rename_i lo' hi' hl' hh';split at h
       ·rename_i hc;simp only[za0,zb3] at h;obtain⟨rfl,rfl⟩:=h;refine⟨ss,rfl,fF _ _ _ _ hs,fun H2 h2=> ?_⟩;simp only[hn,d6 h2 _ _ _ hs,hl',hh',hc,and_self,if_true];rfl
       ·cases h
      ·cases h
     ·rename_i n ss hn hs;split at h
      ·rename_i lo' hi' _ _;split at h
       ·rename_i hc;simp only[za0,zb3] at h;obtain⟨rfl,rfl⟩:=h;refine⟨[],rfl,(fun s hs=>by cases hs),fun H2 h2=> ?_⟩;simp only[hn,d6 h2 _ _ _ hs,hc,and_self,if_true];rfl
       ·cases h
      ·cases h
     ·cases h
   ·cases h
  ·cases h
 case call c=>
  split at hk
  ·rename_i f hc;simp only[hc] at h ⊢;split at h
   ·rename_i g as hg has;have hmu:gQ E g=none:=hst c f g ho hc hg;have hoo:kT E g=none:=by
     have:gQ E g=none:=hmu;unfold kT;rw[this]
    simp only[rW hns,hoo] at h ⊢;have hmo:∀as,ph E g as=none:=fun as=>by
     have:gQ E g=none:=hmu;unfold ph;rw[this]
    simp only[hmo] at h ⊢;unfold fc at h ⊢;split at h
    ·rename_i k first caps
     dsimp only at h ⊢;split at h
     ·cases h
     ·rename_i ds ss hs;have hL:=jP (H:=H) (fF (H:=H) depth) _ _ _ hs;split at h
      ·cases h
      ·rename_i r hr;simp only[za0,zb3] at h;obtain⟨rfl,rfl⟩:=h;by_cases hp:r.plain=true
       ·rw[if_pos hp];refine⟨[],rfl,(fun s hs=>by cases hs),fun H2 h2=> ?_⟩;simp only[ij (d6 h2 depth) _ _ hs,hr,if_pos hp];rfl
       ·rw[if_neg hp];refine⟨ss,rfl,hL,fun H2 h2=> ?_⟩;simp only[ij (d6 h2 depth) _ _ hs,hr,if_neg hp];rfl
    ·cases h
   ·cases h
  ·cases hk
  ·cases hk
  ·rename_i hc;split at hk
   ·rename_i t ht;simp only[hc,ht] at h ⊢;split at h
    ·rename_i x t' ha ht';cases ht';split at h
     ·rename_i hx hu;simp only[hu] at hk;cases hk
     ·rename_i dx k' e' hx hu;exact ot (x:=fun H=>lh H dx) (fun H2 h2 d h=>xz h2 h) h
     ·rename_i hx hu;simp only[hu] at hk;cases hk
     ·cases h
    ·cases h
   ·cases hk
  ·cases hk
end
end Go.Pd
end
