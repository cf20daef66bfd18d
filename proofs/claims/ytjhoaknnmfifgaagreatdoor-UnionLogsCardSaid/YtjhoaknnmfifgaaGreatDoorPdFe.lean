import Derived.Test.YtjhoaknnmfifgaaGreatDoorPdFd
import Derived.RangeFuncKeeps
import Derived.RangeFuncNested
import Derived.Laws.StructEq
import Derived.Scope
section
namespace Go.Pd
open Go.RowKit
def fM(T:List D):List Nat→List D→List D
 |p::ps,d::ds=>fM (T.set p d) ps ds
 |_,_=>T
def xJ(J:(Nat→Prop)→(Nat→Prop)→World→Prop):Prop:=∀O Fz W W',J O Fz W→Blw O W W'→J O Fz W'
def SeqOK(P:Program)(gl:Nat→Option D)(g:FuncId)(caps:List D)(ys:List (List D)):Prop:=
 (∀vs w,(callFunc g vs).run P w= .ok (.enter g vs) w)∧
 ∀(n l:Nat) (I:Nat→Prop) (w:World) (vcaps:Array Value) (O Fz:Nat→Prop) (J:Nat→(Nat→Prop)→(Nat→Prop)→World→Prop) (Jx:(Nat→Prop)→(Nat→Prop)→World→Prop),
  (∀b,I b→Fz b)→(∀b,Fz b→O b)→(∀b,O b→b<w.heap.size)→Gl gl I w→caps.length=vcaps.size→(∀(j:Nat) (d:D) (v:Value),caps[j]?=some d→vcaps[j]?=some v→RelC I w d v)→
  (∀i,xJ (J i))→xJ Jx→
  (∀(i:Nat) (y:List D) (O Fz I1:Nat→Prop) (W1:World) (args:Array Value),ys[i]?=some y→J i O Fz W1→(∀b,O b→b<W1.heap.size)→(∀b,I1 b→b<W1.heap.size)→(∀b,I1 b→Fz b∨¬O b)→y.length=args.size→
   (∀(j:Nat) (d:D) (v:Value),y[j]?=some d→args[j]?=some v→RelC I1 W1 d v)→
   YieldAt Fence.wide (n-1) P l args W1 fun e W'=>∃O' Fz',(∀b,O' b→O b∨W1.heap.size≤b∨I1 b)∧(∀b,O' b→b<W'.heap.size)∧(∀b,Fz b∨I1 b→Fz' b)∧(∀b,Fz' b→O' b)∧
    Blw (fun b=>b<W1.heap.size∧(¬O b∨Fz b∨I1 b)) W1 W'∧((e= .returned (.bool true)∧J (i+1) O' Fz' W')∨(e= .returned (.bool false)∧Jx O' Fz' W')))→
  J 0 O Fz w→
  CallsIn Fence.wide n P g (#[.func (.yield l) #[] #[]]++vcaps) w fun e w'=>(∃v,e= .returned v)∧((∃O' Fz',J ys.length O' Fz' w')∨(∃O' Fz',Jx O' Fz' w'))
section
variable {Fx:Act→Prop}{KK I0 I:Nat→Prop}{A:Nat→Nat→Option Gh}{w0 w w':World}{σ:St}{a:Act}{P:Program}{gl:Nat→Option D}
theorem Inv.same(h:Inv I0 KK I A σ a w)(hsz:w.heap.size≤w'.heap.size)(hI:∀b,I b→w'.heap[b]?=w.heap[b]?)(hA:∀s g x,A s g=some x→w'.heap[x.b]?=w.heap[x.b]?)(hR:∀b,RowB A σ.H w b→w'.heap[b]?=w.heap[b]?):Inv I0 KK I A σ a w':=by
 have hrb:=hR;have hR:∀d v,RelV I A (bl σ.H) w d v→RelV I A (bl σ.H) w' d v:=fun d v hr=>hr.mono (fun _ hb=>hb) hI (fun _=>zb0 _) (fun _ _ _ _ hx=>hx);refine⟨h.tl,fun t d v hd hv=>hR _ _ (h.tv t d v hd hv),fun s g o ho=> ?_,h.ar,h.inj,fun b hb=>zb2 (h.iw b hb) hsz,h.io,h.ii,h.df.mono (fun _ hb=>hb) hI,h.rw.sub (fun s g _ _ _ _ _ k1 k2=>⟨s,g,k1,k2⟩) (fun s g _ hz=> .inl ⟨s,g,hz⟩) (fun s g _ _ _ _ _ _ k2=>hA _ _ _ k2) (fun x j b hb=>⟨hrb b ⟨x,j,hb⟩,(h.rw.sep x j b hb).2.1,(h.rw.sep x j b hb).2.2.1⟩) hsz (fun _ hb=>hb) hI⟩;obtain⟨x,hx,hxB,hok⟩:=h.ob s g o ho;exact⟨x,hx,hxB,hok.carry hR (hA s g x hx) Iff.rfl⟩
theorem Inv.re(h:Inv I0 KK I A σ a w){I0' KK' I':Nat→Prop}{T':List D}{a':Act}(hI:∀b,I b→I' b)(hI':∀s g x,A s g=some x→I' x.b→I x.b)(hiw:∀b,I' b→b<w.heap.size)(hio:∀b,I' b→I0' b∨¬KK' b)(hii:∀b,I0' b→I' b)
  (hB:∀s g x,A s g=some x→I' x.b∨¬KK' x.b) (hdf:Marks KK' I' w a'.defers) (htl:T'.length=a'.tmps.size) (htv:∀(t:Nat) (d:D) (v:Value),T'[t]?=some d→a'.tmps[t]?=some v→RelV I' A (bl σ.H) w d v) (hrI:∀b,RowB A σ.H w b→¬I' b∧¬KK' b):Inv I0' KK' I' A ⟨T',σ.H⟩ a' w:=by
 have hR:∀d v,RelV I A (bl σ.H) w d v→RelV I' A (bl σ.H) w d v:=fun d v hr=>hr.mono hI (fun _ _=>rfl) (fun _=>zb0 _) (fun _ _ _ _ hx=>hx);refine⟨htl,htv,fun s g o ho=> ?_,h.ar,h.inj,hiw,hio,hii,hdf,h.rw.sub (fun s g _ _ _ _ _ k1 k2=>⟨s,g,k1,k2⟩) (fun s g _ hz=> .inl ⟨s,g,hz⟩) (fun _ _ _ _ _ _ _ _ _=>rfl) (fun x j b hb=>⟨rfl,hrI b ⟨x,j,hb⟩⟩) (zb0 _) hI fun _ _=>rfl⟩;obtain⟨x,hx,_,hok⟩:=h.ob s g o ho;exact⟨x,hx,hB s g x hx,hok.carry hR rfl ⟨hI' s g x hx,hI _⟩⟩
def Mine(KK I:Nat→Prop)(A:Nat→Nat→Option Gh)(H:List (Nat×Option Ob))(w:World)(l b:Nat):Prop:=KK b∨I b∨b=l∨(∃s g x,A s g=some x∧x.b=b)∨RowB A H w b
theorem iV(h:Inv I0 KK I A σ a w){s g:Nat}{x:Gh}(hx:A s g=some x){l:Nat}{r:Loop}(hl:w.heap[l]?=some (.loop r)):x.b≠l:=fun e=>by
 obtain⟨o,ho⟩:=h.ar s g x hx;obtain⟨y,hy,_,hok⟩:=h.ob s g o ho;rw[hx] at hy;cases hy;cases o with
 |box cs fz=>obtain⟨c,e',hb,_⟩:=hok;rw[e,hl] at hb;cases hb
 |arr e' n cs fz=>obtain⟨c,hb,_⟩:=hok;rw[e,hl] at hb;cases hb
 |map ks vs fz=>obtain⟨c,e',hb,_⟩:=hok;rw[e,hl] at hb;cases hb
 |mrf ks vs fz=>obtain⟨c,e',hb,_⟩:=hok;rw[e,hl] at hb;cases hb
 |sit s pos=>have hb:=hok.1;rw[e,hl] at hb;cases hb
 |raw c0 e0=>have hb:=hok.1;rw[e,hl] at hb;cases hb
 |nst e' er nr cs=>obtain⟨c,hb,_⟩:=hok;rw[e,hl] at hb;cases hb
theorem jR(h:Inv I0 KK I A σ a w){b:Nat}(hx:RowB A σ.H w b){l:Nat}{r:Loop}(hl:w.heap[l]?=some (.loop r)):b≠l:=fun e=>by
 obtain⟨x,j,s,g,e1,er,nr,cs,c,f,len,rs,cap,h1,h2,h3,h4,h5⟩:=hx;obtain⟨_,b',cap',c',q1,q2,_⟩:=h.rw.ok s g e1 er nr cs x c h2 h1 h3 j _ _ h4 h5;cases q1;rw[e,hl] at q2;cases q2
theorem Mine.back{H:List (Nat×Option Ob)}{w w':World}{l b:Nat}(h:Mine KK I A H w' l b)(hw:∀s g x,A s g=some x→w'.heap[x.b]?=w.heap[x.b]?):Mine KK I A H w l b:=
 h.imp id fun h=>h.imp id fun h=>h.imp id fun h=>h.imp id fun h=>h.back hw
def cG:Code→List Nat
 | .region _ ops _=>ops.toList.filterMap fun o=>o.dst
 | .seq a b=>cG a++cG b
 | .cond _ a b=>cG a++cG b
 | .block _ c=>cG c
 | .loop c=>cG c
 | .scope c=>cG c
 |_=>[]
def Pass(σ σ':St):Prop:=∀(I0 KK I:Nat→Prop) (A:Nat→Nat→Option Gh) (a:Act) (w:World),Inv I0 KK I A σ a w→∃I' A',Inv I0 KK I' A' σ' a w∧Turn I I' A A' σ.H σ'.H w
theorem Pass.norm{σ σ':St}{i:Norm}(h:σ.norm i=some σ'):Pass σ σ':=fun _ _ _ _ _ _ hi=>hi.norm h
def xK:Out→Option Code
 | .norm=>none
 | .exit id=>some (.exit id)
 | .ret=>some .ret
def mg(a:Act)(Wl:List Nat)(x:Act):Prop:=x.tmps.size=a.tmps.size∧∀t,t∉Wl→x.tmps[t]?=a.tmps[t]?
theorem d7{Wl:List Nat}:∀(c:Code),(∀t∈cG c,t∈Wl)→BB (mg a Wl) c
 | .region _ ops _,h=>fun i o ho x v hx=>by
  cases hd:o.dst with
  |none=>exact hx
  |some t=>
   have ht:t∈Wl:=h t (List.mem_filterMap.2 ⟨o,Array.mem_toList_iff.2 (Array.mem_of_getElem? ho),hd⟩);refine⟨?_,fun t' ht'=> ?_⟩
   ·simp[Act.put];exact hx.1
   ·have hne:t≠t':=fun e=>ht' (e▸ht);simp[Act.put,Array.getElem?_setIfInBounds_ne hne];exact hx.2 t' ht'
 | .seq a b,h=>⟨d7 a fun t ht=>h t (za9.2 (.inl ht)),d7 b fun t ht=>h t (za9.2 (.inr ht))⟩
 | .cond _ a b,h=>⟨d7 a fun t ht=>h t (za9.2 (.inl ht)),d7 b fun t ht=>h t (za9.2 (.inr ht))⟩
 | .block _ c,h=>d7 c h
 | .loop c,h=>d7 c h
 | .rangeFunc _ _ _ _,_=>fun _ _ h=>h
 | .skip,_=>trivial
 | .exit _,_=>trivial
 | .ret,_=>trivial
 | .scope c,h=>d7 c h
 | .label _,_=>trivial
 | .goto _,_=>trivial
 | .refuse _,_=>trivial
theorem sn:∀(Wl:List Nat) (T:List D) (t:Nat) (d:D),(ic T Wl)[t]?=some d→d= .junk∨(t∉Wl∧T[t]?=some d)
 |[],T,t,d,h=> .inr ⟨by simp,h⟩
 |s::Wl,T,t,d,h=>by
  rcases sn Wl (T.set s .junk) t d h with h1|⟨h1,h2⟩
  ·exact .inl h1
  ·rw[List.getElem?_set] at h2;split at h2
   ·split at h2
    ·cases h2;exact .inl rfl
    ·cases h2
   ·rename_i hne;exact .inr ⟨by simp only[List.mem_cons,not_or];exact⟨fun e=>hne e.symm,h1⟩,h2⟩
theorem pI:∀(ps:List Nat) (y T:List D),(fM T ps y).length=T.length
 |[],_,_=>by simp[fM]
 |_::_,[],_=>by simp[fM]
 |p::ps,d::y,T=>by simp only[fM];rw[pI ps y];simp
theorem pJ{Rl:D→Value→Prop}:∀(ps:List Nat) (y:List D) (args:List Value) (T:List D) (tm:Array Value),y.length=args.length→(∀(j:Nat) (d:D) (v:Value),y[j]?=some d→args[j]?=some v→Rl d v)→
  (∀(t:Nat) (d:D) (v:Value),T[t]?=some d→tm[t]?=some v→Rl d v)→T.length=tm.size→
  ((ps.zip args).foldl (fun(t:Array Value) (p:Nat×Value)=>t.setIfInBounds p.1 p.2) tm).size=tm.size∧
  (∀t,t∉ps→((ps.zip args).foldl (fun(t:Array Value) (p:Nat×Value)=>t.setIfInBounds p.1 p.2) tm)[t]?=tm[t]?)∧
  ∀(t:Nat) (d:D) (v:Value),(fM T ps y)[t]?=some d→((ps.zip args).foldl (fun(t:Array Value) (p:Nat×Value)=>t.setIfInBounds p.1 p.2) tm)[t]?=some v→Rl d v
 |[],y,args,T,tm,_,_,h,_=>⟨rfl,fun _ _=>rfl,fun t d v hd hv=>h t d v (by cases y<;>simpa [fM] using hd) hv⟩
 |p::ps,[],args,T,tm,hl,_,h,_=>by
  have:args=[]:=List.length_eq_zero_iff.1 hl.symm;subst this;exact⟨rfl,fun _ _=>rfl,fun t d v hd hv=>h t d v (by simpa [fM] using hd) hv⟩
 |p::ps,d0::y,[],T,tm,hl,_,_,_=>by simp at hl
 |p::ps,d0::y,v0::args,T,tm,hl,hr,h,hT=>by
  obtain⟨h1,h2,h3⟩:=pJ (Rl:=Rl) ps y args (T.set p d0) (tm.setIfInBounds p v0) (by simpa using hl) (fun j d v hd hv=>hr (j+1) d v (by simpa using hd) (by simpa using hv)) (fun t d v hd hv=>by
   rw[List.getElem?_set] at hd;rw[Array.getElem?_setIfInBounds] at hv;by_cases e:p=t
   ·subst e;by_cases hlt:p<T.length
    ·have hlt':p<tm.size:=by omega
     simp[hlt] at hd;simp[hlt'] at hv;subst hd hv;exact hr 0 _ _ rfl rfl
    ·simp[hlt] at hd
   ·simp only[e,if_false] at hd hv;exact h t d v hd hv) (by simpa using hT)
  refine⟨by simpa using h1,fun t ht=> ?_,fun t d v hd hv=>h3 t d v (by simpa [fM] using hd) (by simpa using hv)⟩;simp only[List.mem_cons,not_or] at ht;have:=h2 t ht.2;simp only[List.zip_cons_cons,List.foldl_cons];rw[this,Array.getElem?_setIfInBounds_ne (Ne.symm ht.1)]
def oy(P:Program)(KK I0 I:Nat→Prop)(A:Nat→Nat→Option Gh)(σ:St)(a:Act)(w:World)(ps:Array Tmp)(as bd:Code)(ro:Option Nat)(fn:FuncId)(l dfr:Nat)(mk:List Deferred)(W1:World)(I1:Nat→Prop):Prop:=
 (Instr.enterLoop fn a.tmps ps as bd ro).run P w= .ok (l,mk) W1∧
 W1.heap[l]?=some (.loop {state:= .ready,pending:=none,fn,tmps:=a.tmps,params:=ps,assign:=as,body:=bd,defers:=dfr})∧
 W1.heap.size=l+1∧w.heap.size≤l∧Blw (·<w.heap.size) w W1∧Inv I0 KK I1 A σ {a with defers:=mk++a.defers} W1∧(∀b,I b→I1 b)∧¬I1 l∧(mk=[]∨∃d,mk=[d])
theorem vG(h:Inv I0 KK I A σ a w)(hKw:∀k,KK k→k<w.heap.size){ps:Array Tmp}{as bd:Code}(fn:FuncId):∃l dfr mk W1 I1,oy P KK I0 I A σ a w ps as bd none fn l dfr mk W1 I1:=by
 obtain⟨rec,hrec⟩:∃rec:LoopState→Option Code→Loop,rec=fun st pe=>{state:=st,pending:=pe,fn,tmps:=a.tmps,params:=ps,assign:=as,body:=bd,defers:=w.heap.size}:=⟨_,rfl⟩;obtain⟨l,hl⟩:∃l,l=w.heap.size+1:=⟨_,rfl⟩;obtain⟨W1,hW1⟩:∃W1,(w.alloc (.deferred (some []))).alloc (.loop (rec .ready none))=W1:=⟨_,rfl⟩;obtain⟨a1,ha1⟩:∃a1:Act,a1={a with defers:=[{target:= .collected w.heap.size,args:= #[]}]++a.defers}:=⟨_,rfl⟩;have hsz1:W1.heap.size=w.heap.size+2:=by rw[←hW1];simp
 have hL1:W1.heap[l]?=some (.loop (rec .ready none)):=by
  rw[←hW1,hl];have:=World.alloc_heap_new (w.alloc (.deferred (some []))) (.loop (rec .ready none));rwa [World.size_alloc] at this
 have hK1:W1.heap[w.heap.size]?=some (.deferred (some [])):=by
  rw[←hW1];exact(Below.heap_alloc _ _ _ (by simp)).trans (World.alloc_heap_new w _)
 have hB1:Blw (·<w.heap.size) w W1:=by rw[←hW1];exact Blw.of_below (((Below.refl _ w).alloc (zb0 _) _).alloc (by simp) _)
 have hInv1:Inv I0 KK (fun b=>I b∨b=w.heap.size) A σ a1 W1:=by
  have h':=h.same (w':=W1) hB1.size (fun b hb=>hB1.block b (h.iw b hb)) (fun s g x hx=>hB1.block _ (h.A_lt hx)) (fun b ⟨x,j,hb⟩=>hB1.block b (h.rw.sep x j b hb).1);refine(h'.re (I0':=I0) (KK':=KK) (I':=fun b=>I b∨b=w.heap.size) (T':=σ.T) (a':=a1) (fun _ hb=> .inl hb) (fun s g x hx hi=> ?_) (fun b hi=> ?_) (fun b hi=> ?_) (fun b hi=> .inl (h.ii b hi)) (fun s g x hx=> ?_) ?_ ?_ ?_ (fun b hb=> ?_):Inv I0 KK _ A ⟨σ.T,σ.H⟩ a1 W1)
  ·rcases hi with hi|hi
   ·exact hi
   ·have:=h.A_lt hx;omega
  ·rcases hi with hi|hi
   ·have:=h.iw b hi;omega
   ·omega
  ·rcases hi with hi|hi
   ·exact h.io b hi
   ·exact .inr fun hk=>by have:=hKw b hk;omega
  ·obtain⟨o,ho⟩:=h.ar s g x hx;obtain⟨y,hy,hyB,_⟩:=h.ob s g o ho;rw[hx] at hy;cases hy;exact hyB.imp .inl id
  ·obtain⟨rs,q1,q2,q3⟩:=h.df;refine⟨w.heap.size::rs,List.nodup_cons.2 ⟨fun hm=> ?_,q1⟩,by rw[ha1];simp[q2],fun r hr=> ?_⟩
   ·have:=h.iw _ (q3 _ hm).1;omega
   ·rcases List.mem_cons.1 hr with rfl|hr
    ·exact⟨.inr rfl,fun hk=>by have:=hKw _ hk;omega,hK1⟩
    ·obtain⟨p1,p2,p3⟩:=q3 r hr;exact⟨.inl p1,p2,(hB1.block r (h.iw r p1)).trans p3⟩
  ·rw[ha1];exact h.tl
  ·intro t d v hd hv;rw[ha1] at hv;exact(h'.tv t d v hd hv).mono (fun _ hb=> .inl hb) (fun _ _=>rfl) (fun _=>zb0 _) (fun _ _ _ _ hx=>hx)
  ·obtain⟨x,j,hb⟩:=hb.back (w:=w) fun s g y hy=>hB1.block _ (h.A_lt hy);obtain⟨q1,q2,q3,_⟩:=h.rw.sep x j b hb;exact⟨fun hi=>hi.elim q2 fun e=>by omega,q3⟩
 refine⟨l,w.heap.size,[{target:= .collected w.heap.size,args:= #[]}],W1,fun b=>I b∨b=w.heap.size,?_,by rw[hL1,hrec],by omega,by omega,hB1,by rw[←ha1];exact hInv1,fun _ hb=> .inl hb,?_,.inr ⟨_,rfl⟩⟩
 ·rw[←hW1,hrec,hl];exact run_enterLoop_outer _ _ _ _ _
 ·rintro (h1|h1)
  ·have:=h.iw l h1;omega
  ·omega
theorem vH(h:Inv I0 KK I A σ a w){ps:Array Tmp}{as bd:Code}{l0:Nat}{r0:Loop}(hl0:w.heap[l0]?=some (.loop r0))(fn:FuncId):∃l dfr mk W1 I1,oy P KK I0 I A σ a w ps as bd (some l0) fn l dfr mk W1 I1:=by
 obtain⟨rec,hrec⟩:∃rec:Loop,rec={state:= .ready,pending:=none,fn,tmps:=a.tmps,params:=ps,assign:=as,body:=bd,defers:=r0.defers}:=⟨_,rfl⟩;obtain⟨W1,hW1⟩:∃W1,w.alloc (.loop rec)=W1:=⟨_,rfl⟩;have hB1:Blw (·<w.heap.size) w W1:=by rw[←hW1];exact Blw.of_below ((Below.refl _ w).alloc (zb0 _) _)
 have hInv1:Inv I0 KK I A σ a W1:=h.same (w':=W1) hB1.size (fun b hb=>hB1.block b (h.iw b hb)) (fun s g x hx=>hB1.block _ (h.A_lt hx)) (fun b ⟨x,j,hb⟩=>hB1.block b (h.rw.sep x j b hb).1);refine⟨w.heap.size,r0.defers,[],W1,I,?_,by rw[←hW1,←hrec];exact World.alloc_heap_new w _,by rw[←hW1];simp,zb0 _,hB1,hInv1,fun _ hb=>hb,fun h1=> ?_,.inl rfl⟩
 ·rw[←hW1,hrec];exact run_enterLoop_inner hl0 _ _ _ _ _
 ·have:=h.iw _ h1;omega
theorem Ci{F:Fence}(hFro:∃ro,F={Fence.wide with round:=ro}){n:Nat}{g:FuncId}{cs:List D}{ys:List (List D)}(hs:SeqOK P gl g cs ys){fo:Operand}{ps:Array Tmp}{as bd:Code}{Q:Exit→Act→World→Prop}(h:Inv I0 KK I A σ a w)(hb:Blw KK w0 w)
  (hI0:∀b,I0 b→KK b) (hKs:∀k,KK k→k<w0.heap.size) (hgl:Gl gl I0 w0) (hent:∀fn,∃l dfr mk W1 I1,oy P KK I0 I A σ a w ps as bd F.round fn l dfr mk W1 I1) {vcaps:Array Value} (hv:a.eval fo= .func (.func g) #[] vcaps) (hcl:cs.length=vcaps.size)
  (hcr:∀(j:Nat) (d:D) (v:Value),cs[j]?=some d→vcaps[j]?=some v→RelC I w d v) (Wl:List Nat) (hps:∀t∈ps,t∈Wl) (R:Nat→St→Prop) (X:Out→St→Prop) (h0:R 0 σ)
  (hround:∀(i:Nat) (y:List D) (σ:St),ys[i]?=some y→R i σ→y.length=ps.size∧∀(l:Nat) (Ir Kr:Nat→Prop) (wr:World) (act:Act),(∀b,Ir b→Kr b)→(∀b,Kr b→b<wr.heap.size)→Kr l→(∃r,wr.heap[l]?=some (.loop r))→Gl gl Ir wr→
   Good (mg a Wl) Kr Ir wr ⟨fM σ.T ps.toList y,σ.H⟩ act wr→
   as.wpIn (Fence.wide.inRound l) (n-1-1) P (Exit.then (fun a1 w1=>∃σ1,Good (mg a Wl) Kr Ir wr σ1 a1 w1∧∀(wr2:World) (w2:World),(∀b,Kr b→b<wr2.heap.size)→(∃r,wr2.heap[l]?=some (.loop r))→Gl gl Ir wr2→Good (mg a Wl) Kr Ir wr2 σ1 a1 w2→
    bd.wpIn (Fence.wide.inRound l) (n-1-1) P (fun e a3 w3=>∃r σ3,e=AF r∧Good (mg a Wl) Kr Ir wr2 σ3 a3 w3∧(match r with| .norm=>∃σ4,Pass ⟨ic σ3.T Wl,σ3.H⟩ σ4∧R (i+1) σ4|r=>X r ⟨ic σ3.T Wl,σ3.H⟩)) a1 w2) (fun _ _ _=>False)) act wr)
  (hdone:∀σ' a' w',R ys.length σ'→Good (fun x=>x.tmps=a.tmps∧(x.defers=a.defers∨∃d,x.defers=d::a.defers)) KK I0 w0 σ' a' w'→Q .normal a' w')
  (hstop:∀r σ' a' w',r≠ .norm→X r σ'→Good (fun x=>x.tmps=a.tmps∧(x.defers=a.defers∨∃d,x.defers=d::a.defers)) KK I0 w0 σ' a' w'→Q (AF r) a' w'):
  (Code.rangeFunc fo ps as bd).wpIn F n P Q a w:=by
 refine wpIn_rangeFunc ?_;intro fn hfn;obtain⟨l,dfr,mk,W1,I1,hrun,hL1,hsz1,hlw0,hB1,hInv1,hII1,hI1l,hmk⟩:=hent fn;obtain⟨rec,hrec⟩:∃rec:LoopState→Option Code→Loop,rec=fun st pe=>{state:=st,pending:=pe,fn,tmps:=a.tmps,params:=ps,assign:=as,body:=bd,defers:=dfr}:=⟨_,rfl⟩;have hL1:W1.heap[l]?=some (.loop (rec .ready none)):=by rw[hrec];exact hL1
 obtain⟨a1,ha1⟩:∃a1:Act,a1={a with defers:=mk++a.defers}:=⟨_,rfl⟩;rw[←ha1] at hInv1;have hKw:∀k,KK k→k<w.heap.size:=fun k hk=>zb2 (hKs k hk) hb.size;have hlK:¬KK l:=fun hk=>by have:=hKw l hk;omega
 have hfx1:a1.defers=a.defers∨∃d,a1.defers=d::a.defers:=by
  rw[ha1];rcases hmk with rfl|⟨d,rfl⟩
  ·exact .inl rfl
  ·exact .inr ⟨d,rfl⟩
 obtain⟨ro,rfl⟩:=hFro;refine⟨l,mk,W1,{target:= .fn (.func g) vcaps,args:= #[.func (.yield l) #[] #[]]},W1,g,#[.func (.yield l) #[] #[]]++vcaps,W1,hrun,?_,?_,?_,(fun h=>by cases h),?_⟩
 ·simp only[resolve,hv];simp[go_sem]
 ·intro f' hf';simp[Target.leads] at hf';subst hf';exact hfn
 ·simp[invoke,go_sem,hs.1]
 obtain⟨J,hJ⟩:∃J:Nat→(Nat→Prop)→(Nat→Prop)→World→Prop,J=fun i O Fz W=>∃σi A' Ic,R i σi∧Inv I0 KK Ic A' σi a1 W∧Blw KK w0 W∧W.heap[l]?=some (.loop (rec .ready none))∧(∀b,Mine KK Ic A' σi.H W l b→O b)∧(∀b,Fz b→Ic b)∧¬Ic l:=⟨_,rfl⟩;obtain⟨Jx,hJx⟩:∃Jx:(Nat→Prop)→(Nat→Prop)→World→Prop,Jx=fun O _ W=>∃r σi A' Ic,r≠Out.norm∧X r σi∧Inv I0 KK Ic A' σi a1 W∧Blw KK w0 W∧W.heap[l]?=some (.loop (rec .done (xK r)))∧(∀b,Mine KK Ic A' σi.H W l b→O b)∧¬Ic l:=⟨_,rfl⟩;have hin:∀b,Mine KK I1 A σ.H W1 l b→b<W1.heap.size:=fun b hm=>by
  rcases hm with hm|hm|hm|⟨s,g',x,hx,rfl⟩|⟨x,j,hx⟩
  ·have:=hKw b hm;omega
  ·exact hInv1.iw b hm
  ·omega
  ·exact hInv1.A_lt hx
  ·exact(hInv1.rw.sep x j b hx).1
 refine(hs.2 (n-1) l I1 W1 vcaps (Mine KK I1 A σ.H W1 l) I1 J Jx (fun _ hb=>hb) (fun b hb=> .inr (.inl hb)) hin ?_ hcl ?_ ?_ ?_ ?_ ?_).mono ?_
 ·exact fun g' d hg'=>(hgl g' d hg').mono (fun b hb'=>hII1 b (h.ii b hb')) (fun b hb'=>(hB1.block b (h.iw b (h.ii b hb'))).trans (hb.block b (hI0 b hb')))
 ·exact fun j d v hd hv'=>(hcr j d v hd hv').mono hII1 (fun b hb'=>hB1.block b (h.iw b hb'))
 ·intro i O Fz W W' hj hB;rw[hJ] at hj ⊢;obtain⟨σi,A',Ic,hR,hi,hbw,hlw,hO,hFz,hnl⟩:=hj;exact⟨σi,A',Ic,hR,hi.same hB.size (fun b hb'=>hB.block b (hO b (.inr (.inl hb')))) (fun s g' x hx=>hB.block _ (hO _ (.inr (.inr (.inr (.inl ⟨s,g',x,hx,rfl⟩)))))) (fun b hb'=>hB.block b (hO b (.inr (.inr (.inr (.inr hb')))))),hbw.trans (hB.mono fun k hk=>hO k (.inl hk)),
   (hB.block l (hO l (.inr (.inr (.inl rfl))))).trans hlw,fun b hm=>hO b (hm.back fun s g' x hx=>hB.block _ (hO _ (.inr (.inr (.inr (.inl ⟨s,g',x,hx,rfl⟩)))))),hFz,hnl⟩
 ·intro O Fz W W' hj hB;rw[hJx] at hj ⊢;obtain⟨r,σi,A',Ic,hr,hX,hi,hbw,hlw,hO,hnl⟩:=hj;exact⟨r,σi,A',Ic,hr,hX,hi.same hB.size (fun b hb'=>hB.block b (hO b (.inr (.inl hb')))) (fun s g' x hx=>hB.block _ (hO _ (.inr (.inr (.inr (.inl ⟨s,g',x,hx,rfl⟩)))))) (fun b hb'=>hB.block b (hO b (.inr (.inr (.inr (.inr hb')))))),hbw.trans (hB.mono fun k hk=>hO k (.inl hk)),
   (hB.block l (hO l (.inr (.inr (.inl rfl))))).trans hlw,fun b hm=>hO b (hm.back fun s g' x hx=>hB.block _ (hO _ (.inr (.inr (.inr (.inl ⟨s,g',x,hx,rfl⟩)))))),hnl⟩
 ·
  intro i y O Fz It W args hy hj hOs hIt hItO hyl hargs;rw[hJ] at hj;obtain⟨σi,A',Ic,hR,hi,hbw,hlw,hO,hFz,hnl⟩:=hj;obtain⟨hyp,hwp⟩:=hround i y σi hy hR;have hOl:O l:=hO l (.inr (.inr (.inl rfl)));have hItl:¬It l:=fun hit=>by
   rcases hItO l hit with h1|h1
   ·exact hnl (hFz l h1)
   ·exact h1 hOl
  obtain⟨Ir,hIr⟩:∃Ir:Nat→Prop,Ir=fun b=>Ic b∨It b:=⟨_,rfl⟩;obtain⟨Kr,hKr⟩:∃Kr:Nat→Prop,Kr=fun b=>(b<W.heap.size∧(¬O b∨Fz b∨It b))∨KK b∨Ic b∨It b∨b=l:=⟨_,rfl⟩;have hIrl:¬Ir l:=by rw[hIr];rintro (h1|h1);exact hnl h1;exact hItl h1
  have hKrl:Kr l:=by rw[hKr];exact .inr (.inr (.inr (.inr rfl)))
  have hIK:∀b,Ir b→Kr b:=fun b hb'=>by
   rw[hIr] at hb';rw[hKr];exact hb'.elim (fun h1=> .inr (.inr (.inl h1))) (fun h1=> .inr (.inr (.inr (.inl h1))))
  have hlW:l<W.heap.size:=(zc0.1 hlw).1;have hKW:∀b,Kr b→b<W.heap.size:=fun b hb'=>by
   rw[hKr] at hb';rcases hb' with h1|h1|h1|h1|h1
   ·exact h1.1
   ·exact zb2 (hKs b h1) hbw.size
   ·exact hi.iw b h1
   ·exact hIt b h1
   ·omega
  have hown:∀s g' x,A' s g'=some x→Ir x.b→Ic x.b:=fun s g' x hx h1=>by
   rw[hIr] at h1;rcases h1 with h1|h1
   ·exact h1
   ·rcases hItO _ h1 with h2|h2
    ·exact hFz _ h2
    ·exact absurd (hO _ (.inr (.inr (.inr (.inl ⟨s,g',x,hx,rfl⟩))))) h2
  have htm:σi.T.length=a.tmps.size:=by have:=hi.tl;rw[ha1] at this;exact this
  obtain⟨p1,p2,p3⟩:=pJ (Rl:=RelV Ir A' (bl σi.H) W) ps.toList y args.toList σi.T a.tmps (by simpa using hyl) (fun j d v hd hv'=> .clo ((hargs j d v hd (by simpa using hv')).mono (fun b hb'=>by rw[hIr];exact .inr hb') (fun _ _=>rfl)))
   (fun t d v hd hv'=>(hi.tv t d v hd (by rw[ha1];exact hv')).mono (fun b hb'=>by rw[hIr];exact .inl hb') (fun _ _=>rfl) (fun _=>zb0 _) (fun _ _ _ _ hx=>hx)) htm
  have hyr:=run_yield (P:=P) (args:=args) hlw (by rw[hrec];simp;omega);rw[hrec] at hyr;refine⟨fn,_,as,bd,hyr,roundIn_of_wpIn hfn ?_⟩;obtain⟨F,hF⟩:∃F:Array Value,F=(ps.zip args).foldl (fun t (p,v)=>t.setIfInBounds p v) a.tmps:=⟨_,rfl⟩;have hfold:F=((ps.toList.zip args.toList).foldl (fun(t:Array Value) (p:Nat×Value)=>t.setIfInBounds p.1 p.2) a.tmps):=by
   rw[hF,←Array.foldl_toList];simp[Array.toList_zip]
  have hgl1:∀(W2:World),(∀b,KK b→W2.heap[b]?=W.heap[b]?)→Gl gl Ir W2:=fun W2 hs2 g' d hg'=>
   (hgl g' d hg').mono (fun b hb'=>by rw[hIr];exact .inl (hi.ii b hb')) (fun b hb'=>(hs2 b (hI0 b hb')).trans (hbw.block b (hI0 b hb')))
  have hgood:Good (mg a Wl) Kr Ir W ⟨fM σi.T ps.toList y,σi.H⟩ {tmps:=F,defers:=[]} W:=by
   refine⟨Ir,A',hi.re (fun b hb'=>by rw[hIr];exact .inl hb') hown (fun b hb'=>zb2 (hKW b (hIK b hb')) (zb0 _)) (fun b hb'=> .inl hb') (fun _ hb'=>hb') (fun s g' x hx=> ?_) Marks.nil ?_ ?_ ?_,Blw.refl _ _,?_,fun t ht=> ?_⟩
   ·by_cases hic:Ic x.b
    ·exact .inl (by rw[hIr];exact .inl hic)
    ·refine .inr fun hk=> ?_;have hOx:O x.b:=hO _ (.inr (.inr (.inr (.inl ⟨s,g',x,hx,rfl⟩))));have hItx:¬It x.b:=fun hit=>hic (hown s g' x hx (by rw[hIr];exact .inr hit));rw[hKr] at hk;rcases hk with⟨_,h1|h1|h1⟩|h1|h1|h1|h1
     ·exact h1 hOx
     ·exact hic (hFz _ h1)
     ·exact hItx h1
     ·obtain⟨o,ho⟩:=hi.ar s g' x hx;obtain⟨x',hx',hB',_⟩:=hi.ob s g' o ho;rw[hx] at hx';cases hx';exact hB'.elim hic (fun h2=>h2 h1)
     ·exact hic h1
     ·exact hItx h1
     ·exact iV hi hx hlw h1
   ·rw[pI];show _=F.size;rw[hfold,p1];exact htm
   ·intro t d v hd hv';exact p3 t d v hd (by rw[←hfold];exact hv')
   ·rintro b ⟨x,j,hb'⟩
    obtain⟨q1,q2,q3,q4⟩:=hi.rw.sep x j b hb';have hOb:O b:=hO _ (.inr (.inr (.inr (.inr ⟨x,j,hb'⟩))));have hItb:¬It b:=fun hit=>(hItO b hit).elim (fun h1=>q2 (hFz b h1)) fun h1=>h1 hOb;refine⟨fun hir=> ?_,fun hk=> ?_⟩
    ·rw[hIr] at hir;exact hir.elim q2 hItb
    ·rw[hKr] at hk;rcases hk with⟨_,h1|h1|h1⟩|h1|h1|h1|h1
     ·exact h1 hOb
     ·exact q2 (hFz _ h1)
     ·exact hItb h1
     ·exact q3 h1
     ·exact q2 h1
     ·exact hItb h1
     ·exact jR hi ⟨x,j,hb'⟩ hlw h1
   ·show F.size=_;rw[hfold,p1]
   ·show F[t]?=_;rw[hfold];exact p2 t fun hm=>ht (hps t (by simpa using hm))
  rw[hF] at hgood;have hasg:=hwp l Ir Kr W _ hIK hKW hKrl ⟨_,hlw⟩ (hgl1 W fun _ _=>rfl) hgood;refine wpIn_mono hasg fun e a2 w2 hp=> ?_;cases e with
  |normal=>
   obtain⟨σ1,hg1,hbd⟩:=hp;obtain⟨I2,A2,hi2,hb2,hs2⟩:=id hg1;have hl2:w2.heap[l]?=some (.loop (rec .ready none)):=(hb2.block l hKrl).trans hlw;obtain⟨w3,hw3⟩:∃w3,w3=w2.putObj l (.loop {rec .ready none with state:= .busy}):=⟨_,rfl⟩;have hne3:∀b,b≠l→w3.heap[b]?=w2.heap[b]?:=fun b hb'=>by rw[hw3];exact World.putObj_heap_other hb'
   have hsz3:w3.heap.size=w2.heap.size:=by rw[hw3];simp[World.putObj]
   have hl3:w3.heap[l]?=some (.loop {rec .ready none with state:= .busy}):=by rw[hw3];exact World.putObj_heap_same (zc0.1 hl2).1
   have hI2l:¬I2 l:=fun h1=>(hi2.io l h1).elim hIrl (fun h2=>h2 hKrl);have hgood3:Good (mg a Wl) Kr Ir w3 σ1 a2 w3:=⟨I2,A2,hi2.same (by omega) (fun b hb'=>hne3 b fun e=>hI2l (e▸hb')) (fun s g' x hx=>hne3 _ (iV hi2 hx hl2)) (fun b hb'=>hne3 _ (jR hi2 hb' hl2)),Blw.refl _ _,hs2⟩;refine⟨w3,by rw[hw3];exact run_beginRound hl2 (by rw[hrec]),?_⟩;have hbd':=hbd w3 w3 (fun b hb'=>by rw[hsz3];exact zb2 (hKW b hb') hb2.size) ⟨_,hl3⟩ (hgl1 w3 fun b hb'=>(hne3 b fun e=>hlK (e▸hb')).trans (hb2.block b (by rw[hKr];exact .inr (.inl hb')))) hgood3;refine wpIn_mono hbd' fun e3 a4 w4 hp4=> ?_;obtain⟨r,σ3,rfl,hg4,hm⟩:=hp4;obtain⟨I4,A4,hi4,hb4,hs4⟩:=hg4;have hl4:w4.heap[l]?=some (.loop {rec .ready none with state:= .busy}):=(hb4.block l hKrl).trans hl3;have hI4l:¬I4 l:=fun h1=>(hi4.io l h1).elim hIrl (fun h2=>h2 hKrl);have hIr4:∀b,Ir b→I4 b:=hi4.ii;have fin:∀(jump:Option Code) (w5:World),w5=w4.putObj l (.loop (rec (if jump.isNone then .ready else .done) jump))→(Instr.endRound l jump).run P w4= .ok (.bool jump.isNone) w5∧w5.heap[l]?=some (.loop (rec (if jump.isNone then .ready else .done) jump))∧
     Inv I0 KK I4 A4 ⟨ic σ3.T Wl,σ3.H⟩ a1 w5∧Blw KK w0 w5∧(∀b,Mine KK I4 A4 σ3.H w5 l b→O b∨W.heap.size≤b∨It b)∧(∀b,Mine KK I4 A4 σ3.H w5 l b→b<w5.heap.size)∧(∀b,Fz b∨It b→I4 b)∧Blw (fun b=>b<W.heap.size∧(¬O b∨Fz b∨It b)) W w5:=fun jump w5 hw5=>by
    have hne5:∀b,b≠l→w5.heap[b]?=w4.heap[b]?:=fun b hb'=>by rw[hw5];exact World.putObj_heap_other hb'
    have hsz5:w5.heap.size=w4.heap.size:=by rw[hw5];simp[World.putObj]
    have hall:∀b,Kr b→b≠l→w5.heap[b]?=W.heap[b]?:=fun b hk hne=>(hne5 b hne).trans ((hb4.block b hk).trans ((hne3 b hne).trans (hb2.block b hk)));have hKKr:∀b,KK b→Kr b:=fun b hk=>by rw[hKr];exact .inr (.inl hk)
    have hnKr:∀b,¬Kr b→b<W.heap.size→O b:=fun b hk hlt=>Classical.byContradiction fun ho=>hk (by rw[hKr];exact .inl ⟨hlt,.inl ho⟩);have hWsz:W.heap.size≤w5.heap.size:=by have:=hb2.size;have:=hb4.size;omega
    have hIO:∀b,I4 b→O b∨W.heap.size≤b∨It b:=fun b hb'=>by
     rcases hi4.io b hb' with h1|h1
     ·rw[hIr] at h1;rcases h1 with h1|h1
      ·exact .inl (hO b (.inr (.inl h1)))
      ·exact .inr (.inr h1)
     ·by_cases hlt:b<W.heap.size
      ·exact .inl (hnKr b h1 hlt)
      ·exact .inr (.inl (by omega))
    refine⟨?_,by rw[hw5];exact World.putObj_heap_same (zc0.1 hl4).1,?_,?_,fun b hm'=> ?_,fun b hm'=> ?_,fun b hb'=> ?_,?_⟩
    ·have:=run_endRound (P:=P) jump hl4;rw[hw5];rw[hrec] at this ⊢;exact this
    ·have h5:=hi4.same (w':=w5) (by omega) (fun b hb'=>hne5 b fun e=>hI4l (e▸hb')) (fun s g' x hx=>hne5 _ (iV hi4 hx hl4)) (fun b hb'=>hne5 _ (jR hi4 hb' hl4));refine h5.re (fun _ hb'=>hb') (fun _ _ _ _ hb'=>hb') (fun b hb'=>h5.iw b hb') (fun b hb'=> ?_) (fun b hb'=>hIr4 b (by rw[hIr];exact .inl (hi.ii b hb'))) (fun s g' x hx=> ?_) ?_ ?_ ?_ (fun b ⟨x,j,hb'⟩=>⟨(h5.rw.sep x j b hb').2.1,fun hk=>(h5.rw.sep x j b hb').2.2.1 (hKKr b hk)⟩)
     ·rcases hi4.io b hb' with h1|h1
      ·rw[hIr] at h1;rcases h1 with h1|h1
       ·exact hi.io b h1
       ·rcases hItO b h1 with h2|h2
        ·exact hi.io b (hFz b h2)
        ·exact .inr fun hk=>h2 (hO b (.inl hk))
      ·exact .inr fun hk=>h1 (hKKr b hk)
     ·obtain⟨o,ho⟩:=hi4.ar s g' x hx;obtain⟨x',hx',hB',_⟩:=hi4.ob s g' o ho;rw[hx] at hx';cases hx';exact hB'.imp id fun h1 hk=>h1 (hKKr _ hk)
     ·refine hi.df.mono (fun b hb'=>hIr4 b (by rw[hIr];exact .inl hb')) fun b hb'=>hall b (hIK b (by rw[hIr];exact .inl hb')) fun e=>hnl (e▸hb')
     ·rw[sb,hi4.tl,hs4.1,ha1]
     ·intro t d v hd hv';rcases sn Wl σ3.T t d hd with rfl|⟨ht,hd'⟩
      ·exact .clo (.junk v)
      ·refine h5.tv t d v hd' ?_;rw[hs4.2 t ht];rw[ha1] at hv';exact hv'
    ·refine hbw.trans ⟨?_,?_,?_,hWsz,fun b hk=>hall b (hKKr b hk) fun e=>hlK (e▸hk)⟩
     ·rw[hw5];show w4.os=_;rw[hb4.os,hw3];exact hb2.os
     ·rw[hw5];show w4.tape=_;rw[hb4.tape,hw3];exact hb2.tape
     ·rw[hw5];show w4.output=_;rw[hb4.output];have h2:=hb2.output;rw[hw3];exact h2
    ·rcases hm' with h1|h1|h1|⟨s,g',x,hx,rfl⟩|hr
     ·exact .inl (hO b (.inl h1))
     ·exact hIO b h1
     ·exact .inl (h1▸hOl)
     ·obtain⟨o,ho⟩:=hi4.ar s g' x hx;obtain⟨x',hx',hB',_⟩:=hi4.ob s g' o ho;rw[hx] at hx';cases hx';rcases hB' with h1|h1
      ·exact hIO _ h1
      ·by_cases hlt:x.b<W.heap.size
       ·exact .inl (hnKr _ h1 hlt)
       ·exact .inr (.inl (by omega))
     ·obtain⟨x,j,hr⟩:=hr.back (w:=w4) fun s g' x hx=>hne5 _ (iV hi4 hx hl4);have h1:=(hi4.rw.sep x j b hr).2.2.1;by_cases hlt:b<W.heap.size
      ·exact .inl (hnKr _ h1 hlt)
      ·exact .inr (.inl (by omega))
    ·rcases hm' with h1|h1|h1|⟨s,g',x,hx,rfl⟩|hr
     ·have:=hKs b h1;have:=hbw.size;omega
     ·have:=hi4.iw b h1;omega
     ·subst h1;omega
     ·have:=hi4.A_lt hx;omega
     ·obtain⟨x,j,hr⟩:=hr.back (w:=w4) fun s g' x hx=>hne5 _ (iV hi4 hx hl4);have:=(hi4.rw.sep x j b hr).1;omega
    ·refine hIr4 b ?_;rw[hIr];exact hb'.imp (hFz b) id
    ·refine⟨?_,?_,?_,hWsz,fun b hk=>hall b (by rw[hKr];exact .inl hk) fun e=> ?_⟩
     ·rw[hw5];show w4.os=_;rw[hb4.os,hw3];exact hb2.os
     ·rw[hw5];show w4.tape=_;rw[hb4.tape,hw3];exact hb2.tape
     ·rw[hw5];show w4.output=_;rw[hb4.output];have h2:=hb2.output;rw[hw3];exact h2
     ·subst e;rcases hk.2 with h1|h1|h1
      ·exact h1 hOl
      ·exact hnl (hFz _ h1)
      ·exact hItl h1
   obtain⟨f1,f2,f3,f4,f5,f6,f7,f8⟩:=fin (xK r) _ rfl;cases r with
   |norm=>
    refine⟨_,_,f1,Mine KK I4 A4 σ3.H _ l,I4,f5,f6,f7,fun b hb'=> .inr (.inl hb'),f8,.inl ⟨rfl,?_⟩⟩;rw[hJ];obtain⟨σ4,hp,hm⟩:=hm;obtain⟨I5,A5,f3',hsub,hgr,hnw,hrw⟩:=hp _ _ _ _ _ _ f3;refine⟨σ4,A5,I5,hm,f3',f4,f2,fun b hb'=> ?_,hgr,fun hl5=>(hnw l hl5).elim hI4l fun hr=>hr.elim (fun hr=>jR f3 hr f2 rfl) fun⟨_,_,_,hx,e⟩=>iV f3 hx f2 e⟩;rcases hb' with h1|h1|h1|⟨s,g',x,hx,rfl⟩|hr
    ·exact .inl h1
    ·exact(hnw b h1).elim (fun h1=> .inr (.inl h1)) fun hr=>hr.elim (fun hr=> .inr (.inr (.inr (.inr hr)))) fun hr=> .inr (.inr (.inr (.inl hr)))
    ·exact .inr (.inr (.inl h1))
    ·obtain⟨s1,g1,hx1⟩:=hsub s g' x hx;exact .inr (.inr (.inr (.inl ⟨s1,g1,x,hx1,rfl⟩)))
    ·exact .inr (.inr (.inr (.inr (hrw _ hr))))
   |exit id=>
    refine⟨_,_,f1,Mine KK I4 A4 σ3.H _ l,I4,f5,f6,f7,fun b hb'=> .inr (.inl hb'),f8,.inr ⟨rfl,?_⟩⟩;rw[hJx];exact⟨.exit id,_,A4,I4,by simp,hm,f3,f4,f2,fun _ hb'=>hb',hI4l⟩
   |ret=>
    refine⟨_,_,f1,Mine KK I4 A4 σ3.H _ l,I4,f5,f6,f7,fun b hb'=> .inr (.inl hb'),f8,.inr ⟨rfl,?_⟩⟩;rw[hJx];exact⟨.ret,_,A4,I4,by simp,hm,f3,f4,f2,fun _ hb'=>hb',hI4l⟩
  |exit id=>exact hp
  |ret=>exact hp
  |goto t=>exact hp
  |panic c=>exact hp
  |outgrown=>exact hp
 ·rw[hJ];exact⟨σ,A,_,h0,hInv1,hb.trans (Blw.of hB1 hKw),hL1,fun _ hb=>hb,fun _ hb=>hb,hI1l⟩
 ·rintro e W2 ⟨⟨v,rfl⟩,hj⟩
  have fin:∀(σ':St) (A':Nat→Nat→Option Gh) (Ic:Nat→Prop) (st:LoopState) (pe:Option Code),st≠ .busy→Inv I0 KK Ic A' σ' a1 W2→Blw KK w0 W2→W2.heap[l]?=some (.loop (rec st pe))→¬Ic l→
    ∃W3,(Instr.endLoop l).run P W2= .ok pe W3∧Good (fun x=>x.tmps=a.tmps∧(x.defers=a.defers∨∃d,x.defers=d::a.defers)) KK I0 w0 σ' a1 W3:=fun σ' A' Ic st pe hst hi hbw hlw hnl=>by
   have h1:=run_endLoop (P:=P) hlw (by rw[hrec];exact hst);have hne:∀b,b≠l→(W2.putObj l (.loop {rec st pe with state:= .exhausted})).heap[b]?=W2.heap[b]?:=fun b hb'=>World.putObj_heap_other hb';refine⟨_,?_,Ic,A',hi.same (w':=W2.putObj l (.loop {rec st pe with state:= .exhausted})) (by simp[World.putObj]) (fun b hb'=>hne b fun e=>hnl (e▸hb')) (fun s g' x hx=>hne _ (iV hi hx hlw)) (fun b hb'=>hne b (jR hi hb' hlw)),hbw.trans ⟨rfl,rfl,rfl,by simp[World.putObj],fun b hk=>hne b fun e=>hlK (e▸hk)⟩,by rw[ha1],hfx1⟩;rw[hrec] at h1 ⊢;exact h1
  rcases hj with⟨O',Fz',hj⟩|⟨O',Fz',hj⟩
  ·rw[hJ] at hj;obtain⟨σi,A',Ic,hR,hi,hbw,hlw,_,_,hnl⟩:=hj;obtain⟨W3,h1,h2⟩:=fin σi A' Ic .ready none (by simp) hi hbw hlw hnl;refine⟨none,W3,h1,?_⟩;have:=hdone σi a1 W3 hR h2;rw[ha1] at this;exact this
  ·rw[hJx] at hj;obtain⟨r,σi,A',Ic,hr,hX,hi,hbw,hlw,_,hnl⟩:=hj;obtain⟨W3,h1,h2⟩:=fin σi A' Ic .done (xK r) (by simp) hi hbw hlw hnl;have h3:=hstop r σi a1 W3 hr hX h2;rw[ha1] at h3;cases r with
   |norm=>exact absurd rfl hr
   |exit id=>exact⟨some (.exit id),W3,h1,wpIn_exit h3⟩
   |ret=>exact⟨some .ret,W3,h1,wpIn_ret h3⟩
end
end Go.Pd
end
section
namespace Go.Pd
def KT:Nat→List Knd→List Knd
 |0,_=>[]
 |n+1,z=>z++KT n z
def GZ(f:TypeId→Option (List Knd)):List Field→Option (List Knd)
 |[]=>some []
 |x::xs=>match f x.type with
  |none=>none
  |some ks=>match GZ f xs with
   |none=>none
   |some r=>some (ks++r)
def vI(P:Program):Nat→TypeId→Option (List Knd)
 |0,_=>none
 |n+1,t=>match P.underlying t with
  |some (.int k)=>some [.int k]
  |some .bool=>some [.bool]
  |some .string=>some [.str]
  |some (.slice e)=>(match P.underlying e with
   |some (.int .u64)=>some [.nil]
   |_=>some [.slc])
  |some (.map _ _)=>some [.map]
  |some (.struct fs)=>GZ (vI P n) fs.toList
  |some (.array m e)=>match vI P n e with
   |some ks=>some (KT m ks)
   |none=>none
  |some (.interface _)=>some [.ifc]
  |some _=>some [.any]
  |none=>none
def Cj:List Knd→List Knd
 |[]=>[]
 | .nil::ks=> .osl::Cj ks
 |k::ks=>k::Cj ks
def HV(b:Bool)(P:Program)(t:TypeId):Option (List Knd):=match b with
 |false=>vI P 10 t
 |true=>match vI P 10 t with
  |some ks=>some (Cj ks)
  |none=>none
def HW:Knd→Knd
 | .osl=> .slc
 |k=>k
def HX:D→Option D
 | .nils=>some .nils
 |_=>none
def EQ:D→Option D
 | .nilif=>some .nilif
 |_=>none
def jS(k:Knd)(d:D)(c:D→Tree):Tree:=match k with
 | .int k=> .int k d fun n=>c (.int k n)
 | .bool=> .bool d fun b=>c (.bool b)
 | .str=> .str d fun s=>c (.str s)
 | .slc=> .slc d fun f n cs=>c (.slc f n cs)
 | .map=> .map d fun ks vs=>c (.msnap ks vs)
 | .any=>c d
 | .nil=> .opt (HX d) fun _=>c .nils
 | .osl=> .osl d fun b n cs=>c (.osl b n cs)
 | .ifc=> .opt (EQ d) fun _=>c .nilif
def vJ(cs:List D)(base:Nat):Nat→List Knd→(List D→Tree)→Tree
 |_,[],c=>c []
 |j,k::ks,c=> .cell cs (base+j) fun d=>jS k d fun d'=>vJ cs base (j+1) ks fun ds=>c (d'::ds)
def so(b:Bool)(P:Program)(t:TypeId)(d:D)(c:D→Tree):Tree:=match HV b P t,c5 P t with
 |some ks,some true=> .agg d ks.length fun cs=>vJ cs 0 0 ks fun ds=>c (.agg ds)
 |some [k],some false=>jS (HW k) d c
 |_,_=> .fail
def pK(b:Bool)(P:Program):List TypeId→List D→Nat→(List D→Tree)→Tree
 |[],_,_,c=>c []
 |t::ts,cs,j,c=> .cell cs j fun d=>so b P t d fun d'=>pK b P ts cs (j+1) fun ds=>c (d'::ds)
def sr(b:Bool)(P:Program)(ts:List TypeId)(d:D)(c:D→Tree):Tree:=match ts with
 |[t]=>so b P t d c
 |ts=> .tup d ts.length fun cs=>pK b P ts cs 0 fun ds=>c (.tup ds)
def xL(k:Knd)(d:D)(c:D→Tree):Tree:=match k with
 | .slc=> .nil d (c .nils) fun f n cs=>c (.slc f n cs)
 |k=>jS k d c
def tE(b:Bool)(P:Program)(t:TypeId)(d:D)(c:D→Tree):Tree:=match HV b P t,c5 P t with
 |some [k],some false=>xL (HW k) d c
 |_,_=>so b P t d c
def oz(b:Bool)(P:Program):List TypeId→List D→Nat→(List D→Tree)→Tree
 |[],_,_,c=>c []
 |t::ts,cs,j,c=> .cell cs j fun d=>tE b P t d fun d'=>oz b P ts cs (j+1) fun ds=>c (d'::ds)
def xM(b:Bool)(P:Program)(ts:List TypeId)(d:D)(c:D→Tree):Tree:=match ts with
 |[t]=>tE b P t d c
 |ts=> .tup d ts.length fun cs=>oz b P ts cs 0 fun ds=>c (.tup ds)
def rf(o:Option D)(c:D→Tree):Tree:=match o with
 |some d=>c d
 |none=> .fail
def kM(o:Option (D×St))(c:D→St→Tree):Tree:=match o with
 |some p=>c p.1 p.2
 |none=> .fail
def HY(o:Bool)(σ:St)(dst:Option Tmp)(t:Bool)(g:List D→Option D)(args:List D)(c:D→St→Tree):Tree:=match args with
 | .own s g0 len::rest=>(match bi σ.H s g0 with
  |some (.arr e n cs false)=>(match cA (bJ σ.H depth) rest with
   |some (rest',ss)=>if ss.contains s then .fail else .chk (cs.all (Bz o)) (.opt (g (.slc false len cs::rest')) fun r=> .slc r fun _ m cs'=>match t with
    |false=> .chk (decide (cs'.length=cs.length)) (.chk (cs'.all (Bz o)) (c (.tup []) (σ.setOb s (some (.arr e n cs' false)))))
    |true=> .chk (decide (cs'.length=m*n)) (.chk (decide (m≤len)) (.chk (cs'.all (Bz o)) (kM (ce (σ.setOb s none) dst (.arr e n cs' false) (fun s g=> .own s g m)) c))))
   |none=> .fail)
  |_=> .fail)
 |_=> .fail
def HZ(σ:St)(p:Nat)(g:List D→Option D)(args:List D)(cast:D→(D→Tree)→Tree)(c:D→St→Tree):Tree:=match args[p]? with
 |some (.own s g0 len)=>(match bi σ.H s g0 with
  |some (.arr e n cs false)=>(match cA (bJ σ.H depth) (args.set p .nils) with
   |some (ds,ss)=>if ss.contains s then .fail else .chk (cs.all D.plain) (.opt (g (ds.set p (.slc false len cs))) fun r=> .tup r 2 fun l=> .cell l 0 fun a=> .slc a fun _ _ cs'=> .cell l 1 fun x=>cast x fun x=> .chk (decide (cs'.length=cs.length)) (.chk (cs'.all D.plain) (c x ((σ.freeze ss).setOb s (some (.arr e n cs' false))))))
   |none=> .fail)
  |_=> .fail)
 |_=> .fail
def H0(σ:St)(p:Nat)(g:List D→Option D)(args:List D)(cast:D→(D→Tree)→Tree)(c:D→St→Tree):Tree:=match args[p]? with
 |some x=>(match gx x with
  |some y=>(match bi σ.H y.1 y.2.1 with
   |some (.arr e n cs false)=>(match cA (bJ σ.H depth) (args.set p .nils) with
    |some (ds,ss)=>if ss.contains y.1|| !(0<n&&xb x n) then .fail else .chk (cs.all D.plain) (.chk (decide (0<y.2.2.2∧y.2.2.1+y.2.2.2*n≤cs.length)) (.opt (g (ds.set p (.slc false y.2.2.2 ((cs.drop y.2.2.1).take (y.2.2.2*n))))) fun r=> .tup r 2 fun l=> .cell l 0 fun a=> .slc a fun _ _ cs'=> .cell l 1 fun x=>cast x fun x=> .chk (decide (cs'.length=y.2.2.2*n)) (.chk (cs'.all D.plain) (c x ((σ.freeze ss).setOb y.1 (some (.arr e n (co cs y.2.2.1 cs') false)))))))
    |none=> .fail)
   |_=> .fail)
  |none=> .fail)
 |none=> .fail
def KU(H:List (Nat×Option Ob)):D→Bool
 | .loc s g _=>match bi H s g with
  |some (.box _ _)=>true
  |_=>false
 |_=>false
def Ck(E:Env)(σ:St)(t:TypeId)(a:D)(c:D→Tree):Tree:=match fq σ.H a with
 |none=> .fail
 |some (cs,off)=>match KU σ.H a with
  |true=>rf (dT E σ t a) c
  |false=>match HV E.osl E.P t,c5 E.P t,sz E.P t with
   |some (k::ks),some true,some n=>if n=ks.length+1 then vJ cs off 0 (k::ks) fun ds=>c (.agg ds) else .fail
   |some [k],some false,_=> .cell cs off fun d=>jS (HW k) d c
   |_,_,_=> .fail
def mh:D:= .tup []
def xN(E:Env)(σ:St)(t:TypeId)(a x:D)(c:D→St→Tree):Tree:=match a with
 | .loc s g off=>match bi σ.H s g with
  |some (.arr e m cs false)=>match sz E.P t with
   |none=> .fail
   |some n=>if x.cells.length=n then(if x.cells.all D.one then
     match cA (bJ σ.H depth) x.cells with
     |some (ds,ss)=>if ss.contains s then .fail else .chk (decide (off+n≤cs.length)) (c mh ((σ.freeze ss).setOb s (some (.arr e m (co cs off ds) false))))
     |none=> .fail
    else .fail) else .fail
  |_=>kM (unit (dN E σ t a x)) c
 |_=> .fail
def Cl(E:Env)(σ:St)(dst:Option Tmp)(t:TypeId)(a:D)(c:D→St→Tree):Tree:=match c5 E.P t,a,dst with
 |some false,.loc s g off,some dd=>(match bi σ.H s g with
  |some (.nst e er nr cs)=> .cell cs off fun d=> .nil d (c .nils σ) fun f len rs=> .chk (!f) (if dd<σ.H.length then c (.own dd (bl (σ.setOb s (some (.nst e er nr (cs.set off .junk)))).H dd) len) ((σ.setOb s (some (.nst e er nr (cs.set off .junk)))).newOb dd (.arr er nr rs false)) else .fail)
  |_=> .fail)
 |_,_,_=> .fail
def Cm(E:Env)(σ:St)(t:TypeId)(a x:D)(c:D→St→Tree):Tree:=match a,x with
 | .loc s g off,.own s2 g2 len=>(match sz E.P t,bi σ.H s g,bi σ.H s2 g2 with
  |some 1,some (.nst e er nr cs),some (.arr er' nr' rs false)=>if er'=er∧nr'=nr then .chk (decide (off<cs.length)) (c mh ((σ.setOb s2 none).setOb s (some (.nst e er nr (cs.set off (.slc false len rs)))))) else .fail
  |_,_,_=> .fail)
 |_,_=> .fail
def ly(E:Env)(t:TypeId)(x i:D)(c:D→Tree):Tree:=match i with
 | .int _ n=>match E.P.underlying t with
  |some (.slice e)=>match sz E.P e with
   |none=> .fail
   |some k=>match x with
    | .own s g len=> .chk (decide (0≤n∧n<len)) (c (.loc s g (n.toNat*k)))
    | .win s g off len _=> .chk (decide (0≤n∧n<len)) (c (.loc s g (off+n.toNat*k)))
    | .slc _ len cs=> .chk (decide (0≤n∧n<len)) (c (.snap cs (n.toNat*k)))
    |_=> .fail
  |some (.array len e)=>match sz E.P e with
   |none=> .fail
   |some k=>match x with
    | .loc s g off=> .chk (decide (0≤n∧n<len)) (c (.loc s g (off+n.toNat*k)))
    | .snap cs off=> .chk (decide (0≤n∧n<len)) (c (.snap cs (off+n.toNat*k)))
    |_=> .fail
  |_=> .fail
 |_=> .fail
def mY(σ:St)(dst:Option Tmp)(e:TypeId)(n by_ m:Nat)(news:List D)(ss:List Nat)(s:D)(c:D→St→Tree):Tree:=match s with
 | .nils=> .ite (decide (m=0)) (c .nils (σ.freeze ss)) (.chk (decide (m*by_≤cg∧m≤9223372036854775807)) (kM (ce (σ.freeze ss) dst (.arr e n news false) (fun s g=> .own s g m)) c))
 | .slc f k olds=> .ite (decide (m=0)) (c (.slc f k olds) (σ.freeze ss)) (.chk f (.chk (decide (0<m∧olds.length=k*n∧(k+m)*by_≤cg∧k+m≤4611686018427387903))
   (kM (ce (σ.freeze ss) dst (.arr e n (olds++news) false) (fun s g=> .own s g (k+m))) c)))
 | .own s0 g0 k=>if ss.contains s0 then .fail else
  match bi σ.H s0 g0 with
  |some (.arr e' n' olds false)=>if e'=e∧n'=n then .chk (decide ((k+m)*by_≤cg∧k+m≤9223372036854775807))
    (kM (ce ((σ.freeze ss).setOb s0 none) dst (.arr e n (olds++news) false) (fun s g=> .own s g (k+m))) c)
   else .fail
  |_=> .fail
 |_=> .fail
def tF(E:Env)(σ:St)(dst:Option Tmp)(t:TypeId)(s x:D)(c:D→St→Tree):Tree:=match fx E.P t with
 |none=> .fail
 |some e=>match sz E.P e,Ak E.P e,ia E.P e,bJ σ.H depth x with
  |some n,some by_,some z,some (x',ss)=>match mO x' with
   |none=> .fail
   |some (m,news)=>if z.cells.length=n∧0<n then .chk (decide (news.length=m*n)) (.chk (news.all D.one) (mY σ dst e n by_ m news ss s c)) else .fail
  |_,_,_,_=> .fail
def lA(E:Env)(σ:St)(dst:Option Tmp)(t:TypeId)(len cap:D)(c:D→St→Tree):Tree:=match fx E.P t,len,cap with
 |some e,.int _ l,.int _ k=>match sz E.P e,Ak E.P e,ia E.P e with
  |some n,some by_,some z=>if z.cells.length=n∧z.cells.all D.one=true∧0<n then .chk (decide (0≤l∧l≤k∧k*by_≤140737488355328∧k≤9223372036854775807))
    (match rH E e n z with
     |none=>kM (ce σ dst (.arr e n (dQ l.toNat z.cells) false) (fun s g=> .own s g l.toNat)) c
     |some q=>kM (ce σ dst (.nst e q.1 q.2 (dQ l.toNat z.cells)) (fun s g=> .own s g l.toNat)) c) else .fail
  |_,_,_=> .fail
 |_,_,_=> .fail
def xO(E:Env)(σ:St)(t:TypeId)(x:D)(lo hi:Option D)(c:D→St→Tree):Tree:=match fx E.P t with
 |none=>kM (dn E σ t x lo hi) c
 |some e=>match gx x with
  |some y=>(match sz E.P e,cR 0 lo,cR y.2.2.2 hi with
   |some n,some l,some h=>if 0<n∧xb x n=true then .chk (decide (0≤l∧l≤h∧h≤y.2.2.2)) (c (.win y.1 y.2.1 (y.2.2.1+l.toNat*n) (h-l).toNat n) σ) else .fail
   |_,_,_=> .fail)
  |none=>match sz E.P e,bJ σ.H depth x with
  |some n,some (.slc full len cs,ss)=>match cR 0 lo,cR len hi with
   |some l,some h=> .chk (decide (0≤l∧l≤h∧h≤len)) (c (.slc (full&&decide (h=len)) (h-l).toNat ((cs.drop (l.toNat*n)).take ((h-l).toNat*n))) (σ.freeze ss))
   |_,_=> .fail
  |some _,some (.nils,_)=>(match cR 0 lo,cR 0 hi with
   |some l,some h=> .chk (decide (l=0∧h=0)) (c .nils σ)
   |_,_=> .fail)
  |_,_=>kM (dn E σ t x lo hi) c
def xP(E:Env)(σ:St)(t:TypeId)(x:D)(c:D→St→Tree):Tree:=match fx E.P t,gx x with
 |some e,some y=>(match sz E.P e,ia E.P e,bi σ.H y.1 y.2.1 with
  |some n,some z,some (.arr e' m cs false)=> .ite (decide (y.2.2.2=0)) (c mh σ) (if z.cells.length=n∧z.cells.all D.one=true then .chk (decide (y.2.2.1+y.2.2.2*n≤cs.length)) (c mh (σ.setOb y.1 (some (.arr e' m (co cs y.2.2.1 (dQ y.2.2.2 z.cells)) false)))) else .fail)
  |_,_,_=> .fail)
 |_,_=> .fail
def Cn(E:Env)(σ:St)(t:TypeId)(x y:D)(c:D→St→Tree):Tree:=match fx E.P t,gx x,bJ σ.H depth y with
 |some e,some q,some (y',ss)=>(match sz E.P e,mO y',bi σ.H q.1 q.2.1 with
  |some n,some (m,news),some (.arr e' n' cs false)=>if ss.contains q.1 then(match gx y with
    |some r=>kM (eC σ n q r) c
    |none=> .fail)
   else .chk (decide (news.length=m*n∧news.all D.one=true∧q.2.2.1+q.2.2.2*n≤cs.length)) (c (.int .i64 (min m q.2.2.2:Nat)) ((σ.freeze ss).setOb q.1 (some (.arr e' n' (co cs q.2.2.1 (news.take (min m q.2.2.2*n))) false))))
  |_,_,_=> .fail)
 |_,_,_=> .fail
def H4:D→D→Option Bool
 | .str a,.str b=>some (ByteArray.toList a==ByteArray.toList b)
 |x,y=>GV x y
def ER:List D→List D→Option Bool
 |[],[]=>some true
 |x::xs,y::ys=>(match H4 x y with
  |some b=>(match ER xs ys with
   |some q=>some (b&&q)
   |none=>none)
  |none=>none)
 |_,_=>none
def xQ:D→D→Option Bool
 | .int k a,.int k' b=>if k=k' then some (a==b) else none
 | .str a,.str b=>some (ByteArray.toList a==ByteArray.toList b)
 | .bool a,.bool b=>some (a==b)
 | .agg xs,.agg ys=>ER xs ys
 |_,_=>none
def vK(k:D)(e:Tree)(c:D→Tree):List D→List D→Tree
 |[],_=>e
 |x::xs,v::vs=>(match xQ k x with
  |some b=> .ite b (c v) (vK k e c xs vs)
  |none=> .fail)
 |_::_,[]=> .fail
def H5:Option (List Knd)→Bool
 |some ks=>ks.any fun k=>match k with
  | .any=>true
  |_=>false
 |none=>false
def KV(H:List (Nat×Option Ob)):D→Bool
 | .mloc s g=>match bi H s g with
  |some (.mrf _ _ _)=>true
  |_=>false
 |_=>false
def tG(E:Env)(σ:St)(t:TypeId)(x k:D)(ok:Bool)(c:D→Tree):Tree:=match fA E.P t with
 |none=> .fail
 |some (kt,et)=>if cD E.P kt k then match pd σ.H x,ia E.P et with
   |some (ks,vs),some z=>if(H5 (vI E.P 10 et)||KV σ.H x)=true then vK k (c (if ok then .tup [z,.bool false] else z)) (fun v=>c (if ok then .tup [v,.bool true] else v)) ks vs else .find (fQ k ks 0) (c (if ok then .tup [z,.bool false] else z)) fun i=> .cell vs i fun v=>so E.osl E.P et v fun v=>c (if ok then .tup [v,.bool true] else v)
   |_,_=> .fail
  else .fail
def KW(k v:D)(ks vs:List D):Option (List D×List D):=match fQ k ks 0 with
 |some (some i)=>some (ks,vs.set i v)
 |some none=>some (ks++[k],vs++[v])
 |none=>none
def iW(E:Env)(σ:St)(t:TypeId)(m k v:D)(c:D→St→Tree):Tree:=match fA E.P t,m with
 |some (kt,_),.mloc s g=>if cD E.P kt k then match bi σ.H s g with
   |some (.map ks vs false)=>match bJ σ.H depth v with
    |none=> .fail
    |some (v',ss)=>if ss.contains s then .fail else .upd (KW k v' ks vs) fun ks' vs'=>c mh ((σ.freeze ss).setOb s (some (.map ks' vs' false)))
   |some (.mrf ks vs false)=>if E.nst then kM (unit (gi σ s ks vs k v)) c else .fail
   |_=> .fail
  else .fail
 |_,_=> .fail
def Co(σ:St)(it:D)(c:D→St→Tree):Tree:=match it with
 | .loc s g 0=>match bi σ.H s g with
  |some (.sit b pos)=> .ite (decide (pos<b.size)) (c (.tup [.bool true,.int .i64 pos,.int .i32 (Utf8.decode b pos).1]) (σ.setOb s (some (.sit b (pos+(Utf8.decode b pos).2))))) (c (.tup [.bool false]) σ)
  |_=> .fail
 |_=> .fail
def pL(P:Program)(k:FuncId):List TypeId:=match P.funcs[k]? with
 |some f=>f.resultTypes.toList
 |none=>[]
def G0:D→FuncId
 | .fn (.func k) _ _=>k
 |_=>0
abbrev uF:=FuncId→List D→Option D
def Cp(E:Env)(cst:uF)(σ:St)(f:D)(args:List D)(c:D→St→Tree):Tree:=match f with
 | .fn (.func k) first caps=>match cA (bJ σ.H depth) (first++args++caps) with
  |none=> .fail
  |some (ds,ss)=>match cst k ds with
   |some r=>c r (if r.plain then σ else σ.freeze ss)
   |none=> .opt (E.call k ds) fun r=>match E.spl k with
    |false=>sr E.osl E.P (pL E.P k) r fun r=>c r (if r.plain then σ else σ.freeze ss)
    |true=>xM E.osl E.P (pL E.P k) r fun r=>c r (if r.plain then σ else σ.freeze ss)
 |_=> .fail
def H6(E:Env)(σ:St)(dst:Option Tmp)(e:TypeId)(n:Nat)(f:D)(args:List D)(c:D→St→Tree):Tree:=match f with
 | .fn (.func k) first caps=>match cA (bJ σ.H depth) (first++args++caps) with
  |none=> .fail
  |some (ds,ss)=> .opt (E.call k ds) fun r=> .slc r fun f len cs=> .ite f (match E.osl with
   |false=>c (.slc true len cs) (if(D.slc true len cs).plain then σ else σ.freeze ss)
   |true=> .fail)
   (.chk (cs.all D.plain) (.chk (decide (cs.length=len*n)) (kM (ce σ dst (.arr e n cs false) (fun s g=> .own s g len)) c)))
 |_=> .fail
def bB(s:ByteArray)(i:Nat):Int:=match s[i]? with
 |some b=>b.toNat
 |none=>0
def nE:List Knd→List D→List D→Option Bool
 |[],[],[]=>some true
 | .int k::ks,.int k1 a::xs,.int k2 b::ys=>if k1=k∧k2=k then(match nE ks xs ys with
  |some q=>some ((a==b)&&q)
  |none=>none) else none
 | .bool::ks,.bool a::xs,.bool b::ys=>(match nE ks xs ys with
  |some q=>some ((a==b)&&q)
  |none=>none)
 | .str::ks,.str a::xs,.str b::ys=>(match nE ks xs ys with
  |some q=>some ((ByteArray.toList a==ByteArray.toList b)&&q)
  |none=>none)
 |_,_,_=>none
def pM(P:Program):Nat→List Field→Option (List Knd)
 |_,[]=>some []
 |i,f::fs=>if f.offset=i∧f.name≠ "_" then(match P.underlying f.type,pM P (i+1) fs with
  |some (.int k),some ks=>some (.int k::ks)
  |some .bool,some ks=>some (.bool::ks)
  |some .string,some ks=>some (.str::ks)
  |_,_=>none) else none
def pN(P:Program):Nat→List Field→Option (List Knd)
 |_,[]=>some []
 |i,f::fs=>match c5 P f.type,sz P f.type with
  |some true,some n=>(match P.underlying f.type with
   |some (.struct gs)=>(match decide (f.offset=i∧f.name≠ "_"∧P.stoodInHeld f.type=false),pM P 0 gs.toList,pN P (i+n) fs with
    |true,some k1,some k2=>if k1.length=n then some (k1++k2) else none
    |_,_,_=>none)
   |_=>none)
  |_,_=>(match pM P i [f],pN P (i+1) fs with
   |some k1,some k2=>some (k1++k2)
   |_,_=>none)
def zd(P:Program)(t:TypeId):Option (List Knd):=match P.underlying t with
 |some (.struct fs)=>if P.stoodInHeld t=false∧P.eqGuardType P.depth t=false then pN P 0 fs.toList else none
 |_=>none
def ze:D→Bool
 | .str _=>true
 |_=>false
def su(E:Env)(σ:St)(o:Oper)(c:D→Tree):Tree:=match o.op with
 | .binOp .quo _ x y _=>match σ.val E x,σ.val E y with
  |some (.int k a),some (.int k' b)=>if k=k' then .chk (!decide (b=0)) (c (.int k (k.wrap (a.tdiv b)))) else .fail
  |_,_=> .fail
 | .binOp .rem _ x y _=>match σ.val E x,σ.val E y with
  |some (.int k a),some (.int k' b)=>if k=k' then .chk (!decide (b=0)) (c (.int k (a.tmod b))) else .fail
  |_,_=> .fail
 | .binOp .shl _ x y _=>match σ.val E x,σ.val E y with
  |some (.int k a),some (.int _ b)=> .chk (!decide (b<0)) (c (.int k (k.wrap (a*2^(min b.toNat k.bits)))))
  |_,_=> .fail
 | .binOp .shr _ x y _=>match σ.val E x,σ.val E y with
  |some (.int k a),some (.int _ b)=> .chk (!decide (b<0)) (c (.int k (a.fdiv (2^(min b.toNat k.bits)))))
  |_,_=> .fail
 | .binOp .add _ x y _=>match σ.val E x,σ.val E y with
  |some (.str a),some (.str b)=> .chk (!decide (((a.size+b.size:Nat):Int)>9223372036854775807)) (c (.str (a++b)))
  |_,_=>rf (dD E σ o) c
 | .binOp .eql t x y _=>match σ.val E x,σ.val E y with
  |some (.agg a),some (.agg b)=>(match zd E.P t with
   |some ks=>(match nE ks a b with
    |some q=>c (.bool q)
    |none=> .fail)
   |none=>rf (dD E σ o) c)
  |_,_=>rf (dD E σ o) c
 | .binOp .neq t x y _=>match σ.val E x,σ.val E y with
  |some (.agg a),some (.agg b)=>(match zd E.P t with
   |some ks=>(match nE ks a b with
    |some q=>c (.bool (!q))
    |none=> .fail)
   |none=>rf (dD E σ o) c)
  |_,_=>rf (dD E σ o) c
 | .index t x i=>match E.P.underlying t,σ.val E x,σ.val E i with
  |some .string,some (.str s),some (.int _ i)=> .chk (decide (0≤i∧i.toNat<s.size)) (c (.int .u8 (bB s i.toNat)))
  |some (.array n e),some (.agg cs),some (.int _ i)=>(match E.P.underlying e,sz E.P e,cs.all ze with
   |some .string,some 1,true=> .chk (decide (0≤i∧i<n)) (.cell cs i.toNat fun d=> .str d fun s=>c (.str s))
   |_,_,_=> .fail)
  |_,_,_=> .fail
 | .slice t x lo hi none=>match E.P.underlying t,σ.val E x,dA E σ lo,dA E σ hi with
  |some .string,some (.str s),some lo,some hi=>match cR 0 lo,cR s.size hi with
   |some l,some h=> .chk (decide (0≤l∧l≤h∧h≤s.size)) (c (.str (s.extract l.toNat h.toNat)))
   |_,_=> .fail
  |_,_,_,_=> .fail
 |_=>rf (dD E σ o) c
def xR(E:Env)(o:BinOp)(t:TypeId)(x y:D)(e:Tree)(c:D→Tree):Tree:=match E.P.underlying t with
 |some (.slice _)=>(match x,y with
  | .slc _ n _,.nils=> .chk (decide (0<n)) (match o with| .eql=>c (.bool false)| .neq=>c (.bool true)|_=> .fail)
  | .nils,.slc _ n _=> .chk (decide (0<n)) (match o with| .eql=>c (.bool false)| .neq=>c (.bool true)|_=> .fail)
  |x,y=>(match dO E o t x y with
   |some d=>c d
   |none=>e))
 |_=>(match dO E o t x y with
  |some d=>c d
  |none=>e)
def zf(E:Env)(t:TypeId):Bool:=match E.P.underlying t with
 |some (.slice _)=>true
 |some (.pointer _)=>true
 |_=>false
def St.know(σ:St)(t:Tmp)(b:Bool):St:={σ with T:=σ.T.set t (.bool b)}
def sv(σ:St)(x:Operand)(b:Bool):St:=match x with
 | .tmp t=>σ.know t b
 |_=>σ
def Kw(E:Env)(cst:uF)(σ:St)(o:Oper)(c:D→St→Tree):Tree:=match o.op with
 | .pick x a b=>match σ.val E x with
  |some (.bool t)=> .ite t (rf (σ.val E a) fun d=>c d (sv σ x true)) (rf (σ.val E b) fun d=>c d (sv σ x false))
  |_=> .fail
 | .load t a=>match σ.val E a with
  |some d=>(match E.nst&&isNst σ.H d with
   |true=>Cl E σ o.dst t d c
   |false=>Ck E σ t d fun d=>c d σ)
  |none=> .fail
 | .store t a x=>match σ.val E a,σ.val E x with
  |some d,some y=>(match E.nst&&isNst σ.H d with
   |true=>Cm E σ t d y c
   |false=>xN E σ t d y c)
  |_,_=> .fail
 | .indexAddr t x i=>match σ.val E x,σ.val E i with
  |some d,some j=>ly E t d j fun d=>c d σ
  |_,_=> .fail
 | .lookup t x k ok=>match σ.val E x,σ.val E k with
  |some d,some j=>tG E σ t d j ok fun d=>c d σ
  |_,_=> .fail
 | .mapUpdate t m k v=>match σ.val E m,σ.val E k,σ.val E v with
  |some a,some b,some d=>iW E σ t a b d c
  |_,_,_=> .fail
 | .insert t m k v=>match σ.val E m,σ.val E k,σ.val E v with
  |some a,some b,some d=>iW E σ t a b d c
  |_,_,_=> .fail
 | .makeSlice t l k=>match σ.val E l,σ.val E k with
  |some a,some b=>lA E σ o.dst t a b c
  |_,_=> .fail
 | .slice t x lo hi mx=>match σ.val E x with
  |some (.str _)=>su E σ o fun d=>c d σ
  |some d=>match mx,dA E σ lo,dA E σ hi with
   |none,some l,some h=>xO E σ t d l h c
   |_,_,_=> .fail
  |none=> .fail
 | .next it isS=>match σ.val E it,isS with
  |some d,true=>Co σ d c
  |_,_=> .fail
 | .call k=>match k.callee with
  | .value f=>match σ.val E f,fa E σ k.args.toList with
   |some g,some as=>(match rI E g with
    |some i=>i.1.t σ.H (i.2.1++(as++i.2.2)) fun d H=>c d ⟨σ.T,H⟩
    |none=>match kT E g with
    |some en=>H6 E σ o.dst en.1 en.2 g as c
    |none=>(match ph E g as with
     |none=>Cp E cst σ g as c
     |some (.plc p m)=>HZ σ p m as (sr E.osl E.P (pL E.P (G0 g))) c
     |some (.plw p m)=>H0 σ p m as (sr E.osl E.P (pL E.P (G0 g))) c
     |some (.fst _ _)=>(match gQ E g with
      |some (.fn m)=>kM (lQ E.osl σ o.dst m as) c
      |some (.tab t m)=>HY E.osl σ o.dst t m as c
      |_=> .fail)))
   |_,_=> .fail
  | .builtin .append=>match k.args.toList,k.argTypes.toList with
   |[s,x],[t,u]=>(match σ.val E s,σ.val E x with
     |some a,some b=>if t=u then tF E σ o.dst t a b c else .fail
     |_,_=> .fail)
   |_,_=> .fail
  | .builtin .clear=>(match k.args.toList,k.argTypes.toList with
   |[x],[t]=>(match σ.val E x with
    |some d=>xP E σ t d c
    |none=> .fail)
   |_,_=> .fail)
  | .builtin .copy=>match k.args.toList,k.argTypes.toList with
   |[x,y],[t,_]=>match σ.val E x,σ.val E y with
    |some d,some d'=>Cn E σ t d d' c
    |_,_=> .fail
   |_,_=> .fail
  |_=>kM (cw E σ o) c
 | .binOp op t x y _=>match zf E t with
  |true=>(match σ.val E x,σ.val E y with
   |some a,some b=>xR E op t a b (su E σ o fun d=>c d σ) fun d=>c d σ
   |_,_=> .fail)
  |false=>su E σ o fun d=>c d σ
 | .index _ _ _=>su E σ o fun d=>c d σ
 |_=>kM (cw E σ o) c
def Cq(E:Env)(cst:uF)(ops:Array Oper)(σ:St)(i:Nat)(c:St→Tree):Tree:=match ops[i]? with
 |none=> .fail
 |some o=>match o.guard with
  |none=>Kw E cst σ o fun d σ'=>c (σ'.put o.dst d)
  |some (j,want)=>match ops[j]? with
   |none=> .fail
   |some p=>match p.dst with
    |none=> .fail
    |some t=>match σ.T[t]? with
     |some (.bool b)=> .ite b (match want with|true=>Kw E cst (σ.know t true) o fun d σ'=>c (σ'.put o.dst d)|false=>c ((σ.know t true).put o.dst mh)) (match want with|true=>c ((σ.know t false).put o.dst mh)|false=>Kw E cst (σ.know t false) o fun d σ'=>c (σ'.put o.dst d))
     |some (.tup _)=>c (σ.put o.dst mh)
     |some (.int _ _)=>c (σ.put o.dst mh)
     |_=> .fail
def tH{α:Type}:List α→(List α→Tree)→Tree
 |[],c=>c []
 |x::xs,c=>tH xs fun ys=>c (x::ys)
def mZ(σ:St)(c:St→Tree):Tree:=tH σ.T fun T=>tH σ.H fun H=>c ⟨T,H⟩
def nW(E:Env)(cst:uF)(ops:Array Oper):List Nat→St→(St→Tree)→Tree
 |[],σ,c=>c σ
 |i::l,σ,c=>Cq E cst ops σ i fun σ'=>mZ σ' fun σ'=>nW E cst ops l σ' c
def zg(E:Env)(cst:uF)(fs:List (Nat×Nat))(ops:Array Oper):List Nat→St→(St→Tree)→Tree
 |[],σ,c=>c σ
 |i::l,σ,c=>match ops[i]? with
  |none=> .fail
  |some o=>if fS E fs σ.T o then Cq E cst ops σ i fun σ'=>mZ σ' fun σ'=>zg E cst fs ops l σ' c else .fail
def zh(E:Env)(cst:uF)(fs:List (Nat×Nat))(ops:Array Oper)(l:List Nat)(σ:St)(c:St→Tree):Tree:=match fs with
 |[]=>nW E cst ops l σ c
 |f::fs=>zg E cst (f::fs) ops l σ c
def oA(E:Env)(σ:St)(o:Oper):Option (Nat×List D×List Nat):=match o.guard,o.op with
 |none,.call k=>match k.callee with
  | .value f=>match σ.val E f,fa E σ k.args.toList with
   |some (.fn (.yield l) [] []),some as=>match cA (bJ σ.H depth) as with
    |some p=>some (l,p)
    |none=>none
   |_,_=>none
  |_=>none
 |_,_=>none
def tI(l0:Nat)(E:Env)(cst:uF)(ops:Array Oper):List Nat→St→(St→Tree)→Tree
 |[],σ,c=>c σ
 |i::l,σ,c=>match ops[i]? with
  |none=> .fail
  |some o=>match oA E σ o with
   |some (l',ds,ss)=> .chk (decide (l'=l0)) (.emit ds fun b=>mZ ((σ.freeze ss).put o.dst (.bool b)) fun σ'=>tI l0 E cst ops l σ' c)
   |none=>Cq E cst ops σ i fun σ'=>mZ σ' fun σ'=>tI l0 E cst ops l σ' c
structure TE where
 E:Env
 cst:uF
 C:Nat→Nat
 it:Option Nat:=none
 sq:FuncId→List D→Option (List (List D)):=fun _ _=>none
abbrev bA:=Nat→Option Norm
def pO(f:St→Tree)(k:Out→St→Tree):Out→St→Tree
 | .norm,σ=>f σ
 | .exit i,σ=>k (.exit i) σ
 | .ret,σ=>k .ret σ
def ES(id:Nat)(k:Out→St→Tree):Out→St→Tree
 | .norm,σ=>k .norm σ
 | .exit i,σ=>if i=id then k .norm σ else k (.exit i) σ
 | .ret,σ=>k .ret σ
noncomputable def jt(f:(St→Tree)→St→Tree)(n:Nat):St→Tree:=Nat.rec (fun _=> .fail) (fun _ R=>f R) n
def gF(i:Option Norm)(tag:Nat)(σ:St)(R:St→Tree):Tree:=match i with
 |none=> .fail
 |some i=>match σ.norm i with
  |none=> .fail
  |some σ1=> .stop tag σ1 (R σ1)
def kY(i:Option Norm)(tag:Nat)(body:St→(Out→St→Tree)→Tree)(k:Out→St→Tree)(R:St→Tree)(σ:St):Tree:=body σ (pO (fun σ'=>gF i tag σ' R) k)
noncomputable def ET(Te:TE)(i:Option Norm)(tag:Nat)(f:St→Tree)(σ:St):Tree:=match i with
 |none=>f σ
 |some i=>gF (some i) tag σ (jt (fun _=>f) (Te.C tag))
noncomputable def vL(f:List D→(St→Tree)→St→Tree)(fin:St→Tree)(ys:List (List D)):St→Tree:=List.rec (motive:=fun _=>St→Tree) fin (fun y _ R=>f y R) ys
def Cr(P:Program)(g:FuncId):List TypeId:=match P.funcs[g]? with
 |some f=>match f.params[0]? with
  |some t=>match P.underlying t with
   |some (.func ps _ _)=>ps.toList
   |_=>[]
  |none=>[]
 |none=>[]
def lB(b:Bool)(P:Program)(g:FuncId)(i:Option Norm)(tag:Nat)(ps Wl:List Nat)(asg body:St→(Out→St→Tree)→Tree)(k:Out→St→Tree)(y:List D)(R:St→Tree)(σ:St):Tree:=
 .chk (decide (y.length=ps.length)) (pK b P (Cr P g) y 0 fun ds=>if ds.length=ps.length then asg ⟨fM σ.T ps ds,σ.H⟩ (pO (fun σ1=>body σ1 (pO (fun σ2=>gF i tag ⟨ic σ2.T Wl,σ2.H⟩ R) (fun o σ2=>k o ⟨ic σ2.T Wl,σ2.H⟩))) (fun _ _=> .fail)) else .fail)
noncomputable def ek(Te:TE)(ord:hZ)(N:bA):Code→Nat→St→(Out→St→Tree)→Tree
 | .skip,_,σ,k=>k .norm σ
 | .region _ ops false,_,σ,k=>match Te.it with
  |some l0=>tI l0 Te.E Te.cst ops (List.range ops.size) σ (k .norm)
  |none=>nW Te.E Te.cst ops (List.range ops.size) σ (k .norm)
 | .region id ops true,_,σ,k=>match ord id with
  |none=>(match Te.it with
   |none=>nW Te.E.still Te.cst ops (List.range ops.size) σ (k .norm)
   |some l0=>(match se ops with
    |none=>nW Te.E.still Te.cst ops (List.range ops.size) σ (k .norm)
    |some b=>nW Te.E.still Te.cst ops (List.range b) σ fun σ=>tI l0 Te.E.still Te.cst ops [b] σ fun σ=>nW Te.E.still Te.cst ops ((List.range ops.size).drop (b+1)) σ (k .norm)))
  |some i=>(match i.no with
   |true=> .fail
   |false=>match i.bar with
   |true=>(match Te.it,se ops with
    |none,some b=>zh (Te.E.stillF i.fs) Te.cst i.fs ops (List.range b) (σ.kill i.ks) fun σ=>nW Te.E Te.cst ops [b] σ fun σ=>zh (Te.E.stillF i.fs) Te.cst i.fs ops ((List.range ops.size).drop (b+1)) σ (k .norm)
    |_,_=> .fail)
   |false=>zh (Te.E.stillF i.fs) Te.cst i.fs ops (i.order ops.size) (σ.kill i.ks) (k .norm))
 | .seq a b,p,σ,k=>ek Te ord N a (2*p) σ (pO (ET Te (N (2*p+1)) (2*p+1) fun σ=>ek Te ord N b (2*p+1) σ k) k)
 | .cond c a b,p,σ,k=>match σ.val Te.E c with
  |some (.bool t)=> .ite t (ek Te ord N a (2*p) (sv σ c true) k) (ek Te ord N b (2*p+1) (sv σ c false) k)
  |_=> .fail
 | .block id c,p,σ,k=>ek Te ord N c (2*p) σ (ES id k)
 | .loop c,p,σ,k=>gF (N p) p σ (jt (kY (N p) p (ek Te ord N c (2*p)) k) Te.E.L)
 | .exit id,_,σ,k=>k (.exit id) σ
 | .ret,_,σ,k=>k .ret σ
 | .rangeFunc fo ps as bd,p,σ,k=>match Te.it,σ.val Te.E fo with
  |none,some (.fn (.func g) [] caps)=>match cA (bJ σ.H depth) caps with
   |some (cs,ss)=> .seq (Te.sq g cs) fun ys=>gF (N p) p (σ.freeze ss) (vL (lB Te.E.osl Te.E.P g (N p) p ps.toList (ps.toList++(cG as++cG bd)) (ek Te ord N as (2*p)) (ek Te ord N bd (2*p+1)) k) (fun σ=>k .norm σ) ys)
   |none=> .fail
  |_,_=> .fail
 | .scope c,p,σ,k=>ek Te ord N c (2*p) σ k
 | .label _,_,σ,k=>k .norm σ
 |_,_,_,_=> .fail
def tJ(fn:Func):Code:=fn.body.getD .skip
def canonS:D→D
 | .snap cs off=> .snap (cs.map canon0) off
 |d=>canon1 d
def canon2:D→D
 | .tup ds=> .tup (ds.map canonS)
 |d=>canonS d
inductive FinM where
 |canon
 |raw
 |own
 |over (e:TypeId) (n:Nat)
 |plc (p:Nat) (e:TypeId) (n:Nat)
 |trim (e:TypeId) (n:Nat)
 |plw (p:Nat) (e:TypeId) (n:Nat)
 |pbx (p:Nat) (ks:List PK)
def G1:Bool→FinM
 |true=> .raw
 |false=> .canon
def xS(σ:St)(fn:Func):Tree:=match fn.results.toList with
 |[.tmp t]=>match σ.T[t]? with
  |some .nils=> .leaf (some .nils)
  |some (.own s g len)=>match bi σ.H s g with
   |some (.arr e n cs false)=> .chk (decide (cs.length=len*n)) (.chk (cs.all D.plain) (.leaf (some (.tup [.int .u64 e,.int .u64 n,.slc false len cs]))))
   |_=> .fail
  |_=> .fail
 |_=> .fail
def xT(o:Bool)(e:TypeId)(n:Nat)(σ:St)(fn:Func):Tree:=match fn.results.toList with
 |[]=>match σ.T[(0:Nat)]? with
  |some (.own 0 0 len)=>match bi σ.H 0 0 with
   |some (.arr e' n' cs false)=> .chk (decide (e'=e)) (.chk (decide (n'=n)) (.chk (decide (cs.length=len*n)) (.chk (cs.all (Bz o)) (.leaf (some (.slc false len cs))))))
   |_=> .fail
  |_=> .fail
 |_=> .fail
def H7(E:Env)(p:Nat)(e:TypeId)(n:Nat)(σ:St)(fn:Func):Tree:=match σ.T[p]? with
 |some (.own s 0 len)=>if s=p then(match bi σ.H p 0 with
  |some (.arr e' n' cs false)=>(match qY E (σ.setOb p none) fn.results.toList with
   |some d=> .chk (decide (e'=e)) (.chk (decide (n'=n)) (.chk (decide (cs.length=len*n)) (.chk (cs.all D.plain) (.leaf (some (.tup [.slc false len cs,canon2 d]))))))
   |none=> .fail)
  |_=> .fail) else .fail
 |_=> .fail
def H8(E:Env)(p:Nat)(e:TypeId)(n:Nat)(σ:St)(fn:Func):Tree:=match σ.T[p]? with
 |some (.win s 0 _ len m)=>if s=p∧m=n then(match bi σ.H p 0 with
  |some (.arr e' n' cs false)=>(match qY E (σ.setOb p none) fn.results.toList with
   |some d=> .chk (decide (e'=e)) (.chk (decide (n'=n)) (.chk (decide (0<len)) (.chk (cs.all D.plain) (.leaf (some (.tup [.slc false 0 cs,canon2 d]))))))
   |none=> .fail)
  |_=> .fail) else .fail
 |_=> .fail
def EU(σ:St)(fn:Func):Option Nat:=match fn.results.toList with
 |[.tmp t]=>(match σ.T[t]? with
  |some (.own 0 0 m)=>some m
  |some (.win 0 0 0 m _)=>some m
  |_=>none)
 |_=>none
def EV(o:Bool)(e:TypeId)(n:Nat)(σ:St)(fn:Func):Tree:=match σ.T[(0:Nat)]?,EU σ fn with
 |some (.own 0 0 len),some m=>(match bi σ.H 0 0 with
  |some (.arr e' n' cs false)=> .chk (decide (e'=e)) (.chk (decide (n'=n)) (.chk (decide (0<m)) (.chk (decide (m≤len)) (.chk (decide (cs.length=len*n)) (.chk (cs.all (Bz o)) (.leaf (some (.slc false m (cs.take (m*n))))))))))
  |_=> .fail)
 |_,_=> .fail
def xU(E:Env)(p:Nat)(ks:List PK)(σ:St)(fn:Func):Tree:=match σ.T[p]? with
 |some (.loc s 0 0)=>if s=p then(match bi σ.H p 0 with
  |some (.box cs false)=>(match uG σ.H p 0 ks cs with
   |some (cells,os,ss)=>if(!ss.contains p&&os.all (fun q=> !ss.contains q))&&decide os.Nodup then(match qY E ⟨σ.T,(c6 (br σ.H ss) os).set p (1,none)⟩ fn.results.toList with
     |some d=> .leaf (some (.tup [.agg cells,canon2 d]))
     |none=> .fail) else .fail
   |none=> .fail)
  |_=> .fail) else .fail
 |_=> .fail
def jw(E:Env)(keep:FinM)(fn:Func):Out→St→Tree
 | .exit _,_=> .fail
 |_,σ=>match keep with
  | .own=>xS σ fn
  | .over e n=>xT E.osl e n σ fn
  | .plc p e n=>H7 E p e n σ fn
  | .plw p e n=>H8 E p e n σ fn
  | .pbx p ks=>xU E p ks σ fn
  | .trim e n=>EV E.osl e n σ fn
  | .raw=>(match qY E σ fn.results.toList with
   |some d=> .leaf (some d)
   |none=> .fail)
  | .canon=>(match qY E σ fn.results.toList with
   |some d=> .leaf (some (canon2 d))
   |none=> .fail)
noncomputable def bF(Te:TE)(ord:hZ)(N:bA)(keep:FinM)(fn:Func)(args:List D):Option D:=match fn.body with
 |none=>none
 |some c=>run (ek Te ord N c 1 (cz fn args) (jw Te.E keep fn))
def iX(fn:Func)(e:TypeId)(n len:Nat)(cs rest:List D):St:=⟨(cz fn (.own 0 0 len::rest)).T,(cz fn (.own 0 0 len::rest)).H.set 0 (1,some (.arr e n cs false))⟩
noncomputable def m5(Te:TE)(ord:hZ)(N:bA)(e:TypeId)(n:Nat)(fn:Func)(len:Nat)(cs rest:List D):Option D:=match fn.body with
 |none=>none
 |some c=>run (ek Te ord N c 1 (iX fn e n len cs rest) (jw Te.E (.over e n) fn))
noncomputable def Cs{α:Type}(f:Nat→Option α):Option α:=by
 classical
 exact if∀l,f l=f 0 then f 0 else none
noncomputable def Ct(Te:TE)(ord:hZ)(N:bA)(fn:Func)(caps:List D):Option (List (List D)):=match fn.body with
 |none=>none
 |some c=>Cs fun l=>jv (ek {Te with it:=some l} ord N c 1 (cz fn (.fn (.yield l) [] []::caps)) (jw Te.E .raw fn))
abbrev J:D:= .junk
abbrev Z:Nat×Option Ob:=(0,none)
def jn:Nat→List D→List D
 |0,l=>l
 |n+1,l=>J::jn n l
def zn:Nat→List (Nat×Option Ob)→List (Nat×Option Ob)
 |0,l=>l
 |n+1,l=>Z::zn n l
def bt:Nat→Nat→List Bool
 |0,_=>[]
 |n+1,k=>(k%2==1)::bt n (k/2)
def nm(k l r:List Nat)(o:Bool:=false):Option Norm:=some {keep:=k,kl:=l,ren:=r.map fun x=>(x,x),oc:=o}
abbrev CL:=FuncId→List D→Option D
inductive Ow where
 |nil
 |own (n:Nat) (cs:List D)
 |slc (f:Bool) (n:Nat) (cs:List D)
def rg(s:Nat):Ow→D
 | .nil=> .nils
 | .own n _=> .own s 0 n
 | .slc f n cs=> .slc f n cs
def rh(e:TypeId)(m:Nat):Ow→Nat×Option Ob
 | .nil=>(0,none)
 | .slc _ _ _=>(0,none)
 | .own _ cs=>(1,some (.arr e m cs false))
inductive Fu where
 |n (k:Nat)
 |l (g:FuncId) (ys:List (List D))
instance:Coe Nat Fu:=⟨.n⟩
noncomputable def nX(Te:TE)(ord:hZ)(N:bA):List Bool→List Fu→Code→Nat→(Out→St→Tree)→Option (Code×Nat×(Out→St→Tree))
 |[],_,c,p,k=>some (c,p,k)
 |false::bs,ns,.seq a b,p,k=>nX Te ord N bs ns a (2*p) (pO (ET Te (N (2*p+1)) (2*p+1) fun σ=>ek Te ord N b (2*p+1) σ k) k)
 |true::bs,ns,.seq _ b,p,k=>nX Te ord N bs ns b (2*p+1) k
 |false::bs,ns,.cond _ a _,p,k=>nX Te ord N bs ns a (2*p) k
 |true::bs,ns,.cond _ _ b,p,k=>nX Te ord N bs ns b (2*p+1) k
 |_::bs,ns,.scope c,p,k=>nX Te ord N bs ns c (2*p) k
 |_::bs,ns,.block id c,p,k=>nX Te ord N bs ns c (2*p) (ES id k)
 |true::bs,.l g ys::ns,.rangeFunc _ ps as bd,p,k=>nX Te ord N bs ns bd (2*p+1) (pO (fun σ2=>gF (N p) p ⟨ic σ2.T (ps.toList++(cG as++cG bd)),σ2.H⟩ (vL (lB Te.E.osl Te.E.P g (N p) p ps.toList (ps.toList++(cG as++cG bd)) (ek Te ord N as (2*p)) (ek Te ord N bd (2*p+1)) k) (fun σ=>k .norm σ) ys)) (fun o σ2=>k o ⟨ic σ2.T (ps.toList++(cG as++cG bd)),σ2.H⟩))
 |_::bs,.n n::ns,.loop c,p,k=>nX Te ord N bs ns c (2*p) (pO (fun σ'=>gF (N p) p σ' (jt (kY (N p) p (ek Te ord N c (2*p)) k) n)) k)
 |_,_,_,_,_=>none
noncomputable def bY(Te:TE)(ord:hZ)(N:bA)(keep:FinM)(fn:Func)(bs:List Bool)(ns:List Fu)(n:Nat)(σ:St):Option D:=match fn.body with
 |none=>none
 |some c0=>match nX Te ord N bs ns c0 1 (jw Te.E keep fn) with
  |some (.loop c,p,k)=>run (jt (kY (N p) p (ek Te ord N c (2*p)) k) n σ)
  |_=>none
noncomputable def EW(Te:TE)(ord:hZ)(N:bA)(keep:FinM)(fn:Func)(bs:List Bool)(ns:List Fu)(n:Nat)(σ:St):Option (List (List D)):=match fn.body with
 |none=>none
 |some c0=>match nX Te ord N bs ns c0 1 (jw Te.E keep fn) with
  |some (.loop c,p,k)=>jv (jt (kY (N p) p (ek Te ord N c (2*p)) k) n σ)
  |_=>none
noncomputable def H9(Te:TE)(ord:hZ)(N:bA)(keep:FinM)(fn:Func)(bs:List Bool)(ns:List Fu)(g:FuncId)(ys:List (List D))(σ:St):Option D:=match fn.body with
 |none=>none
 |some c0=>match nX Te ord N bs ns c0 1 (jw Te.E keep fn) with
  |some (.rangeFunc _ ps as bd,p,k)=>run (vL (lB Te.E.osl Te.E.P g (N p) p ps.toList (ps.toList++(cG as++cG bd)) (ek Te ord N as (2*p)) (ek Te ord N bd (2*p+1)) k) (fun σ=>k .norm σ) ys σ)
  |_=>none
noncomputable def d9(Te:TE)(ord:hZ)(N:bA)(keep:FinM)(fn:Func)(bs:List Bool)(ns:List Fu)(n:Nat)(σ:St):Option D:=match fn.body with
 |none=>none
 |some c0=>match nX Te ord N bs ns c0 1 (jw Te.E keep fn) with
  |some (c,p,k)=>run (jt (fun _ σ=>ek Te ord N c p σ k) n σ)
  |_=>none
section
variable {α:Type}{lf:Option D→Option α}{ef:List D→(Bool→Option α)→Option α}{E:Env}{cst:uF}{σ:St}{r:α}
theorem tK(b:Bool)(t e:Tree):bv lf ef (.ite b t e)=bo b (bv lf ef t) (bv lf ef e):=rfl
theorem EX(b:Bool)(t:Tree):bv lf ef (.chk b t)=bu b (bv lf ef t):=rfl
theorem EY(o:Option D)(k:D→Tree):bv lf ef (.opt o k)=bn o fun x=>bv lf ef (k x):=rfl
theorem EZ(k:IntKind)(d:D)(c:Int→Tree):bv lf ef (.int k d c)=bw k d fun x=>bv lf ef (c x):=rfl
theorem Cu(d:D)(c:Bool→Tree):bv lf ef (.bool d c)=bM d fun x=>bv lf ef (c x):=rfl
theorem E0(d:D)(c:ByteArray→Tree):bv lf ef (.str d c)=bH d fun x=>bv lf ef (c x):=rfl
theorem E1(d:D)(c:Bool→Nat→List D→Tree):bv lf ef (.slc d c)=cP d fun f n x=>bv lf ef (c f n x):=rfl
theorem run_map(d:D)(c:List D→List D→Tree):bv lf ef (.map d c)=HM d fun f n=>bv lf ef (c f n):=rfl
theorem zi(d:D)(n:Nat)(c:List D→Tree):bv lf ef (.agg d n c)=fK d n fun x=>bv lf ef (c x):=rfl
theorem oB(d:D)(n:Nat)(c:List D→Tree):bv lf ef (.tup d n c)=cJ d n fun x=>bv lf ef (c x):=rfl
theorem vM(cs:List D)(i:Nat)(c:D→Tree):bv lf ef (.cell cs i c)=bc cs i fun x=>bv lf ef (c x):=rfl
theorem Cv(o:Option (Option Nat))(e:Tree)(c:Nat→Tree):bv lf ef (.find o e c)=BE o (bv lf ef e) fun x=>bv lf ef (c x):=rfl
theorem E2(o:Option (List D×List D))(c:List D→List D→Tree):bv lf ef (.upd o c)=HN o fun a b=>bv lf ef (c a b):=rfl
theorem vO(ds:List D)(k:Bool→Tree):bv lf ef (.emit ds k)=ef ds fun b=>bv lf ef (k b):=rfl
theorem fX{b:Bool}{t e:Tree}(h:bv lf ef (.ite b t e)=some r):(b=true∧bv lf ef t=some r)∨(b=false∧bv lf ef e=some r):=by
 rw[tK] at h;cases b
 ·exact .inr ⟨rfl,h⟩
 ·exact .inl ⟨rfl,h⟩
theorem bC{b:Bool}{t:Tree}(h:bv lf ef (.chk b t)=some r):b=true∧bv lf ef t=some r:=by
 rw[EX] at h;cases b
 ·cases h
 ·exact⟨rfl,h⟩
theorem gG{o:Option D}{k:D→Tree}(h:bv lf ef (.opt o k)=some r):∃x,o=some x∧bv lf ef (k x)=some r:=by
 rw[EY] at h;cases o
 ·cases h
 ·exact⟨_,rfl,h⟩
theorem slc_inv{d:D}{c:Bool→Nat→List D→Tree}(h:bv lf ef (.slc d c)=some r):∃f m cs,d= .slc f m cs∧bv lf ef (c f m cs)=some r:=by
 have h:cP d (fun f m cs=>bv lf ef (c f m cs))=some r:=h;unfold cP at h;split at h
 ·exact⟨_,_,_,rfl,h⟩
 ·cases h
theorem c7{cs:List D}{i:Nat}{c:D→Tree}(h:bv lf ef (.cell cs i c)=some r):∃d,cs[i]?=some d∧bv lf ef (c d)=some r:=by
 rw[vM] at h;unfold bc at h;split at h
 ·rename_i d hd;exact⟨d,hd,h⟩
 ·cases h
theorem eV{o:Option D}{c:D→Tree}(h:bv lf ef (rf o c)=some r):∃d,o=some d∧bv lf ef (c d)=some r:=by
 cases o
 ·cases h
 ·exact⟨_,rfl,h⟩
theorem c8{o:Option (D×St)}{c:D→St→Tree}(h:bv lf ef (kM o c)=some r):∃d σ',o=some (d,σ')∧bv lf ef (c d σ')=some r:=by
 cases o
 ·cases h
 ·exact⟨_,_,rfl,h⟩
theorem fG{k:Knd}{d:D}{c:D→Tree}(h:bv lf ef (jS k d c)=some r):bv lf ef (c d)=some r:=by
 cases k with
 |int k=>
  simp only[jS,EZ] at h;unfold bw at h;split at h
  ·split at h
   ·rename_i e;subst e;exact h
   ·cases h
  ·cases h
 |bool=>
  simp only[jS,Cu] at h;unfold bM at h;split at h
  ·exact h
  ·cases h
 |str=>
  simp only[jS,E0] at h;unfold bH at h;split at h
  ·exact h
  ·cases h
 |slc=>
  simp only[jS,E1] at h;unfold cP at h;split at h
  ·exact h
  ·cases h
 |map=>
  simp only[jS,run_map] at h;unfold HM at h;split at h
  ·exact h
  ·cases h
 |any=>exact h
 |nil=>
  obtain⟨x,hx,h⟩:=gG (show bv lf ef (.opt (HX d) fun _=>c .nils)=some r from h);unfold HX at hx;split at hx
  ·exact h
  ·cases hx
 |ifc=>
  obtain⟨x,hx,h⟩:=gG (show bv lf ef (.opt (EQ d) fun _=>c .nilif)=some r from h);unfold EQ at hx;split at hx
  ·exact h
  ·cases hx
 |osl=>
  have h:HL d (fun b n cs=>bv lf ef (c (.osl b n cs)))=some r:=h;unfold HL at h;split at h
  ·exact h
  ·cases h
theorem jT{cs:List D}{base:Nat}:∀(ks:List Knd) (j:Nat) (c:List D→Tree),bv lf ef (vJ cs base j ks c)=some r→
  ∃ds,ds.length=ks.length∧(∀i,i<ks.length→cs[base+j+i]?=ds[i]?)∧bv lf ef (c ds)=some r
 |[],j,c,h=>⟨[],rfl,(fun i hi=>absurd hi (Nat.not_lt_zero i)),h⟩
 |k::ks,j,c,h=>by
  simp only[vJ] at h;obtain⟨d,hd,h⟩:=c7 h;obtain⟨ds,h1,h2,h3⟩:=jT ks (j+1) _ (fG h);refine⟨d::ds,by simp[h1],fun i hi=> ?_,h3⟩;cases i with
  |zero=>simpa using hd
  |succ i=>
   have:=h2 i (by simpa using hi);simp only[List.getElem?_cons_succ];rw[←this]
   congr 1
   omega
theorem gH{b:Bool}{P:Program}{t:TypeId}{d:D}{c:D→Tree}(h:bv lf ef (so b P t d c)=some r):bv lf ef (c d)=some r:=by
 unfold so at h;split at h
 ·rename_i ks _ _;rw[zi] at h;unfold fK at h;split at h
  ·rename_i cs;split at h
   ·rename_i hl;obtain⟨ds,h1,h2,h3⟩:=jT _ _ _ h;have:ds=cs:=by
     apply List.ext_getElem?;intro i;by_cases hi:i<ks.length
     ·rw[←h2 i hi];simp
     ·rw[zd3 (by omega),zd3 (by omega)]
    rw[this] at h3;exact h3
   ·cases h
  ·cases h
 ·exact fG h
 ·cases h
theorem iY{b:Bool}{P:Program}{cs:List D}:∀(ts:List TypeId) (j:Nat) (c:List D→Tree),bv lf ef (pK b P ts cs j c)=some r→
  ∃ds,ds.length=ts.length∧(∀i,i<ts.length→cs[j+i]?=ds[i]?)∧bv lf ef (c ds)=some r
 |[],j,c,h=>⟨[],rfl,(fun i hi=>absurd hi (Nat.not_lt_zero i)),h⟩
 |t::ts,j,c,h=>by
  simp only[pK] at h;obtain⟨d,hd,h⟩:=c7 h;obtain⟨ds,h1,h2,h3⟩:=iY ts (j+1) _ (gH h);refine⟨d::ds,by simp[h1],fun i hi=> ?_,h3⟩;cases i with
  |zero=>simpa using hd
  |succ i=>
   have:=h2 i (by simpa using hi);simp only[List.getElem?_cons_succ];rw[←this]
   congr 1
   omega
theorem gI{b:Bool}{P:Program}{ts:List TypeId}{d:D}{c:D→Tree}(h:bv lf ef (sr b P ts d c)=some r):bv lf ef (c d)=some r:=by
 unfold sr at h;split at h
 ·exact gH h
 ·rw[oB] at h;unfold cJ at h;split at h
  ·rename_i ts' _ cs;split at h
   ·rename_i hl;obtain⟨ds,h1,h2,h3⟩:=iY _ _ _ h;have:ds=cs:=by
     apply List.ext_getElem?;intro i;by_cases hi:i<ts.length
     ·rw[←h2 i hi];simp
     ·rw[zd3 (by omega),zd3 (by omega)]
    rw[this] at h3;exact h3
   ·cases h
  ·cases h
theorem tL(d:D)(t:Tree)(c:Bool→Nat→List D→Tree):bv lf ef (.nil d t c)=HJ d (bv lf ef t) fun f n x=>bv lf ef (c f n x):=rfl
theorem tM{k:Knd}{d:D}{c:D→Tree}(h:bv lf ef (xL k d c)=some r):bv lf ef (c d)=some r:=by
 unfold xL at h;split at h
 ·rw[tL] at h;unfold HJ at h;split at h
  ·exact h
  ·exact h
  ·cases h
 ·exact fG h
theorem mi{b:Bool}{P:Program}{t:TypeId}{d:D}{c:D→Tree}(h:bv lf ef (tE b P t d c)=some r):bv lf ef (c d)=some r:=by
 unfold tE at h;split at h
 ·exact tM h
 ·exact gH h
theorem kZ{b:Bool}{P:Program}{cs:List D}:∀(ts:List TypeId) (j:Nat) (c:List D→Tree),bv lf ef (oz b P ts cs j c)=some r→
  ∃ds,ds.length=ts.length∧(∀i,i<ts.length→cs[j+i]?=ds[i]?)∧bv lf ef (c ds)=some r
 |[],j,c,h=>⟨[],rfl,(fun i hi=>absurd hi (Nat.not_lt_zero i)),h⟩
 |t::ts,j,c,h=>by
  simp only[oz] at h;obtain⟨d,hd,h⟩:=c7 h;obtain⟨ds,h1,h2,h3⟩:=kZ ts (j+1) _ (mi h);refine⟨d::ds,by simp[h1],fun i hi=> ?_,h3⟩;cases i with
  |zero=>simpa using hd
  |succ i=>
   have:=h2 i (by simpa using hi);simp only[List.getElem?_cons_succ];rw[←this]
   congr 1
   omega
theorem tN{b:Bool}{P:Program}{ts:List TypeId}{d:D}{c:D→Tree}(h:bv lf ef (xM b P ts d c)=some r):bv lf ef (c d)=some r:=by
 unfold xM at h;split at h
 ·exact mi h
 ·rw[oB] at h;unfold cJ at h;split at h
  ·rename_i ts' _ cs;split at h
   ·rename_i hl;obtain⟨ds,h1,h2,h3⟩:=kZ _ _ _ h;have:ds=cs:=by
     apply List.ext_getElem?;intro i;by_cases hi:i<ts.length
     ·rw[←h2 i hi];simp
     ·rw[zd3 (by omega),zd3 (by omega)]
    rw[this] at h3;exact h3
   ·cases h
  ·cases h
theorem vP{t:TypeId}{a:D}{c:D→Tree}(h:bv lf ef (Ck E σ t a c)=some r):∃d,dT E σ t a=some d∧bv lf ef (c d)=some r:=by
 unfold Ck at h;split at h
 ·cases h
 ·rename_i cs off hc;split at h
  ·exact eV h
  ·split at h
   ·rename_i k ks n hk ha hn;split at h
    ·rename_i e;obtain⟨ds,h1,h2,h3⟩:=jT _ _ _ h;have hl:off+n≤cs.length:=by
      have h4:=h2 ks.length (by simp);rw[Nat.add_zero] at h4;have h5:ds[ks.length]?≠none:=by
       rw[Ne,List.getElem?_eq_none_iff];simp at h1;omega
      rw[←h4,Ne,List.getElem?_eq_none_iff] at h5;omega
     refine⟨.agg ds,?_,h3⟩;unfold dT;simp only[hc,ha,hn,if_pos hl]
     congr 2
     apply List.ext_getElem?;intro i;rw[List.getElem?_take,List.getElem?_drop];split
     ·rename_i hi;rw[←h2 i (by simp;omega)];simp
     ·rw[zd3];simp at h1;omega
    ·cases h
   ·rename_i k n hk ha;obtain⟨d,hd,h⟩:=c7 h;refine⟨d,?_,fG h⟩;unfold dT;simp only[hc,ha,hd]
   ·cases h
theorem tO{t:TypeId}{a x:D}{c:D→St→Tree}(h:bv lf ef (xN E σ t a x c)=some r):∃d σ',unit (dN E σ t a x)=some (d,σ')∧bv lf ef (c d σ')=some r:=by
 unfold xN at h;split at h
 ·rename_i s g off;split at h
  ·rename_i e m cs hl;split at h
   ·cases h
   ·rename_i n hn;split at h
    ·rename_i hx;split at h
     ·rename_i hone;split at h
      ·rename_i ds ss hs;split at h
       ·cases h
       ·rename_i hcon;obtain⟨hb,h⟩:=bC h;refine⟨_,_,?_,h⟩;unfold dN;have hb':off+n≤cs.length:=by simpa using hb
        simp only[hn,hl,hx,if_true,hone,Bool.and_true,hs,hb',decide_true,if_neg hcon];rfl
      ·cases h
     ·cases h
    ·cases h
  ·exact c8 h
 ·cases h
theorem vQ{dst:Option Tmp}{t:TypeId}{a:D}{c:D→St→Tree}(h:bv lf ef (Cl E σ dst t a c)=some r):∃d σ',jC E σ dst t a=some (d,σ')∧bv lf ef (c d σ')=some r:=by
 unfold Cl at h;unfold jC;split at h
 ·rename_i s g off dd ha;split at h
  ·rename_i e er nr cs hl;obtain⟨d,hd,h⟩:=c7 h;rw[tL] at h;cases d with
   |nils=>exact⟨.nils,σ,by simp only[ha,hl,hd],h⟩
   |slc f len rs=>
    obtain⟨hf,h⟩:=bC (h:bv lf ef (.chk _ _)=some r);have hf:f=false:=by simpa using hf
    subst hf;split at h
    ·rename_i hlt;exact⟨_,_,by simp only[ha,hl,hd,if_pos hlt],h⟩
    ·cases h
   |_=>cases h
  ·cases h
 ·cases h
theorem vR{t:TypeId}{a x:D}{c:D→St→Tree}(h:bv lf ef (Cm E σ t a x c)=some r):∃d σ',unit (nt E σ t a x)=some (d,σ')∧bv lf ef (c d σ')=some r:=by
 unfold Cm at h;unfold nt;split at h
 ·rename_i s g off s2 g2 len;split at h
  ·rename_i e er nr cs er' nr' rs hn hl hl2;split at h
   ·rename_i hc;obtain⟨hlt,h⟩:=bC h;have hlt:off<cs.length:=by simpa using hlt
    exact⟨_,_,by simp only[hn,hl,hl2,if_pos (show er'=er∧nr'=nr∧off<cs.length from⟨hc.1,hc.2,hlt⟩)];rfl,h⟩
   ·cases h
  ·cases h
 ·cases h
theorem m6{t:TypeId}{x i:D}{c:D→Tree}(h:bv lf ef (ly E t x i c)=some r):∃d,fy E t x i=some d∧bv lf ef (c d)=some r:=by
 unfold ly at h;unfold fy;split at h
 ·split at h
  ·rename_i e hu;split at h
   ·cases h
   ·rename_i k hk;simp only[hu,hk];split at h
    ·obtain⟨hb,h⟩:=bC h;exact⟨_,if_pos (by simpa using hb),h⟩
    ·obtain⟨hb,h⟩:=bC h;exact⟨_,if_pos (by simpa using hb),h⟩
    ·obtain⟨hb,h⟩:=bC h;exact⟨_,if_pos (by simpa using hb),h⟩
    ·cases h
  ·rename_i len e hu;split at h
   ·cases h
   ·rename_i k hk;simp only[hu,hk];split at h
    ·obtain⟨hb,h⟩:=bC h;exact⟨_,if_pos (by simpa using hb),h⟩
    ·obtain⟨hb,h⟩:=bC h;exact⟨_,if_pos (by simpa using hb),h⟩
    ·cases h
  ·cases h
 ·cases h
theorem nY{dst:Option Tmp}{e:TypeId}{n by_ m:Nat}{news:List D}{ss:List Nat}{s:D}{c:D→St→Tree}(h:bv lf ef (mY σ dst e n by_ m news ss s c)=some r):
  ∃d σ',cK σ dst e n by_ m news ss s=some (d,σ')∧bv lf ef (c d σ')=some r:=by
 unfold mY at h;split at h
 ·simp only[cK];rcases fX h with⟨hm,h⟩|⟨hm,h⟩
  ·exact⟨_,_,if_pos (by simpa using hm),h⟩
  ·obtain⟨hb,h⟩:=bC h;rw[if_neg (by simpa using hm),if_pos (by simpa using hb)];exact c8 h
 ·rename_i f k olds;rcases fX h with⟨hm,h⟩|⟨hm,h⟩
  ·simp only[cK];exact⟨_,_,if_pos (by simpa using hm),h⟩
  obtain⟨hf,h1⟩:=bC h;subst hf;obtain⟨hb,h2⟩:=bC h1;simp only[cK];rw[if_neg (by simpa using hm),if_pos ⟨trivial,by simpa using hb⟩];exact c8 h2
 ·rename_i s0 g0 k;simp only[cK];split at h
  ·cases h
  ·rename_i hc;rw[if_neg hc];split at h
   ·rename_i e' n' olds hl;split at h
    ·rename_i he;obtain⟨hb,h⟩:=bC h;have hb':(k+m)*by_≤cg∧k+m≤9223372036854775807:=by simpa using hb
     simp only[hl];rw[if_pos ⟨he.1,he.2,hb'.1,hb'.2⟩];exact c8 h
    ·cases h
   ·cases h
 ·cases h
theorem rk{dst:Option Tmp}{t:TypeId}{s x:D}{c:D→St→Tree}(h:bv lf ef (tF E σ dst t s x c)=some r):∃d σ',dJ E σ dst t s x=some (d,σ')∧bv lf ef (c d σ')=some r:=by
 unfold tF at h;unfold dJ;split at h
 ·cases h
 ·rename_i e he;split at h
  ·rename_i n by_ z x' ss hn hby hz hs;split at h
   ·cases h
   ·rename_i m news hnw;split at h
    ·rename_i hc;obtain⟨hb,h⟩:=bC h;obtain⟨ho,h⟩:=bC h;simp only[he,hn,hby,hz,hs,hnw];rw[if_pos ⟨hc.1,hc.2,by simpa using hb,ho⟩];exact nY h
    ·cases h
  ·cases h
theorem m7{dst:Option Tmp}{t:TypeId}{len cap:D}{c:D→St→Tree}(h:bv lf ef (lA E σ dst t len cap c)=some r):∃d σ',dg E σ dst t len cap=some (d,σ')∧bv lf ef (c d σ')=some r:=by
 unfold lA at h;unfold dg;split at h
 ·rename_i he;split at h
  ·rename_i n by_ z hn hby hz;split at h
   ·rename_i hc;obtain⟨hb,h⟩:=bC h;simp only[he,hn,hby,hz];rw[if_pos (by simp[hc.1,hc.2.1,hc.2.2];simpa using hb)];split at h
    ·rename_i hq;simp only[hq];exact c8 h
    ·rename_i hq;simp only[hq];exact c8 h
   ·cases h
  ·cases h
 ·cases h
theorem tP{t:TypeId}{x:D}{lo hi:Option D}{c:D→St→Tree}(h:bv lf ef (xO E σ t x lo hi c)=some r):∃d σ',dn E σ t x lo hi=some (d,σ')∧bv lf ef (c d σ')=some r:=by
 unfold xO at h;split at h
 ·exact c8 h
 ·rename_i e he;split at h
  ·rename_i y hy;unfold dn pc;simp only[he,hy];split at h
   ·rename_i n l hh hn hl hhi;split at h
    ·rename_i hpos;obtain⟨hb,h⟩:=bC h;simp only[hn,hl,hhi];rw[if_pos ⟨hpos,by simpa using hb⟩];exact⟨_,_,rfl,h⟩
    ·cases h
   ·cases h
  rename_i hy;split at h
  ·rename_i n full len cs ss hn hs;unfold dn;simp only[he,hy,hn,hs];split at h
   ·rename_i l hh hl hhi;obtain⟨hb,h⟩:=bC h;simp only[hl,hhi];rw[if_pos (by simpa using hb)];exact⟨_,_,rfl,h⟩
   ·cases h
  ·rename_i hn hs;unfold dn;simp only[he,hy,hn,hs];split at h
   ·rename_i l hh hl hhi;obtain⟨hb,h⟩:=bC h;simp only[hl,hhi];rw[if_pos (by simpa using hb)];exact⟨_,_,rfl,h⟩
   ·cases h
  ·exact c8 h
theorem tQ{t:TypeId}{x:D}{c:D→St→Tree}(h:bv lf ef (xP E σ t x c)=some r):∃d σ',fR E σ t x=some (d,σ')∧bv lf ef (c d σ')=some r:=by
 unfold xP at h;unfold fR;split at h
 ·rename_i e y he hy;simp only[he,hy];split at h
  ·rename_i n z e' m cs hn hz hl;simp only[hn,hz,hl];rcases fX h with⟨h0,h⟩|⟨h0,h⟩
   ·rw[if_pos (by simpa using h0)];exact⟨_,_,rfl,h⟩
   ·rw[if_neg (by simpa using h0)];split at h
    ·rename_i hc;obtain⟨hb,h⟩:=bC h;rw[if_pos (by simp only[zc4,zc7];exact⟨hc.1,hc.2,of_decide_eq_true hb⟩)];exact⟨_,_,rfl,h⟩
    ·cases h
  ·cases h
 ·cases h
theorem vS{t:TypeId}{x y:D}{c:D→St→Tree}(h:bv lf ef (Cn E σ t x y c)=some r):∃d σ',iG E σ t x y=some (d,σ')∧bv lf ef (c d σ')=some r:=by
 unfold Cn at h;unfold iG;split at h
 ·rename_i e q y' ss he hq hy;simp only[he,hq,hy];split at h
  ·rename_i n m news e' n' cs hn hw hl;simp only[hn,hw,hl];split at h
   ·rename_i hc;simp only[if_pos hc];split at h
    ·rename_i r hr;simp only[hr];exact c8 h
    ·cases h
   ·rename_i hc;obtain⟨hb,h⟩:=bC h;rw[if_neg hc,if_pos (of_decide_eq_true hb)];exact⟨_,_,rfl,h⟩
  ·cases h
 ·cases h
theorem E3(x y:D):H4 x y=GV x y:=by
 unfold H4;split
 ·rename_i a b;show some (ByteArray.toList a==ByteArray.toList b)=some (a==b);rw[beq_toListBytes]
 ·rfl
theorem zj:∀(xs ys:List D),ER xs ys=uI xs ys
 |[],ys=>by cases ys<;>rfl
 |x::xs,ys=>by
  cases ys with
  |nil=>rfl
  |cons y ys=>
   simp only[ER,uI,E3,zj xs ys];cases GV x y with
   |none=>rfl
   |some b=>cases uI xs ys<;>rfl
theorem AI(k x:D):xQ k x=jr k x:=by
 unfold xQ jr;split
 ·rfl
 ·rename_i a b;show some (ByteArray.toList a==ByteArray.toList b)=some (a==b);rw[beq_toListBytes]
 ·rfl
 ·exact zj _ _
 ·rename_i h1 h2 h3 h4;split
  ·exact absurd rfl (h1 _ _ _ _ rfl)
  ·exact absurd rfl (h2 _ _ rfl)
  ·exact absurd rfl (h3 _ _ rfl)
  ·exact absurd rfl (h4 _ _ rfl)
  ·rfl
theorem nF{k:D}{e:Tree}{c:D→Tree}:∀(ks vs:List D) (i:Nat),bv lf ef (vK k e c ks vs)=some r→(fQ k ks i=some none∧bv lf ef e=some r)∨∃j v,fQ k ks i=some (some (i+j))∧vs[j]?=some v∧bv lf ef (c v)=some r
 |[],vs,i,h=> .inl ⟨rfl,by simpa [vK] using h⟩
 |x::xs,v::vs,i,h=>by
  unfold vK at h;unfold fQ;split at h
  ·rename_i b hb;rw[AI] at hb;rw[hb];cases b with
   |true=>
    rw[tK] at h;exact .inr ⟨0,v,rfl,rfl,h⟩
   |false=>
    rw[tK] at h;rcases nF xs vs (i+1) h with⟨h1,h2⟩|⟨j,u,h1,h2,h3⟩
    ·exact .inl ⟨h1,h2⟩
    ·exact .inr ⟨j+1,u,by rw[show i+(j+1)=i+1+j by omega];exact h1,by simpa using h2,h3⟩
  ·cases h
 |x::xs,[],i,h=>by cases h
theorem rl{t:TypeId}{x k:D}{ok:Bool}{c:D→Tree}(h:bv lf ef (tG E σ t x k ok c)=some r):∃d,eO E σ t x k ok=some d∧bv lf ef (c d)=some r:=by
 unfold tG at h;unfold eO;split at h
 ·cases h
 ·rename_i kt et hm;split at h
  ·rename_i hk;split at h
   ·rename_i ks vs z hmap hz;simp only[hm,hmap,hz,if_pos hk];split at h
    ·rcases nF ks vs 0 h with⟨hf,h⟩|⟨j,v,hf,hv,h⟩
     ·simp only[hf];exact⟨_,rfl,h⟩
     ·rw[Nat.zero_add] at hf;simp only[hf,hv];exact⟨_,rfl,h⟩
    rw[Cv] at h;unfold BE at h;split at h
    ·rename_i i hf;obtain⟨v,hv,h⟩:=c7 h;simp only[hv];have h:=gH h;exact⟨_,rfl,h⟩
    ·rename_i hf;exact⟨_,rfl,h⟩
    ·cases h
   ·cases h
  ·cases h
theorem iq{t:TypeId}{m k v:D}{c:D→St→Tree}(h:bv lf ef (iW E σ t m k v c)=some r):∃d σ',unit (cy E σ t m k v)=some (d,σ')∧bv lf ef (c d σ')=some r:=by
 unfold iW at h;unfold cy;split at h
 ·rename_i kt et s g hm;split at h
  ·rename_i hk;split at h
   ·rename_i ks vs hl;split at h
    ·cases h
    ·rename_i v' ss hs;split at h
     ·cases h
     ·rename_i hc;rw[E2] at h;unfold HN at h;split at h
      ·rename_i ks' vs' hu;simp only[hm,if_pos hk,hl,hs,if_neg hc];unfold KW at hu;split at hu
       ·rename_i i hf;cases hu;simp only[hf];exact⟨_,_,rfl,h⟩
       ·rename_i hf;cases hu;simp only[hf];exact⟨_,_,rfl,h⟩
       ·cases hu
      ·cases h
   ·rename_i ks vs hl;split at h
    ·rename_i hn;simp only[hm,if_pos hk,hl,if_pos hn];exact c8 h
    ·cases h
   ·cases h
  ·cases h
 ·cases h
theorem vT{it:D}{c:D→St→Tree}(h:bv lf ef (Co σ it c)=some r):∃d σ',gR σ it=some (d,σ')∧bv lf ef (c d σ')=some r:=by
 unfold Co at h;unfold gR;split at h
 ·split at h
  ·rename_i b pos hl;simp only[hl];rcases fX h with⟨hb,h⟩|⟨hb,h⟩
   ·rw[if_pos (by simpa using hb)];exact⟨_,_,rfl,h⟩
   ·rw[if_neg (by simpa using hb)];exact⟨_,_,rfl,h⟩
  ·cases h
 ·cases h
theorem pP{d:D}{c:List D→Tree}(h:bv lf ef (.tup d 2 c)=some r):∃cs,d= .tup cs∧cs.length=2∧bv lf ef (c cs)=some r:=by
 rw[oB] at h;unfold cJ at h;split at h
 ·rename_i cs;split at h
  ·rename_i hl;exact⟨cs,rfl,hl,h⟩
  ·cases h
 ·cases h
theorem xV{p:Nat}{g:List D→Option D}{args:List D}{cast:D→(D→Tree)→Tree}(hcast:∀x c,bv lf ef (cast x c)=some r→bv lf ef (c x)=some r){c:D→St→Tree}(h:bv lf ef (HZ σ p g args cast c)=some r):∃d σ',nu σ p g args=some (d,σ')∧bv lf ef (c d σ')=some r:=by
 unfold HZ at h;unfold nu;split at h
 ·rename_i s g0 len hp;split at h
  ·rename_i e n cs hl;simp only[hp,hl];split at h
   ·rename_i ds ss hs;simp only[hs];split at h
    ·cases h
    ·rename_i hc;obtain⟨hpl,z1⟩:=bC h;obtain⟨x,hx,z2⟩:=gG z1;obtain⟨l,hxl,hll,z3⟩:=pP z2;subst hxl;obtain⟨a,ha,z4⟩:=c7 z3;obtain⟨f,m,cs',hae,z5⟩:=slc_inv z4;subst hae;obtain⟨y,hy,z6⟩:=c7 z5;have z7:=hcast _ _ z6;obtain⟨h1,z8⟩:=bC z7;obtain⟨h2,z9⟩:=bC z8;clear h z1 z2 z3 z4 z5 z6 z7 z8;have hle:l=[.slc f m cs',y]:=by
      match l,hll with
      |[u,v],_=>
       simp at ha hy;rw[ha,hy]
     subst hle;have hcc:(ss.contains s|| !cs.all D.plain)=false:=by
      rw[hpl];simpa using hc
     simp only[hcc,Bool.false_eq_true,if_false,hx,h1,h2,Bool.and_self,if_true];exact⟨_,_,rfl,z9⟩
   ·cases h
  ·cases h
 ·cases h
theorem xW{p:Nat}{g:List D→Option D}{args:List D}{cast:D→(D→Tree)→Tree}(hcast:∀x c,bv lf ef (cast x c)=some r→bv lf ef (c x)=some r){c:D→St→Tree}(h:bv lf ef (H0 σ p g args cast c)=some r):∃d σ',nv σ p g args=some (d,σ')∧bv lf ef (c d σ')=some r:=by
 unfold H0 at h;unfold nv;split at h
 ·rename_i x0 hp;split at h
  ·rename_i y0 hy0;split at h
   ·rename_i e n cs hl;simp only[hp,hy0,hl];split at h
    ·rename_i ds ss hs;simp only[hs];split at h
     ·cases h
     ·rename_i hc;obtain⟨hpl,z1⟩:=bC h;obtain⟨hbd,z1⟩:=bC z1;obtain⟨x,hx,z2⟩:=gG z1;obtain⟨l,hxl,hll,z3⟩:=pP z2;subst hxl;obtain⟨a,ha,z4⟩:=c7 z3;obtain⟨f,m,cs',hae,z5⟩:=slc_inv z4;subst hae;obtain⟨y,hy,z6⟩:=c7 z5;have z7:=hcast _ _ z6;obtain⟨h1,z8⟩:=bC z7;obtain⟨h2,z9⟩:=bC z8;clear h z1 z2 z3 z4 z5 z6 z7 z8;have hle:l=[.slc f m cs',y]:=by
       match l,hll with
       |[u,v],_=>
        simp at ha hy;rw[ha,hy]
      subst hle;have hcc:(ss.contains y0.1|| !(0<n&&xb x0 n)|| !(cs.all D.plain&&decide (0<y0.2.2.2∧y0.2.2.1+y0.2.2.2*n≤cs.length)))=false:=by
       rw[hpl,hbd];simpa [Nat.pos_iff_ne_zero] using hc
      simp only[hcc,Bool.false_eq_true,if_false,hx,h1,h2,Bool.and_self,if_true];exact⟨_,_,rfl,z9⟩
    ·cases h
   ·cases h
  ·cases h
 ·cases h
theorem xX{o:Bool}{dst:Option Tmp}{t:Bool}{g:List D→Option D}{args:List D}{c:D→St→Tree}(h:bv lf ef (HY o σ dst t g args c)=some r):∃d σ',lQ o σ dst (BF t g) args=some (d,σ')∧bv lf ef (c d σ')=some r:=by
 unfold HY at h;unfold lQ;split at h
 ·rename_i s g0 len rest;split at h
  ·rename_i e n cs hl;simp only[hl];split at h
   ·rename_i rest' ss hs;simp only[hs];split at h
    ·cases h
    ·rename_i hc;obtain⟨hp,h⟩:=bC h;obtain⟨x,hx,hy⟩:=gG h;obtain⟨f,m,cs',hxe,hz⟩:=slc_inv hy;subst hxe;clear h hy;have h:=hz;clear hz;have hcc:(ss.contains s|| !cs.all (Bz o))=false:=by
      rw[hp];simpa using hc
     simp only[hcc,Bool.false_eq_true,if_false,BF,hx];cases t with
     |false=>
      obtain⟨h1,h⟩:=bC h;obtain⟨h2,h⟩:=bC h;simp only[h1,h2,Bool.and_self,if_true];exact⟨_,_,rfl,h⟩
     |true=>
      obtain⟨h1,h⟩:=bC h;obtain⟨h2,h⟩:=bC h;obtain⟨h3,h⟩:=bC h;have h1':cs'.length=m*n:=by simpa using h1
      simp only[h1',h2,h3,decide_true,Bool.and_self,if_true];obtain⟨d,σ',q1,q2⟩:=c8 h;exact⟨d,σ',q1,q2⟩
   ·cases h
  ·cases h
 ·cases h
theorem xY{dst:Option Tmp}{e:TypeId}{n:Nat}{f:D}{args:List D}{c:D→St→Tree}(h:bv lf ef (H6 E σ dst e n f args c)=some r):∃d σ',jF E σ dst e n f args=some (d,σ')∧bv lf ef (c d σ')=some r:=by
 unfold H6 at h;unfold jF jE fc;split at h
 ·split at h
  ·cases h
  ·rename_i ds ss hs;simp only[hs];obtain⟨x,hx,hy⟩:=gG h;obtain⟨f',len,cs,hxe,hz⟩:=slc_inv hy;subst hxe;clear h hy;have h:=hz;clear hz;rcases fX h with⟨hb,h4⟩|⟨hb,h4⟩
   ·subst hb;simp only[hx];split at h4
    ·exact⟨_,_,rfl,h4⟩
    ·cases h4
   ·subst hb;obtain⟨h1,h5⟩:=bC h4;obtain⟨h2,h6⟩:=bC h5;simp only[hx,h1,h2,Bool.and_self,if_true];obtain⟨d,σ',q1,q2⟩:=c8 h6;exact⟨d,σ',q1,q2⟩
 ·cases h
theorem vU(hcst:∀k ds r,cst k ds=some r→E.call k ds=some r){f:D}{args:List D}{c:D→St→Tree}(h:bv lf ef (Cp E cst σ f args c)=some r):∃d σ',fc E σ f args=some (d,σ')∧bv lf ef (c d σ')=some r:=by
 unfold Cp at h;unfold fc;split at h
 ·split at h
  ·cases h
  ·rename_i ds ss hs;simp only[hs];split at h
   ·rename_i x hx;simp only[hcst _ _ _ hx];exact⟨_,_,rfl,h⟩
   ·obtain⟨x,hx,h⟩:=gG h;simp only[hx];split at h
    ·exact⟨_,_,rfl,gI h⟩
    ·exact⟨_,_,rfl,tN h⟩
 ·cases h
end
section
variable {α:Type}{lf:Option D→Option α}{ef:List D→(Bool→Option α)→Option α}{E:Env}{cst:uF}{σ:St}{r:α}{o:Oper}
theorem ir{op:BinOp}{t ty:TypeId}{x y:Operand}{dx dy:D}{vx vy v:Value}{d:D}(ho:o.op= .binOp op t x y ty)(hx:σ.val E x=some dx)(hy:σ.val E y=some dy)(h1:dx.toV=some vx)(h2:dy.toV=some vy)
  (hg:cb E.P (do eqGuard op t x y vx vy;binOp op t vx vy)=some v) (hd:BA v=some d):dD E σ o=some d:=by
 unfold dD;rw[ho];have e1:dS E σ x=true:=by simp[dS,hx,D.plain,h1]
 have e2:dS E σ y=true:=by simp[dS,hy,D.plain,h2]
 have e3:gh E σ x=vx:=by simp[gh,hx,h1]
 have e4:gh E σ y=vy:=by simp[gh,hy,h2]
 have e5:(Op.binOp op t x y ty).operands.all (dS E σ)=true:=by simp[Op.operands,e1,e2]
 have e6:cb E.P (execOp (gh E σ) o)=some (.value v):=by
  unfold execOp;rw[ho];simp only[e3,e4];have key:∀(s:Sem Value),cb E.P s=some v→cb E.P (do pure (.value (←s)):Sem Next)=some (.value v):=by
   intro s
   induction s with
   |pure b=>intro h;simp only[cb,za0] at h;subst h;rfl
   |program k ih=>intro h;simp only[cb] at h;exact ih _ h
   |mark m k ih=>intro h;simp only[cb] at h;exact ih h
   |_=>intro h;simp[cb] at h
  exact key _ hg
 simp only[e5,if_true,e6,hd]
theorem Cw{t ty:TypeId}{x y:Operand}{k:IntKind}{a b:Int}(ho:o.op= .binOp .quo t x y ty)(hx:σ.val E x=some (.int k a))(hy:σ.val E y=some (.int k b))(hb:b≠0):dD E σ o=some (.int k (k.wrap (a.tdiv b))):=by
 refine ir ho hx hy rfl rfl (v:= .int k (k.wrap (a.tdiv b))) ?_ rfl;simp[eqGuard,binOp,Op.intDiv,hb];rfl
theorem Cx{t ty:TypeId}{x y:Operand}{k:IntKind}{a b:Int}(ho:o.op= .binOp .rem t x y ty)(hx:σ.val E x=some (.int k a))(hy:σ.val E y=some (.int k b))(hb:b≠0):dD E σ o=some (.int k (a.tmod b)):=by
 refine ir ho hx hy rfl rfl (v:= .int k (a.tmod b)) ?_ rfl;simp[eqGuard,binOp,Op.intDiv,hb];rfl
theorem Cy{t ty:TypeId}{x y:Operand}{k k':IntKind}{a b:Int}(ho:o.op= .binOp .shl t x y ty)(hx:σ.val E x=some (.int k a))(hy:σ.val E y=some (.int k' b))(hb:¬b<0):dD E σ o=some (.int k (k.wrap (a*2^(min b.toNat k.bits)))):=by
 refine ir ho hx hy rfl rfl (v:= .int k (k.wrap (a*2^(min b.toNat k.bits)))) ?_ rfl;simp[eqGuard,binOp,Op.shift,hb];rfl
theorem Cz{t ty:TypeId}{x y:Operand}{k k':IntKind}{a b:Int}(ho:o.op= .binOp .shr t x y ty)(hx:σ.val E x=some (.int k a))(hy:σ.val E y=some (.int k' b))(hb:¬b<0):dD E σ o=some (.int k (a.fdiv (2^(min b.toNat k.bits)))):=by
 refine ir ho hx hy rfl rfl (v:= .int k (a.fdiv (2^(min b.toNat k.bits)))) ?_ rfl;simp[eqGuard,binOp,Op.shift,hb];rfl
theorem CA{t ty:TypeId}{x y:Operand}{a b:ByteArray}(ho:o.op= .binOp .add t x y ty)(hx:σ.val E x=some (.str a))(hy:σ.val E y=some (.str b))(hb:¬((a.size+b.size:Nat):Int)>9223372036854775807):dD E σ o=some (.str (a++b)):=by
 refine ir ho hx hy rfl rfl (v:= .string (a++b)) ?_ rfl;have hm:IntKind.i64.max=9223372036854775807:=by decide
 simp only[eqGuard,binOp,Op.stringOp,hm,if_neg hb];rfl
theorem iu{v:Value}{d:D}(hn:∀a b,o.op≠ .select a b)(hall:o.op.operands.all (dS E σ)=true)(he:cb E.P (execOp (gh E σ) o)=some (.value v))(hd:BA v=some d):dD E σ o=some d:=by
 unfold dD;split
 ·rename_i a b h;exact absurd h (hn a b)
 ·simp only[hall,if_true,he,hd]
theorem d8{x:Operand}{d:D}{v:Value}(hx:σ.val E x=some d)(h:d.toV=some v):dS E σ x=true:=by simp[dS,hx,D.plain,h]
theorem eW{x:Operand}{d:D}{v:Value}(hx:σ.val E x=some d)(h:d.toV=some v):gh E σ x=v:=by simp[gh,hx,h]
theorem xZ{t:TypeId}{x i:Operand}{k:IntKind}{s:ByteArray}{n:Int}(ho:o.op= .index t x i)(hu:E.P.underlying t=some .string)(hx:σ.val E x=some (.str s))(hi:σ.val E i=some (.int k n))(h0:0≤n)(hn:n.toNat<s.size):
  dD E σ o=some (.int .u8 (bB s n.toNat)):=by
 have e1:=d8 hx (v:= .string s) rfl;have e2:=d8 hi (v:= .int k n) rfl;have e3:=eW hx (v:= .string s) rfl;have e4:=eW hi (v:= .int k n) rfl;refine iu (v:= .int .u8 (bB s n.toNat)) (by rw[ho];intro a b h;cases h) (by rw[ho];simp[Op.operands,e1,e2]) ?_ rfl;unfold execOp;rw[ho];simp only[e3,e4,bz,Instr.index,asIntOf,cN,Option.bind_some,bI hu];have hg:s[n.toNat]?=some s[n.toNat]:=by simp[hn]
 simp only[if_pos h0,hg,bB];rfl
theorem sw:∀(cs:List D),cs.all ze=true→∃vs,cZ D.flat? cs=some vs∧vs.length=cs.length∧∀(j:Nat) (d:D),cs[j]?=some d→∃v,vs[j]?=some v∧BA v=some d
 |[],_=>⟨[],rfl,rfl,fun j d h=>by simp at h⟩
 |c::cs,h=>by
  simp only[List.all_cons,zc4] at h;obtain⟨vs,h1,h2,h3⟩:=sw cs h.2;cases c<;>simp[ze] at h;rename_i s;refine⟨.string s::vs,by simp[cZ,D.flat?,h1],by simp[h2],fun j d hj=> ?_⟩;cases j with
  |zero=>simp at hj;subst hj;exact⟨.string s,rfl,rfl⟩
  |succ j=>simpa using h3 j d (by simpa using hj)
theorem vV{t e:TypeId}{x i:Operand}{k:IntKind}{cs:List D}{n:Int}{len:Nat}{d:D}(ho:o.op= .index t x i)(hu:E.P.underlying t=some (.array len e))(he:E.P.underlying e=some .string)(hz:sz E.P e=some 1)(hs:cs.all ze=true)
  (hx:σ.val E x=some (.agg cs)) (hi:σ.val E i=some (.int k n)) (h0:0≤n) (hn:n<len) (hd:cs[n.toNat]?=some d):dD E σ o=some d:=by
 obtain⟨vs,h1,h2,h3⟩:=sw cs hs;obtain⟨v,hv,hvd⟩:=h3 _ _ hd;have e1:=d8 hx (v:= .agg vs.toArray) (by simp[D.toV,D.toV1,h1]);have e2:=d8 hi (v:= .int k n) rfl;have e3:=eW hx (v:= .agg vs.toArray) (by simp[D.toV,D.toV1,h1]);have e4:=eW hi (v:= .int k n) rfl;refine iu (v:=v) (by rw[ho];intro a b h;cases h) (by rw[ho];simp[Op.operands,e1,e2]) ?_ hvd;have hsz:cb E.P (sizeOf e)=some 1:=by
  unfold sz at hz;split at hz
  ·rename_i inf hinf;rw[←Option.some.inj hz];have ht:cb E.P (typeInfo e)=some inf:=by
    unfold typeInfo;simp only[program,bz];show cb E.P _=_;simp[hinf];rfl
   unfold sizeOf;simp only[bz,ht,Option.bind_some];rfl
  ·cases hz
 have hag:cb E.P (isAgg e)=some false:=by
  unfold isAgg;simp only[bz,bI he,Option.bind_some];rfl
 have hpart:cb E.P (part e vs.toArray (n.toNat*1))=some v:=by
  unfold part;simp only[bz,hag,Option.bind_some];have hg:vs.toArray[n.toNat*1]?=some v:=by simpa using hv
  simp only[hg];rfl
 unfold execOp;rw[ho];simp only[e3,e4,bz,Instr.index,asIntOf,cN,Option.bind_some,bI hu];rw[if_pos ⟨h0,hn⟩];simp only[bz,hsz,Option.bind_some,hpart]
theorem eB{P:Program}{k:IntKind}{n:Int}{y:Nat}{c:BoundsCode}(h0:0≤n)(h1:n≤y):cb P (Instr.sliceBound (.int k n) y c)=some n.toNat:=by
 simp only[Instr.sliceBound,asIntOf,bz,cN,Option.bind_some];rw[if_pos ⟨h0,h1⟩];rfl
theorem nG{x:Option Operand}{l:Option D}(h:dA E σ x=some l):(x=none∧l=none)∨∃y d,x=some y∧l=some d∧σ.val E y=some d:=by
 unfold dA at h;split at h
 ·cases h;exact .inl ⟨rfl,rfl⟩
 ·rename_i y;split at h
  ·rename_i d hd;cases h;exact .inr ⟨y,d,rfl,rfl,hd⟩
  ·cases h
theorem gJ{n:Nat}{d:D}{l:Int}(h:cR n (some d)=some l):∃k,d= .int k l:=by
 cases d<;>simp[cR] at h;subst h;exact⟨_,rfl⟩
theorem x8{t:TypeId}{x:Operand}{lo hi:Option Operand}{s:ByteArray}{dl dh:Option D}{l h:Int}(ho:o.op= .slice t x lo hi none)(hu:E.P.underlying t=some .string)(hx:σ.val E x=some (.str s))
  (hlo:dA E σ lo=some dl) (hhi:dA E σ hi=some dh) (hl:cR 0 dl=some l) (hh:cR s.size dh=some h) (h0:0≤l) (h1:l≤h) (h2:h≤s.size):dD E σ o=some (.str (s.extract l.toNat h.toNat)):=by
 have e1:=d8 hx (v:= .string s) rfl;have e3:=eW hx (v:= .string s) rfl;have hb:h.toNat≤s.size:=by omega
 have hc:((h.toNat:Nat):Int)=h:=by omega
 rcases nG hlo with⟨rfl,rfl⟩|⟨yl,xl,rfl,rfl,hvl⟩<;>rcases nG hhi with⟨rfl,rfl⟩|⟨yh,xh,rfl,rfl,hvh⟩
 ·simp only[cR,za0] at hl hh;subst hl hh;refine iu (v:= .string (s.extract 0 s.size)) (by rw[ho];intro a b h;cases h) (by rw[ho];simp[Op.operands,e1]) ?_ rfl;unfold execOp;rw[ho];simp only[Option.map_none,e3,Instr.sliceAt,Instr.slice,Instr.sliceBounds,bz,bI hu,Option.bind_some,cN,Option.isSome_none];rfl
 ·simp only[cR,za0] at hl;subst hl;obtain⟨k,rfl⟩:=gJ hh;have e4:=eW hvh (v:= .int k h) rfl;have e5:=d8 hvh (v:= .int k h) rfl;refine iu (v:= .string (s.extract 0 h.toNat)) (by rw[ho];intro a b h;cases h) (by rw[ho];simp[Op.operands,e1,e5]) ?_ rfl;unfold execOp;rw[ho];simp only[Option.map_none,Option.map_some,e3,e4,Instr.sliceAt,Instr.slice,Instr.sliceBounds,bz,bI hu,Option.bind_some,cN,Option.isSome_none,Bool.false_eq_true,if_false,eB h1 h2]
 ·simp only[cR,za0] at hh;subst hh;obtain⟨k,rfl⟩:=gJ hl;have e4:=eW hvl (v:= .int k l) rfl;have e5:=d8 hvl (v:= .int k l) rfl;refine iu (v:= .string (s.extract l.toNat s.size)) (by rw[ho];intro a b h;cases h) (by rw[ho];simp[Op.operands,e1,e5]) ?_ rfl;unfold execOp;rw[ho];simp only[Option.map_none,Option.map_some,e3,e4,Instr.sliceAt,Instr.slice,Instr.sliceBounds,bz,bI hu,Option.bind_some,cN,Option.isSome_none,Bool.false_eq_true,if_false,eB h0 h1]
 ·obtain⟨k,rfl⟩:=gJ hl;obtain⟨k',rfl⟩:=gJ hh;have e4:=eW hvl (v:= .int k l) rfl;have e5:=d8 hvl (v:= .int k l) rfl;have e6:=eW hvh (v:= .int k' h) rfl;have e7:=d8 hvh (v:= .int k' h) rfl;refine iu (v:= .string (s.extract l.toNat h.toNat)) (by rw[ho];intro a b h;cases h) (by rw[ho];simp[Op.operands,e1,e5,e7]) ?_ rfl;unfold execOp;rw[ho];have h3:0≤h:=by omega
  have h4:l≤((h.toNat:Nat):Int):=by omega
  simp only[Option.map_none,Option.map_some,e3,e4,e6,Instr.sliceAt,Instr.slice,Instr.sliceBounds,bz,bI hu,Option.bind_some,cN,Option.isSome_none,Bool.false_eq_true,if_false,eB h3 h2,eB h0 h4]
theorem gX{P:Program}(d:Nat){vx vy:Array Value}:∀(fs:List Field) (i:Nat) (ks:List Knd),pM P i fs=some ks→∀(xs ys:List D) (q:Bool),nE ks xs ys=some q→
  (∀(j:Nat) (e:D),xs[j]?=some e→∃v,vx[i+j]?=some v∧e.flat?=some v)→(∀(j:Nat) (e:D),ys[j]?=some e→∃v,vy[i+j]?=some v∧e.flat?=some v)→
  cb P (Op.eqFields (d+1) vx vy fs)=some q
 |[],i,ks,h,xs,ys,q,hq,_,_=>by
  simp only[pM,za0] at h;subst h;unfold nE at hq;split at hq<;>first|(cases hq;rfl)|(simp at*)|cases hq
 |f::fs,i,ks,h,xs,ys,q,hq,hx,hy=>by
  unfold pM at h;split at h
  ·rename_i hf;obtain⟨rfl,hn⟩:=hf;have step:∀(d0:D) (e0:D) (xs' ys':List D) (q' b:Bool) (ks':List Knd) (td:TypeDesc) (va vb:Value),xs=d0::xs'→ys=e0::ys'→pM P (f.offset+1) fs=some ks'→nE ks' xs' ys'=some q'→q=(b&&q')→
     P.underlying f.type=some td→(∀fs,td≠ .struct fs)→(∀n e,td≠ .array n e)→d0.flat?=some va→e0.flat?=some vb→cb P (Op.equalIn (d+1) f.type va vb)=some b→cb P (Op.eqFields (d+1) vx vy (f::fs))=some q:=by
    intro d0 e0 xs' ys' q' b ks' td va vb ex ey h1 h2 hqq hu t1 t2 f1 f2 he;subst ex ey hqq;obtain⟨v,hv1,hv2⟩:=hx 0 d0 rfl;obtain⟨u,hu1,hu2⟩:=hy 0 e0 rfl;rw[f1] at hv2;rw[f2] at hu2;cases hv2;cases hu2;rw[Nat.add_zero] at hv1 hu1;have ih:=gX d fs (f.offset+1) ks' h1 xs' ys' q' h2 (fun j e hj=>by
     have:=hx (j+1) e (by simpa using hj)
     rwa [show f.offset+(j+1)=f.offset+1+j by omega] at this) (fun j e hj=>by
     have:=hy (j+1) e (by simpa using hj)
     rwa [show f.offset+(j+1)=f.offset+1+j by omega] at this)
    simp only[Op.eqFields,if_pos hn,bz,mT hu t1 t2 hv1,mT hu t1 t2 hu1,Option.bind_some,he,jL,ih];cases b
    ·rfl
    ·simp
   have hmat:∀(td:TypeDesc) (ks':List Knd),P.underlying f.type=some td→pM P (f.offset+1) fs=some ks'→(∃k,td= .int k∧ks= .int k::ks')∨(td= .bool∧ks= .bool::ks')∨(td= .string∧ks= .str::ks')→cb P (Op.eqFields (d+1) vx vy (f::fs))=some q:=by
    intro td ks' hu h1 hk;rcases hk with⟨k,rfl,rfl⟩|⟨rfl,rfl⟩|⟨rfl,rfl⟩
    ·unfold nE at hq;split at hq
     ·rename_i hh;cases hh
     ·rename_i k0 ks0 k1 a xs' k2 b ys' hh;cases hh;split at hq
      ·rename_i hkk;obtain⟨rfl,rfl⟩:=hkk;split at hq
       ·rename_i q' hq';cases hq;exact step _ _ xs' ys' q' _ ks' _ (.int _ a) (.int _ b) rfl rfl h1 hq' rfl hu (fun _ e=>by cases e) (fun _ _ e=>by cases e) rfl rfl (by simp[Op.equalIn,bz,bI hu];rfl)
       ·cases hq
      ·cases hq
     ·rename_i hh;cases hh
     ·rename_i hh;cases hh
     ·cases hq
    ·unfold nE at hq;split at hq
     ·rename_i hh;cases hh
     ·rename_i hh;cases hh
     ·rename_i ks0 a xs' b ys' hh;cases hh;split at hq
      ·rename_i q' hq';cases hq;exact step _ _ xs' ys' q' _ ks' _ (.bool a) (.bool b) rfl rfl h1 hq' rfl hu (fun _ e=>by cases e) (fun _ _ e=>by cases e) rfl rfl (by simp[Op.equalIn,bz,bI hu];rfl)
      ·cases hq
     ·rename_i hh;cases hh
     ·cases hq
    ·unfold nE at hq;split at hq
     ·rename_i hh;cases hh
     ·rename_i hh;cases hh
     ·rename_i hh;cases hh
     ·rename_i ks0 a xs' b ys' hh;cases hh;split at hq
      ·rename_i q' hq';cases hq;exact step _ _ xs' ys' q' _ ks' _ (.string a) (.string b) rfl rfl h1 hq' rfl hu (fun _ e=>by cases e) (fun _ _ e=>by cases e) rfl rfl (by
        rw[←beq_toListBytes];simp[Op.equalIn,bz,bI hu];rfl)
      ·cases hq
     ·cases hq
   split at h
   ·rename_i k ks' hu h1;cases h;exact hmat _ ks' hu h1 (.inl ⟨k,rfl,rfl⟩)
   ·rename_i ks' hu h1;cases h;exact hmat _ ks' hu h1 (.inr (.inl ⟨rfl,rfl⟩))
   ·rename_i ks' hu h1;cases h;exact hmat _ ks' hu h1 (.inr (.inr ⟨rfl,rfl⟩))
   ·cases h
  ·cases h
theorem mj{P:Program}:∀(fs:List Field) (i:Nat) (ks:List Knd),pM P i fs=some ks→ks.length=fs.length
 |[],i,ks,h=>by
  simp only[pM,za0] at h;subst h;rfl
 |f::fs,i,ks,h=>by
  unfold pM at h;split at h
  ·split at h
   ·rename_i h1;cases h;rw[za7,za7,mj fs _ _ h1]
   ·rename_i h1;cases h;rw[za7,za7,mj fs _ _ h1]
   ·rename_i h1;cases h;rw[za7,za7,mj fs _ _ h1]
   ·cases h
  ·cases h
theorem E4:∀(k1 k2:List Knd) (xs ys:List D) (q:Bool),nE (k1++k2) xs ys=some q→∃x1 x2 y1 y2 q1 q2,xs=x1++x2∧ys=y1++y2∧x1.length=k1.length∧y1.length=k1.length∧nE k1 x1 y1=some q1∧nE k2 x2 y2=some q2∧q=(q1&&q2):=by
 intro k1
 induction k1 with
 |nil=>exact fun k2 xs ys q h=>⟨[],xs,[],ys,true,q,rfl,rfl,rfl,rfl,rfl,h,rfl⟩
 |cons k k1 ih=>
  intro k2 xs ys q h;rw[List.cons_append] at h;unfold nE at h;split at h
  ·rename_i hh;cases hh
  ·rename_i hh;cases hh;split at h
   ·rename_i hk;split at h
    ·rename_i q' hq';cases h;obtain⟨x1,x2,y1,y2,q1,q2,rfl,rfl,e1,e2,e3,e4,rfl⟩:=ih k2 _ _ _ hq';refine⟨_::x1,x2,_::y1,y2,_,q2,rfl,rfl,by simp[e1],by simp[e2],by unfold nE;rw[if_pos hk,e3],e4,(Bool.and_assoc ..).symm⟩
    ·cases h
   ·cases h
  ·rename_i hh;cases hh;split at h
   ·rename_i q' hq';cases h;obtain⟨x1,x2,y1,y2,q1,q2,rfl,rfl,e1,e2,e3,e4,rfl⟩:=ih k2 _ _ _ hq';refine⟨_::x1,x2,_::y1,y2,_,q2,rfl,rfl,by simp[e1],by simp[e2],by unfold nE;rw[e3],e4,(Bool.and_assoc ..).symm⟩
   ·cases h
  ·rename_i hh;cases hh;split at h
   ·rename_i q' hq';cases h;obtain⟨x1,x2,y1,y2,q1,q2,rfl,rfl,e1,e2,e3,e4,rfl⟩:=ih k2 _ _ _ hq';refine⟨_::x1,x2,_::y1,y2,_,q2,rfl,rfl,by simp[e1],by simp[e2],by unfold nE;rw[e3],e4,(Bool.and_assoc ..).symm⟩
   ·cases h
  ·cases h
theorem E5{P:Program}{d:Nat}{vx vy:Array Value}{f:Field}{fs:List Field}{q1 q2:Bool}(h1:cb P (Op.eqFields d vx vy [f])=some q1)(h2:cb P (Op.eqFields d vx vy fs)=some q2):cb P (Op.eqFields d vx vy (f::fs))=some (q1&&q2):=by
 simp only[Op.eqFields,jL,bz] at h1 ⊢;split at h1
 ·rename_i hn;rw[if_pos hn];cases ha:cb P (part f.type vx f.offset) with
  |none=>rw[ha] at h1;cases h1
  |some a=>
   rw[ha] at h1;simp only[Option.bind_some] at h1 ⊢;cases hb:cb P (part f.type vy f.offset) with
   |none=>rw[hb] at h1;cases h1
   |some b=>
    rw[hb] at h1;simp only[Option.bind_some] at h1 ⊢;cases hc:cb P (Op.equalIn d f.type a b) with
    |none=>rw[hc] at h1;cases h1
    |some c=>
     rw[hc] at h1;simp only[Option.bind_some] at h1 ⊢;cases c
     ·cases h1;rfl
     ·cases h1;simpa using h2
 ·rename_i hn;rw[if_neg hn];cases h1;simpa using h2
theorem vW{P:Program}{t:TypeId}(h:c5 P t=some true):cb P (isAgg t)=some true:=by
 unfold c5 at h;unfold isAgg;split at h
 ·rename_i hu;simp only[bz,bI hu,Option.bind_some];rfl
 ·rename_i hu;simp only[bz,bI hu,Option.bind_some];rfl
 ·cases h
 ·cases h
theorem vX{P:Program}{t:TypeId}{n:Nat}(h:sz P t=some n):cb P (sizeOf t)=some n:=by
 obtain⟨i,hi,rfl⟩:=km h;simp[sizeOf,typeInfo,bz,iI,hi,cN]
theorem x9{P:Program}{t:TypeId}{n:Nat}(h:c5 P t=some true)(hn:sz P t=some n)(cs:Array Value)(i:Nat):cb P (part t cs i)=some (.agg (cs.extract i (i+n))):=by
 unfold part;simp only[bz,vW h,Option.bind_some,if_true,vX hn,cN]
theorem jU{P:Program}(d:Nat){vx vy:Array Value}:∀(fs:List Field) (i:Nat) (ks:List Knd),pN P i fs=some ks→∀(xs ys:List D) (q:Bool),nE ks xs ys=some q→
  (∀(j:Nat) (e:D),xs[j]?=some e→∃v,vx[i+j]?=some v∧e.flat?=some v)→(∀(j:Nat) (e:D),ys[j]?=some e→∃v,vy[i+j]?=some v∧e.flat?=some v)→
  cb P (Op.eqFields (d+1+1+1) vx vy fs)=some q
 |[],i,ks,h,xs,ys,q,hq,_,_=>by
  simp only[pN,za0] at h;subst h;unfold nE at hq;split at hq<;>first|(cases hq;rfl)|(simp at*)|cases hq
 |f::fs,i,ks,h,xs,ys,q,hq,hx,hy=>by
  have cut:∀(k1 k2:List Knd),ks=k1++k2→pN P (i+k1.length) fs=some k2→(∀(x1 y1:List D) (q1:Bool),nE k1 x1 y1=some q1→x1.length=k1.length→y1.length=k1.length→(∀(j:Nat) (e:D),x1[j]?=some e→∃v,vx[i+j]?=some v∧e.flat?=some v)→(∀(j:Nat) (e:D),y1[j]?=some e→∃v,vy[i+j]?=some v∧e.flat?=some v)→cb P (Op.eqFields (d+1+1+1) vx vy [f])=some q1)→
    cb P (Op.eqFields (d+1+1+1) vx vy (f::fs))=some q:=fun k1 k2 hk h2 h1=>by
   subst hk;obtain⟨x1,x2,y1,y2,q1,q2,rfl,rfl,l1,l2,e1,e2,rfl⟩:=E4 k1 k2 _ _ _ hq;refine E5 (h1 x1 y1 q1 e1 l1 l2 (fun j e hj=>hx j e ?_) (fun j e hj=>hy j e ?_)) (jU d fs (i+k1.length) k2 h2 x2 y2 q2 e2 (fun j e hj=> ?_) fun j e hj=> ?_)
   ·rw[zb9 (zc1.1 hj).1];exact hj
   ·rw[zb9 (zc1.1 hj).1];exact hj
   ·have:=hx (k1.length+j) e (by rw[zb8 (by omega),l1,Nat.add_sub_cancel_left];exact hj)
    rwa [←ze0] at this
   ·have:=hy (k1.length+j) e (by rw[zb8 (by omega),l2,Nat.add_sub_cancel_left];exact hj)
    rwa [←ze0] at this
  unfold pN at h;split at h
  ·rename_i n ha hn;split at h
   ·rename_i gs hu;split at h
    ·rename_i k1 k2 hc hk1 hk2;simp only[zc7] at hc;obtain⟨ho,hnm,hst⟩:=hc;split at h
     ·rename_i hl;cases h;refine cut k1 k2 rfl (by rw[hl];exact hk2) fun x1 y1 q1 e1 l1 l2 hx1 hy1=> ?_;have hfo:P.fieldsOf f.type=gs:=by unfold Program.fieldsOf;rw[hu]
      have hin:cb P (Op.equalIn (d+1+1+1) f.type (.agg (vx.extract i (i+n))) (.agg (vy.extract i (i+n))))=some q1:=by
       rw[iJ (d+1+1) f.type _ _ (by rw[hfo];exact hu) hst,hfo];have ext:∀(vz:Array Value) (z1:List D),z1.length=k1.length→(∀(j:Nat) (e:D),z1[j]?=some e→∃v,vz[i+j]?=some v∧e.flat?=some v)→∀(j:Nat) (e:D),z1[j]?=some e→∃v,(vz.extract i (i+n))[0+j]?=some v∧e.flat?=some v:=fun vz z1 lz hz j e hj=>by
        obtain⟨v,hv,hf⟩:=hz j e hj;have hjl:=(zc1.1 hj).1;refine⟨v,?_,hf⟩;have hlt:=(zc0.1 hv).1;rw[Nat.zero_add,Array.getElem?_extract,if_pos (by omega)];exact hv
       exact gX (d+1) gs.toList 0 k1 hk1 x1 y1 q1 e1 (ext vx x1 l1 hx1) (ext vy y1 l2 hy1)
      simp only[Op.eqFields,if_pos hnm,bz,ho,x9 ha hn,Option.bind_some,hin,jL,cN];cases q1<;>rfl
     ·cases h
    ·cases h
   ·cases h
  ·split at h
   ·rename_i k1 k2 hk1 hk2;cases h;have hl:k1.length=1:=mj [f] i k1 hk1;exact cut k1 k2 rfl (by rw[hl];exact hk2) fun x1 y1 q1 e1 _ _ hx1 hy1=>gX (d+1+1) [f] i k1 hk1 x1 y1 q1 e1 hx1 hy1
   ·cases h
theorem CB:∀(ks:List Knd) (xs ys:List D) (q:Bool),nE ks xs ys=some q→(∃vx,cZ D.flat? xs=some vx)∧∃vy,cZ D.flat? ys=some vy:=by
 intro ks
 induction ks with
 |nil=>
  intro xs ys q h;unfold nE at h;split at h<;>first|exact⟨⟨[],rfl⟩,[],rfl⟩|cases h|(rename_i hh;cases hh)
 |cons k ks ih=>
  intro xs ys q h;have one:∀(a b:D) (va vb:Value) (xs' ys':List D) (q':Bool),a.flat?=some va→b.flat?=some vb→nE ks xs' ys'=some q'→(∃vx,cZ D.flat? (a::xs')=some vx)∧∃vy,cZ D.flat? (b::ys')=some vy:=by
   intro a b va vb xs' ys' q' h1 h2 h3;obtain⟨⟨vx,e1⟩,vy,e2⟩:=ih xs' ys' q' h3;exact⟨⟨va::vx,by simp[cZ,h1,e1]⟩,vb::vy,by simp[cZ,h2,e2]⟩
  unfold nE at h;split at h
  ·rename_i hh;cases hh
  ·rename_i hh;cases hh;split at h
   ·split at h
    ·rename_i q' hq';exact one _ _ _ _ _ _ q' rfl rfl hq'
    ·cases h
   ·cases h
  ·rename_i hh;cases hh;split at h
   ·rename_i q' hq';exact one _ _ _ _ _ _ q' rfl rfl hq'
   ·cases h
  ·rename_i hh;cases hh;split at h
   ·rename_i q' hq';exact one _ _ _ _ _ _ q' rfl rfl hq'
   ·cases h
  ·cases h
theorem m8{f:D→Option Value}:∀{xs:List D} {vs:List Value},cZ f xs=some vs→∀(j:Nat) (e:D),xs[j]?=some e→∃v,vs.toArray[0+j]?=some v∧f e=some v
 |[],vs,_,j,e,he=>by simp at he
 |x::xs,vs,h,j,e,he=>by
  unfold cZ at h;cases h1:f x with
  |none=>rw[h1] at h;cases h
  |some v=>
   cases h2:cZ f xs with
   |none=>rw[h1,h2] at h;cases h
   |some r=>
    rw[h1,h2] at h;cases h;cases j with
    |zero=>simp at he;subst he;exact⟨v,by simp,h1⟩
    |succ j=>
     obtain⟨u,hu1,hu2⟩:=m8 h2 j e (by simpa using he);exact⟨u,by simpa using hu1,hu2⟩
theorem vY{op:BinOp}{t ty:TypeId}{x y:Operand}{a b:List D}{ks:List Knd}{q q':Bool}(hop:(op= .eql∧q'=q)∨(op= .neq∧q'= !q))(ho:o.op= .binOp op t x y ty)(hx:σ.val E x=some (.agg a))(hy:σ.val E y=some (.agg b))(hk:zd E.P t=some ks)(hq:nE ks a b=some q):
  dD E σ o=some (.bool q'):=by
 obtain⟨⟨vx,h1⟩,vy,h2⟩:=CB ks a b q hq;unfold zd at hk;split at hk
 ·rename_i fs hu;split at hk
  ·rename_i hs;have hfo:E.P.fieldsOf t=fs:=by unfold Program.fieldsOf;rw[hu]
   have heq:cb E.P (Op.equal t (.agg vx.toArray) (.agg vy.toArray))=some q:=by
    show cb E.P (Op.equalIn (9999+1) t _ _)=_;rw[iJ 9999 t _ _ (by rw[hfo];exact hu) hs.1,hfo];exact jU 9996 fs.toList 0 ks hk a b q hq (m8 h1) (m8 h2)
   refine ir ho hx hy (vx:= .agg vx.toArray) (vy:= .agg vy.toArray) (by simp[D.toV,D.toV1,h1]) (by simp[D.toV,D.toV1,h2]) (v:= .bool q') ?_ rfl;have hg:cb E.P (eqGuard op t x y (.agg vx.toArray) (.agg vy.toArray))=some ():=by
    unfold eqGuard;rcases hop with⟨rfl,_⟩|⟨rfl,_⟩<;>simp[bz,iI,hs.2,cN]
   rw[bz,hg];rcases hop with⟨rfl,rfl⟩|⟨rfl,rfl⟩
   ·simp only[Option.bind_some,binOp,bz,heq,cN]
   ·simp only[Option.bind_some,binOp,bz,heq,cN]
  ·cases hk
 ·cases hk
theorem gK{c:D→Tree}(h:bv lf ef (su E σ o c)=some r):∃d,dD E σ o=some d∧bv lf ef (c d)=some r:=by
 unfold su at h;split at h
 ·rename_i t x y ty ho;split at h
  ·rename_i k a k' b hx hy;split at h
   ·rename_i e;subst e;obtain⟨hb,h⟩:=bC h;exact⟨_,Cw ho hx hy (by simpa using hb),h⟩
   ·cases h
  ·cases h
 ·rename_i t x y ty ho;split at h
  ·rename_i k a k' b hx hy;split at h
   ·rename_i e;subst e;obtain⟨hb,h⟩:=bC h;exact⟨_,Cx ho hx hy (by simpa using hb),h⟩
   ·cases h
  ·cases h
 ·rename_i t x y ty ho;split at h
  ·rename_i k a k' b hx hy;obtain⟨hb,h⟩:=bC h;exact⟨_,Cy ho hx hy (by simpa using hb),h⟩
  ·cases h
 ·rename_i t x y ty ho;split at h
  ·rename_i k a k' b hx hy;obtain⟨hb,h⟩:=bC h;exact⟨_,Cz ho hx hy (by simpa using hb),h⟩
  ·cases h
 ·rename_i t x y ty ho;split at h
  ·rename_i a b hx hy;obtain⟨hb,h⟩:=bC h;exact⟨_,CA ho hx hy (by simpa using hb),h⟩
  ·exact eV h
 ·rename_i t x y ty ho;split at h
  ·rename_i a b hx hy;split at h
   ·rename_i ks hk;split at h
    ·rename_i q hq;exact⟨_,vY (.inl ⟨rfl,rfl⟩) ho hx hy hk hq,h⟩
    ·cases h
   ·exact eV h
  ·exact eV h
 ·rename_i t x y ty ho;split at h
  ·rename_i a b hx hy;split at h
   ·rename_i ks hk;split at h
    ·rename_i q hq;exact⟨_,vY (.inr ⟨rfl,rfl⟩) ho hx hy hk hq,h⟩
    ·cases h
   ·exact eV h
  ·exact eV h
 ·rename_i t x i ho;split at h
  ·rename_i s k n hu hx hi;obtain⟨hb,h⟩:=bC h;have hb':0≤n∧n.toNat<s.size:=by simpa using hb
   exact⟨_,xZ ho hu hx hi hb'.1 hb'.2,h⟩
  ·rename_i n e cs k i hu hx hi;split at h
   ·rename_i he hz hs;obtain⟨hb,h⟩:=bC h;have hb':0≤i∧i<n:=by simpa using hb
    rw[vM] at h;unfold bc at h;split at h
    ·rename_i d hd;have h:bH d (fun s=>bv lf ef (c (.str s)))=some r:=h;unfold bH at h;split at h
     ·exact⟨_,vV ho hu he hz hs hx hi hb'.1 hb'.2 hd,h⟩
     ·cases h
    ·cases h
   ·cases h
  ·cases h
 ·rename_i t x lo hi ho;split at h
  ·rename_i s dl dh hu hx hlo hhi;split at h
   ·rename_i l hh hl hhd;obtain⟨hb,h⟩:=bC h;have hb':0≤l∧l≤hh∧hh≤s.size:=by simpa using hb
    exact⟨_,x8 ho hu hx hlo hhi hl hhd hb'.1 hb'.2.1 hb'.2.2,h⟩
   ·cases h
  ·cases h
 ·exact eV h
theorem fi{x:Operand}{b:Bool}(h:σ.val E x=some (.bool b)):sv σ x b=σ:=by
 cases x with
 |tmp t=>
  simp only[St.val] at h;obtain⟨h1,h2⟩:=zc1.1 h;simp only[sv,St.know];rw[←h2,List.set_getElem_self]
 |_=>rfl
theorem kp{t:Tmp}{b:Bool}(h:σ.T[t]?=some (.bool b)):σ.know t b=σ:=by
 obtain⟨h1,h2⟩:=zc1.1 h;simp only[St.know];rw[←h2,List.set_getElem_self]
theorem tR{op:BinOp}{t:TypeId}{x y:D}{e:Tree}{c:D→Tree}(h:bv lf ef (xR E op t x y e c)=some r):
  (∃d,dO E op t x y=some d∧bv lf ef (c d)=some r)∨(dO E op t x y=none∧bv lf ef e=some r):=by
 unfold xR at h;have gen:bv lf ef (match dO E op t x y with|some d=>c d|none=>e)=some r→(∃d,dO E op t x y=some d∧bv lf ef (c d)=some r)∨(dO E op t x y=none∧bv lf ef e=some r):=fun h=>by
  split at h
  ·rename_i d hd;exact .inl ⟨d,hd,h⟩
  ·rename_i hn;exact .inr ⟨hn,h⟩
 split at h
 ·rename_i el hu;split at h
  ·obtain⟨hb,h⟩:=bC h;have hb':=of_decide_eq_true hb;unfold dO;simp only[hu,if_pos hb'];split at h
   ·exact .inl ⟨_,rfl,h⟩
   ·exact .inl ⟨_,rfl,h⟩
   ·cases h
  ·obtain⟨hb,h⟩:=bC h;have hb':=of_decide_eq_true hb;unfold dO;simp only[hu,if_pos hb'];split at h
   ·exact .inl ⟨_,rfl,h⟩
   ·exact .inl ⟨_,rfl,h⟩
   ·cases h
  ·exact gen h
 ·exact gen h
theorem sx(hcst:∀k ds r,cst k ds=some r→E.call k ds=some r)(hin:∀k i,E.inl k=some i→xt i){c:D→St→Tree}(h:bv lf ef (Kw E cst σ o c)=some r):∃d σ',cw E σ o=some (d,σ')∧bv lf ef (c d σ')=some r:=by
 have pr:∀{x:Option D},(∃d,x=some d∧bv lf ef (c d σ)=some r)→∃d σ',ep σ x=some (d,σ')∧bv lf ef (c d σ')=some r:=fun⟨d,h1,h2⟩=>⟨d,σ,by rw[h1];rfl,h2⟩;unfold Kw at h;split at h
 ·rename_i x a b ho;unfold cw;simp only[ho];split at h
  ·rename_i t hx;simp only[hx];rcases fX h with⟨rfl,h⟩|⟨rfl,h⟩
   ·obtain⟨d,h1,h2⟩:=eV h;rw[fi hx] at h2;exact pr ⟨d,by simpa using h1,h2⟩
   ·obtain⟨d,h1,h2⟩:=eV h;rw[fi hx] at h2;exact pr ⟨d,by simpa using h1,h2⟩
  ·cases h
 ·rename_i t a ho;unfold cw;simp only[ho];split at h
  ·rename_i d hd;simp only[hd];split at h
   ·rename_i hn;simp only[hn];exact vQ h
   ·rename_i hn;simp only[hn];exact pr (vP h)
  ·cases h
 ·rename_i t a x ho;unfold cw;simp only[ho];split at h
  ·rename_i d y hd hy;simp only[hd,hy];split at h
   ·rename_i hn;simp only[hn];exact vR h
   ·rename_i hn;simp only[hn];exact tO h
  ·cases h
 ·rename_i t x i ho;unfold cw;simp only[ho];split at h
  ·rename_i d j hd hj;simp only[hd,hj];exact pr (m6 h)
  ·cases h
 ·rename_i t x k ok ho;unfold cw;simp only[ho];split at h
  ·rename_i d j hd hj;simp only[hd,hj];exact pr (rl h)
  ·cases h
 ·rename_i t m k v ho;unfold cw;simp only[ho];split at h
  ·rename_i a b d ha hb hd;simp only[ha,hb,hd];exact iq h
  ·cases h
 ·rename_i t m k v ho;unfold cw;simp only[ho];split at h
  ·rename_i a b d ha hb hd;simp only[ha,hb,hd];exact iq h
  ·cases h
 ·rename_i t l k ho;unfold cw;simp only[ho];split at h
  ·rename_i a b ha hb;simp only[ha,hb];exact m7 h
  ·cases h
 ·rename_i t x lo hi mx ho;unfold cw;simp only[ho];split at h
  ·rename_i s hx;simp only[hx];exact pr (gK h)
  ·rename_i d hd hx;split at h
   ·rename_i l hh hl hhi;simp only[hx,hl,hhi];exact tP h
   ·cases h
  ·cases h
 ·rename_i it isS ho;unfold cw;simp only[ho];split at h
  ·rename_i d hd;simp only[hd];exact vT h
  ·cases h
 ·rename_i k ho;split at h
  ·rename_i f hk;unfold cw;simp only[ho,hk];split at h
   ·rename_i g as hg has;simp only[hg,has];split at h
    ·rename_i i hi;simp only[hi];obtain⟨k',hk'⟩:∃k,E.inl k=some i.1:=by
      unfold rI at hi;split at hi
      ·split at hi
       ·rename_i j hj;cases hi;exact⟨_,hj⟩
       ·cases hi
      ·cases hi
     obtain⟨r',H',q1,q2⟩:=hin k' _ hk' lf ef _ _ _ _ h;exact⟨r',⟨σ.T,H'⟩,by unfold rJ;rw[q1],q2⟩
    rename_i hil;simp only[hil];split at h
    ·rename_i en hen;simp only[hen];exact xY h
    ·rename_i hen;simp only[hen];split at h
     ·rename_i hmo;simp only[hmo];exact vU hcst h
     ·rename_i p m hmo;simp only[hmo];exact xV (fun x c hx=>gI hx) h
     ·rename_i p m hmo;simp only[hmo];exact xW (fun x c hx=>gI hx) h
     ·rename_i of' mf hmo;have hmo':∃mu,gQ E g=some mu∧(∀p m,mu≠ .plc p m)∧of'=E.osl∧mf=mu.f:=by
       unfold ph at hmo;split at hmo
       ·split at hmo
        ·cases hmo
        ·cases hmo
       ·split at hmo
        ·split at hmo
         ·cases hmo
         ·cases hmo
        ·cases hmo
       ·rename_i mu hnp hnw hmu;split at hmo
        ·cases hmo;exact⟨mu,hmu,fun p m e=>hnp p m e,rfl,rfl⟩
        ·cases hmo
       ·cases hmo
      obtain⟨mu,hmu,hnp,rfl,rfl⟩:=hmo';simp only[hmo,jG];simp only[hmu] at h;cases mu with
      |fn m=>exact c8 h
      |tab t m=>exact xX h
      |own e n=>cases h
      |plc p m=>cases h
      |plw p m=>cases h
   ·cases h
  ·rename_i hk;unfold cw;simp only[ho,hk];split at h
   ·rename_i s x t u hargs htys;simp only[hargs,htys];split at h
    ·rename_i a b ha hb;simp only[ha,hb];split at h
     ·rename_i e;rw[if_pos e];exact rk h
     ·cases h
    ·cases h
   ·cases h
  ·rename_i hk;unfold cw;simp only[ho,hk];split at h
   ·rename_i x t hargs htys;simp only[hargs,htys];split at h
    ·rename_i d hd;simp only[hd];exact tQ h
    ·cases h
   ·cases h
  ·rename_i hk;unfold cw;simp only[ho,hk];split at h
   ·rename_i x y t t2 hargs htys;simp only[hargs,htys];split at h
    ·rename_i d d' hd hd';simp only[hd,hd'];exact vS h
    ·cases h
   ·cases h
  ·exact c8 h
 ·rename_i op t x y ty ho;split at h
  ·rename_i hside;split at h
   ·rename_i a b ha hb;unfold cw;simp only[ho,ha,hb];rcases tR h with⟨d,h1,h2⟩|⟨h1,h2⟩
    ·simp only[h1];exact⟨_,_,rfl,h2⟩
    ·simp only[h1];exact pr (gK h2)
   ·cases h
  ·rename_i hside;obtain⟨d,h1,h2⟩:=gK h;unfold cw;simp only[ho];have hv:∃a b,σ.val E x=some a∧σ.val E y=some b:=by
    unfold dD at h1;split at h1
    ·cases h1
    ·split at h1
     ·rename_i hall;rw[ho] at hall;simp[Op.operands,dS] at hall;obtain⟨q1,q2⟩:=hall;cases hx:σ.val E x with
      |none=>simp[hx] at q1
      |some a=>cases hy:σ.val E y with
       |none=>simp[hy] at q2
       |some b=>exact⟨a,b,rfl,rfl⟩
     ·cases h1
   obtain⟨a,b,ha,hb⟩:=hv;have hn:dO E op t a b=none:=by
    unfold dO;unfold zf at hside;split
    ·rename_i el hu;simp[hu] at hside
    ·rename_i el hu;simp[hu] at hside
    ·rfl
   simp only[ha,hb,hn];exact pr ⟨d,h1,h2⟩
 ·rename_i t x i ho;unfold cw;simp only[ho];exact pr (gK h)
 ·exact c8 h
theorem m9{α:Type}:∀(l:List α) (c:List α→Tree),tH l c=c l
 |[],_=>rfl
 |x::xs,c=>m9 xs fun ys=>c (x::ys)
theorem gd(σ:St)(c:St→Tree):mZ σ c=c σ:=by
 unfold mZ;rw[m9,m9]
theorem iZ(hcst:∀k ds r,cst k ds=some r→E.call k ds=some r)(hin:∀k i,E.inl k=some i→xt i){ops:Array Oper}{i:Nat}{c:St→Tree}(h:bv lf ef (Cq E cst ops σ i c)=some r):∃σ',gz E ops σ i=some σ'∧bv lf ef (c σ')=some r:=by
 unfold Cq at h;unfold gz;split at h
 ·cases h
 ·rename_i o ho;simp only[ho];unfold lS;split at h
  ·rename_i hg;simp only[hg];obtain⟨d,σ',h1,h2⟩:=sx hcst hin h;simp only[h1];exact⟨_,rfl,h2⟩
  ·rename_i j want hg;simp only[hg];split at h
   ·cases h
   ·rename_i p hp;simp only[hp];split at h
    ·cases h
    ·rename_i t ht;simp only[ht];split at h
     ·rename_i b hb;simp only[hb];have fp:bv lf ef (Kw E cst σ o fun d σ'=>c (σ'.put o.dst d))=some r→∃σ',(match some true with
        |none=>none
        |some false=>some (σ.put o.dst (.tup []))
        |some true=>match cw E σ o with
         |none=>none
         |some (d,σ')=>some (σ'.put o.dst d))=some σ'∧bv lf ef (c σ')=some r:=fun h=>by
       obtain⟨d,σ',h1,h2⟩:=sx hcst hin h;simp only[h1];exact⟨_,rfl,h2⟩
      rcases fX h with⟨hb1,h1⟩|⟨hb1,h1⟩
      ·subst hb1;cases want
       ·simp only[kp hb] at h1;exact⟨_,rfl,h1⟩
       ·simp only[kp hb] at h1;exact fp h1
      ·subst hb1;cases want
       ·simp only[kp hb] at h1;exact fp h1
       ·simp only[kp hb] at h1;exact⟨_,rfl,h1⟩
     ·rename_i l hb;simp only[hb];exact⟨_,rfl,h⟩
     ·rename_i k n hb;simp only[hb];exact⟨_,rfl,h⟩
     ·cases h
theorem dX(hcst:∀k ds r,cst k ds=some r→E.call k ds=some r)(hin:∀k i,E.inl k=some i→xt i){ops:Array Oper}:∀(l:List Nat) (σ:St) (c:St→Tree),bv lf ef (nW E cst ops l σ c)=some r→∃σ',lT E ops l σ=some σ'∧bv lf ef (c σ')=some r
 |[],σ,c,h=>⟨σ,rfl,h⟩
 |i::l,σ,c,h=>by
  simp only[nW] at h;obtain⟨σ1,h1,h2⟩:=iZ hcst hin h;rw[gd] at h2;obtain⟨σ2,h3,h4⟩:=dX hcst hin l σ1 c h2;exact⟨σ2,by simp only[lT,h1];exact h3,h4⟩
theorem nH(hcst:∀k ds r,cst k ds=some r→E.call k ds=some r)(hin:∀k i,E.inl k=some i→xt i){fs:List (Nat×Nat)}{ops:Array Oper}:∀(l:List Nat) (σ:St) (c:St→Tree),bv lf ef (zg E cst fs ops l σ c)=some r→∃σ',da E fs ops l σ=some σ'∧bv lf ef (c σ')=some r
 |[],σ,c,h=>⟨σ,rfl,h⟩
 |i::l,σ,c,h=>by
  simp only[zg] at h;split at h
  ·cases h
  ·rename_i o ho;split at h
   ·rename_i hc;obtain⟨σ1,h1,h2⟩:=iZ hcst hin h;rw[gd] at h2;obtain⟨σ2,h3,h4⟩:=nH hcst hin l σ1 c h2;refine⟨σ2,?_,h4⟩;have:eD E fs ops σ i=some σ1:=by unfold eD;rw[ho];simp only[hc,if_true];exact h1
    simp only[da,this];exact h3
   ·cases h
theorem gL(hcst:∀k ds r,cst k ds=some r→E.call k ds=some r)(hin:∀k i,E.inl k=some i→xt i){ops:Array Oper}:∀(fs:List (Nat×Nat)) (l:List Nat) (σ:St) (c:St→Tree),bv lf ef (zh E cst fs ops l σ c)=some r→∃σ',da E fs ops l σ=some σ'∧bv lf ef (c σ')=some r
 |[],l,σ,c,h=>by
  obtain⟨σ',h1,h2⟩:=dX hcst hin l σ c h;exact⟨σ',(ff ..).trans h1,h2⟩
 |_::_,l,σ,c,h=>nH hcst hin l σ c h
end
end Go.Pd
end
section
namespace Go.Pd
open Go.RowKit
theorem sy{ops:Array Oper}{b:Nat}(h:se ops=some b):b<ops.size∧(∀i∈b::(List.range ops.size).drop (b+1),∀j∈List.range b,kL (Cd ops) i j=true)∧∀i∈(List.range ops.size).drop (b+1),kL (Cd ops) i b=true:=by
 have h1:=List.find?_some h;simp only[KS,zc4,zd7,zc7] at h1;exact⟨h1.2.1.1,h1.2.1.2,h1.2.2⟩
theorem nJ{m b:Nat}(h:b<m):List.range m=List.range b++b::(List.range m).drop (b+1):=by
 apply List.ext_getElem?;intro i;rcases Nat.lt_trichotomy i b with hi|hi|hi
 ·rw[zb9 (by simpa using hi),List.getElem?_range (by omega),List.getElem?_range hi]
 ·subst hi;rw[zb8 (by simp),List.getElem?_range h];simp
 ·rw[zb8 (by simp;omega)];obtain⟨k,rfl⟩:∃k,i=b+(k+1):=⟨i-b-1,by omega⟩;simp only[List.length_range,Nat.add_sub_cancel_left,List.getElem?_cons_succ,List.getElem?_drop]
  congr 1
  omega
section
variable {E:Env}{Fx:Act→Prop}{KK I0:Nat→Prop}{w0:World}{F:Fence}{n:Nat}
theorem CC(hF:Wide F)(hm:E.P.follows .mixedOrders=true)(hcall:EnvOK E)(hgl:Gl E.gl I0 w0)(hI0:∀b,I0 b→KK b)(hKs:∀k,KK k→k<w0.heap.size){ops:Array Oper}{id b:Nat}{ks:List Nat}{fs:List (Nat×Nat)}{Q:Exit→Act→World→Prop}(hfo:nC Fx ops){σ σ1 σ2 σ3:St}{a:Act}{w:World}
  (hok:eT E.P ops (List.range ops.size) ks fs=true) (hbk:Cg ops ks=true) (hb:se ops=some b) (hg:Good Fx KK I0 w0 σ a w) (e1:da (E.stillF fs) fs ops (List.range b) (σ.kill ks)=some σ1) (e2:gz E ops σ1 b=some σ2) (f1:da (E.stillF fs) fs ops ((List.range ops.size).drop (b+1)) σ2=some σ3)
  (hQ:∀a' w',Good Fx KK I0 w0 σ3 a' w'→Q .normal a' w'):(Code.region id ops true).wpIn F n E.P Q a w:=by
 obtain⟨hbs,hb1,hb2⟩:=sy hb;simp only[eT,zc4,zd7,List.mem_range,zc7] at hok;obtain⟨⟨⟨⟨_,_⟩,h3⟩,h4⟩,h5⟩:=hok;have hbk':∀i oi,i∈b::(List.range ops.size).drop (b+1)→ops[i]?=some oi→∀s,oi.dst=some s→s∈ks→False:=fun i oi hi ho s hd hm=>by
  unfold Cg at hbk;rw[hb] at hbk;dsimp only at hbk;have hlt:b<ops.size:=hbs;have hdr:(List.range ops.size).drop b=b::(List.range ops.size).drop (b+1):=by
   rw[List.drop_eq_getElem_cons (by simpa using hlt)];simp
  rw[hdr] at hbk;have:=zd7.1 hbk i hi;rw[ho] at this;dsimp only at this;rw[hd] at this;simp[hm] at this
 have hrs:=nJ hbs;have hfil:(List.range b).filter (dR (Array.replicate ops.size false))=List.range b:=List.filter_eq_self.2 fun i hi=>by
  have:i<ops.size:=by have:=List.mem_range.1 hi;omega
  simp[dR,Array.getD,this]
 refine wpIn_region_any hm (pH (E:=E.stillF fs) (fs:=fs) (Q:=Q) (π1:=List.range b) (π2:=(List.range ops.size).drop (b+1)) (b:=b) (R:=Cd ops) (m:=ops.size-b) hF (hcall.stillF fs) (xE E fs) hgl hI0 hKs hfo
  (fun i hi=>by rw[←hrs];simpa using hi) h3 h4 (by rw[←hrs];exact h5) hb1 (σf:=σ1) ?_ ops.size _ (σ.kill ks) a _ (by simp) (by rw[hfil];simp;omega) ?_ ?_ ?_ (by rw[hfil];exact e1) ((hg.kill ks).drew hKs _))
 ·intro fuel listed a' w' hfu hsz hnil hun hcl hg';have hlist:∀j,j<b→listed.getD j false=true:=fun j hj=>by
   have hn:=List.filter_eq_nil_iff.1 hnil j (by simpa using hj);have hlt:j<listed.size:=by omega
   simp only[dR,Bool.not_eq_true',Bool.not_eq_false] at hn;simp only[Array.getD,hlt,dif_pos] at hn ⊢;exact hn
  obtain⟨fuel,rfl⟩:∃f,fuel=f+1:=⟨fuel-1,by omega⟩;have hRi:∀i,i∈Region.ready .any ops listed→∀j,kL (Cd ops) i j=true→listed.getD j false=true:=fun i hi j hj=>by
   obtain⟨hlt,_,hbef⟩:=ready_iff.1 hi;obtain⟨k,hk,h|h⟩:=ou h3 hlt hj
   ·subst h;exact hbef k hk
   ·exact hcl k (hbef k hk) j h
  have hbl:listed.getD b false=false:=by
   have:=hun b (za4 ..);have hlt:b<listed.size:=by omega
   simp only[dR,Bool.not_eq_true'] at this;simp only[Array.getD,hlt,dif_pos] at this ⊢;exact this
  have hready:b∈Region.ready .any ops listed:=ready_iff.2 ⟨hbs,by
   have:=hun b (za4 ..);simpa [dR] using this,fun k hk=>by
   obtain⟨oi,_,b2,_⟩:=fh (List.range ops.size) [] h5 (List.range b) b _ hrs;rcases b2 k hk with h|h
   ·cases h
   ·exact hlist k (List.mem_range.1 h)⟩
  refine⟨fun hr=>(by rw[hr] at hready;cases hready),fun i hi=> ?_⟩;have hib:i=b:=by
   obtain⟨hlt,hil,_⟩:=ready_iff.1 hi;have hmem:i∈List.range b++b::(List.range ops.size).drop (b+1):=by rw[←hrs];simpa using hlt
   rcases za9.1 hmem with h|h
   ·have h1:=hlist i (List.mem_range.1 h);have hl:i<listed.size:=by omega
    simp only[Array.getD,hl,dif_pos] at h1 hil;rw[hil] at h1;cases h1
   ·rcases List.mem_cons.1 h with h|h
    ·exact h
    ·have h1:=hRi i hi b (hb2 i h);rw[hbl] at h1;cases h1
  subst hib;refine ip hF hcall hgl hI0 hKs hfo hg' e2 fun a2 w2 hg2=> ?_;have hls:∀k,(listed.setIfInBounds i true).getD k false=true↔k=i∨listed.getD k false=true:=fun k=>by
   simp only[Array.getD_eq_getD_getElem?,Array.getElem?_setIfInBounds];by_cases e:i=k
   ·subst e;simp[hsz,hbs]
   ·simp[e,Ne.symm e]
  have hfil2:(List.range ops.size).filter (dR (listed.setIfInBounds i true))=(List.range ops.size).drop (i+1):=by
   have hu:∀k,k<ops.size→dR (listed.setIfInBounds i true) k= !(listed.setIfInBounds i true).getD k false:=fun k hk=>by
    simp[dR,Array.getD,hsz,hk]
   rw[hrs,List.filter_append,List.filter_cons];rw[List.filter_eq_nil_iff.2 (fun k hk=>by
    have hk':=List.mem_range.1 hk;rw[hu k (by omega),(hls k).2 (.inr (hlist k hk'))];simp),hu i hbs,(hls i).2 (.inl rfl)]
   simp only[Bool.not_true,Bool.false_eq_true,if_false,zb7];have hdd:(List.range i++i::(List.range ops.size).drop (i+1)).drop (i+1)=(List.range ops.size).drop (i+1):=by rw[←hrs]
   rw[hdd];refine List.filter_eq_self.2 fun k hk=> ?_;have h1:=hun k (za5 _ hk);obtain⟨hlt⟩:k<ops.size∧True:=⟨by simpa using List.mem_of_mem_drop hk,trivial⟩;have hne:k≠i:=fun e=>by
    subst e;have:=List.nodup_range (n:=ops.size);rw[hrs] at this;have:=(List.nodup_append.1 this).2.1;exact(List.nodup_cons.1 this).1 hk
   rw[hu k hlt];cases hx:(listed.setIfInBounds i true).getD k false with
   |false=>rfl
   |true=>
    rcases(hls k).1 hx with h|h
    ·exact absurd h hne
    ·simp only[dR,Bool.not_eq_true'] at h1;have hl:k<listed.size:=by omega
     simp only[Array.getD,hl,dif_pos] at h1 h;rw[h1] at h;cases h
  refine lv (E:=E.stillF fs) hF (hcall.stillF fs) (hst:=xE E fs) hgl hI0 hKs hfo (π:=List.range ops.size) (ks:=ks) (fs:=fs) (R:=Cd ops) (fun i hi=>by simpa using hi) h3 h4 h5 (fun a3 w3 hg3=>hQ a3 w3 hg3)
   fuel _ σ2 a2 w2 (by simp[hsz]) (by rw[hfil2];simp;omega) ?_ (fun j oj hoj hu s hd hm=>by
    exfalso;have hjr:j∈(List.range ops.size).filter (dR (listed.setIfInBounds i true)):=List.mem_filter.2 ⟨by simpa using (zc0.1 hoj).1,hu⟩;rw[hfil2] at hjr;exact hbk' j oj (za5 _ hjr) hoj s hd hm) (by rw[hfil2];exact f1) hg2
  intro k hk j hj;rcases(hls k).1 hk with rfl|hk
  ·exact(hls j).2 (.inr (hRi k hi j hj))
  ·exact(hls j).2 (.inr (hcl k hk j hj))
 ·intro k hk;exfalso;simp only[Array.getD,Array.size_replicate] at hk;split at hk<;>simp at hk
 ·intro i hi;have:i<ops.size:=by
   have:i∈List.range ops.size:=by rw[hrs];exact za9.2 (.inr hi)
   simpa using this
  simp[dR,Array.getD,this]
 ·intro i oi _ _ _ s _ hm;exact mX ks σ s (.inl hm)
end
section
variable {Te:TE}{Fx:Act→Prop}{KK I0:Nat→Prop}{w0:World}{F:Fence}{n:Nat}
theorem eI{α:Type}{lf:Option D→Option α}{ef:List D→(Bool→Option α)→Option α}{i:Option Norm}{tag:Nat}{σ:St}{R:St→Tree}{r:α}(h:bv lf ef (gF i tag σ R)=some r):∃i' σ1,i=some i'∧σ.norm i'=some σ1∧bv lf ef (R σ1)=some r:=by
 unfold gF at h;split at h
 ·cases h
 ·rename_i i';split at h
  ·cases h
  ·rename_i σ1 hs;exact⟨i',σ1,rfl,hs,h⟩
theorem E6{o:Option (List (List D))}{k:List (List D)→Tree}{r:D}(h:run (.seq o k)=some r):∃ys,o=some ys∧run (k ys)=some r:=by
 cases o with
 |none=>cases h
 |some ys=>exact⟨ys,rfl,h⟩
def Qc(F:Fence)(KK:Nat→Prop)(w0:World):Prop:=∃l r,F=Fence.wide.inRound l∧KK l∧w0.heap[l]?=some (.loop r)
theorem eX(hm:Te.E.P.follows .mixedOrders=true)(hcall:EnvOK Te.E)(hcst:∀k ds r,Te.cst k ds=some r→Te.E.call k ds=some r)(hit:Te.it=none)(hsq:∀g cs ys,Te.sq g cs=some ys→SeqOK Te.E.P Te.E.gl g cs ys){ord:hZ}{N:bA}{d:D}:
  ∀(c:Code) (p:Nat),nD Te.E.P ord c=true→∀(Fx:Act→Prop) (KK I0:Nat→Prop) (w0:World) (F:Fence) (n:Nat),Wide F→(F=Fence.wide∨Qc F KK w0∧tC c=true)→Gl Te.E.gl I0 w0→(∀b,I0 b→KK b)→(∀k,KK k→k<w0.heap.size)→BB Fx c→∀(σ:St) (k:Out→St→Tree) (a:Act) (w:World) (Q:Exit→Act→World→Prop),Good Fx KK I0 w0 σ a w→run (ek Te ord N c p σ k)=some d→
   (∀r σ' a' w',Good Fx KK I0 w0 σ' a' w'→run (k r σ')=some d→Q (AF r) a' w')→c.wpIn F n Te.E.P Q a w
 | .skip,p,_,Fx,KK,I0,w0,F,n,hF,hnr,hgl,hI0,hKs,hfc,σ,k,a,w,Q,hg,he,hQ=>by
  exact wpIn_skip (hQ .norm σ _ _ hg he)
 | .region id ops false,p,_,Fx,KK,I0,w0,F,n,hF,hnr,hgl,hI0,hKs,hfc,σ,k,a,w,Q,hg,he,hQ=>by
  simp only[ek,hit] at he;obtain⟨σ',h1,h2⟩:=dX hcst (fun k i hi=>(hcall.inl k i hi).tr) _ _ _ he;exact wpIn_region (vu hF hcall hgl hI0 hKs hfc _ hg h1 fun a' w' hg'=>hQ .norm σ' a' w' hg' h2)
 | .region id ops true,p,hok,Fx,KK,I0,w0,F,n,hF,hnr,hgl,hI0,hKs,hfc,σ,k,a,w,Q,hg,he,hQ=>by
  simp only[ek,hit] at he;simp only[nD] at hok;split at he
  ·rename_i ho;simp only[ho] at hok;obtain⟨σ',h1,h2⟩:=dX (E:=Te.E.still) hcst (fun _ _ h=>nomatch h) _ _ _ he;exact ox hF hm hcall hgl hI0 hKs (ks:=[]) (fs:=[]) hfc hok hg ((ff ..).trans h1) fun a' w' hg'=>hQ .norm σ' a' w' hg' h2
  ·rename_i i ho;simp only[ho] at hok;split at he
   ·cases he
   rename_i hno;simp only[hno] at hok;split at he
   ·rename_i hbar;simp only[hbar,zc4] at hok;split at he
    ·rename_i b _ hbo;obtain⟨σ1,g1,he⟩:=gL (E:=Te.E.stillF _) hcst (fun _ _ h=>nomatch h) _ _ _ _ he;obtain⟨σ2,g2,he⟩:=dX hcst (fun k i hi=>(hcall.inl k i hi).tr) _ _ _ he;obtain⟨σ3,g3,he⟩:=gL (E:=Te.E.stillF _) hcst (fun _ _ h=>nomatch h) _ _ _ _ he;have g2':gz Te.E ops σ1 b=some σ2:=by
      simp only[lT] at g2;split at g2
      ·cases g2
      ·rename_i σ4 h4;cases g2;exact h4
     exact CC hF hm hcall hgl hI0 hKs hfc hok.1 hok.2 hbo hg g1 g2' g3 fun a' w' hg'=>hQ .norm σ3 a' w' hg' he
    ·cases he
   rename_i hbar;simp only[hbar] at hok;obtain⟨σ',h1,h2⟩:=gL (E:=Te.E.stillF _) hcst (fun _ _ h=>nomatch h) _ _ _ _ he;exact ox hF hm hcall hgl hI0 hKs hfc hok hg h1 fun a' w' hg'=>hQ .norm σ' a' w' hg' h2
 | .seq x y,p,hok,Fx,KK,I0,w0,F,n,hF,hnr,hgl,hI0,hKs,hfc,σ,k,a,w,Q,hg,he,hQ=>by
  simp only[nD,zc4] at hok;simp only[ek] at he;refine wpIn_seq (eX hm hcall hcst hit hsq x (2*p) hok.1 Fx KK I0 w0 F n hF (hnr.imp (fun h=>h) fun h=>⟨h.1,by have h:=h.2;simp only[tC,zc4] at h;exact h.1⟩) hgl hI0 hKs hfc.1 σ _ a w _ hg he fun r σ' a' w' hg' hr=> ?_);cases r with
  |norm=>
   simp only[pO,ET] at hr;split at hr
   ·exact eX hm hcall hcst hit hsq y (2*p+1) hok.2 Fx KK I0 w0 F n hF (hnr.imp (fun h=>h) fun h=>⟨h.1,by have h:=h.2;simp only[tC,zc4] at h;exact h.2⟩) hgl hI0 hKs hfc.2 σ' k a' w' Q hg' hr hQ
   ·obtain⟨i',σ1,_,hs,hr⟩:=eI hr;have hr2:run (ek Te ord N y (2*p+1) σ1 k)=some d:=by
     cases hC:Te.C (2*p+1) with
     |zero=>rw[hC] at hr;cases hr
     |succ m=>rw[hC] at hr;exact hr
    exact eX hm hcall hcst hit hsq y (2*p+1) hok.2 Fx KK I0 w0 F n hF (hnr.imp (fun h=>h) fun h=>⟨h.1,by have h:=h.2;simp only[tC,zc4] at h;exact h.2⟩) hgl hI0 hKs hfc.2 σ1 k a' w' Q (hg'.norm hs) hr2 hQ
  |exit id=>exact hQ (.exit id) σ' a' w' hg' hr
  |ret=>exact hQ .ret σ' a' w' hg' hr
 | .cond c x y,p,hok,Fx,KK,I0,w0,F,n,hF,hnr,hgl,hI0,hKs,hfc,σ,k,a,w,Q,hg,he,hQ=>by
  simp only[nD,zc4] at hok;simp only[ek] at he;obtain⟨I,A,h,hb,hfx⟩:=id hg;split at he
  ·rename_i t hc;rcases fX he with⟨ht,he⟩|⟨ht,he⟩
   ·subst ht;rw[fi hc] at he;exact wpIn_cond_true (bN h (pG hgl hI0 h hb) hc).bool_inv (eX hm hcall hcst hit hsq x (2*p) hok.1 Fx KK I0 w0 F n hF (hnr.imp (fun h=>h) fun h=>⟨h.1,by have h:=h.2;simp only[tC,zc4] at h;exact h.1⟩) hgl hI0 hKs hfc.1 σ k a w Q hg he hQ)
   ·subst ht;rw[fi hc] at he;exact wpIn_cond_false (bN h (pG hgl hI0 h hb) hc).bool_inv (eX hm hcall hcst hit hsq y (2*p+1) hok.2 Fx KK I0 w0 F n hF (hnr.imp (fun h=>h) fun h=>⟨h.1,by have h:=h.2;simp only[tC,zc4] at h;exact h.2⟩) hgl hI0 hKs hfc.2 σ k a w Q hg he hQ)
  ·cases he
 | .block id c,p,hok,Fx,KK,I0,w0,F,n,hF,hnr,hgl,hI0,hKs,hfc,σ,k,a,w,Q,hg,he,hQ=>by
  simp only[nD] at hok;simp only[ek] at he;refine wpIn_block (eX hm hcall hcst hit hsq c (2*p) hok Fx KK I0 w0 F n hF (hnr.imp (fun h=>h) fun h=>⟨h.1,by simpa only[tC] using h.2⟩) hgl hI0 hKs hfc σ _ a w _ hg he fun r σ' a' w' hg' hr=> ?_);cases r with
  |norm=>exact hQ .norm σ' a' w' hg' hr
  |ret=>exact hQ .ret σ' a' w' hg' hr
  |exit i=>
   simp only[ES] at hr;simp only[AF,Exit.inBlock];split at hr
   ·rename_i e;rw[if_pos e];exact hQ .norm σ' a' w' hg' hr
   ·rename_i e;rw[if_neg e];exact hQ (.exit i) σ' a' w' hg' hr
 | .loop c,p,hok,Fx,KK,I0,w0,F,n,hF,hnr,hgl,hI0,hKs,hfc,σ,k,a,w,Q,hg,he,hQ=>by
  simp only[nD] at hok;simp only[ek] at he;obtain⟨i,σ1,hi,hs,he⟩:=eI he;have key:∀(m:Nat) (σ:St) (a:Act) (w:World),Good Fx KK I0 w0 σ a w→run (jt (kY (N p) p (ek Te ord N c (2*p)) k) m σ)=some d→Code.roundsIn F n Te.E.P c Q m a w:=by
   intro m
   induction m with
   |zero=>intro σ a w _ hl;cases hl
   |succ m ih=>
    intro σ a w hg hl;have hl2:run (ek Te ord N c (2*p) σ (pO (fun σ'=>gF (N p) p σ' (jt (kY (N p) p (ek Te ord N c (2*p)) k) m)) k))=some d:=hl;refine eX hm hcall hcst hit hsq c (2*p) hok Fx KK I0 w0 F n hF (hnr.imp (fun h=>h) fun h=>⟨h.1,by simpa only[tC] using h.2⟩) hgl hI0 hKs hfc σ _ a w _ hg hl2 fun r σ' a' w' hg' hr=> ?_;cases r with
    |norm=>
     obtain⟨i',σ2,_,hs2,hr⟩:=eI (show run (gF (N p) p σ' (jt (kY (N p) p (ek Te ord N c (2*p)) k) m))=some d from hr);exact ih σ2 a' w' (hg'.norm hs2) hr
    |exit id=>exact hQ (.exit id) σ' a' w' hg' hr
    |ret=>exact hQ .ret σ' a' w' hg' hr
  exact wpIn_loop_rounds Te.E.L (key Te.E.L σ1 a w (hg.norm hs) he)
 | .exit id,p,_,Fx,KK,I0,w0,F,n,hF,hnr,hgl,hI0,hKs,hfc,σ,k,a,w,Q,hg,he,hQ=>by
  exact wpIn_exit (hQ (.exit id) σ _ _ hg he)
 | .ret,p,_,Fx,KK,I0,w0,F,n,hF,hnr,hgl,hI0,hKs,hfc,σ,k,a,w,Q,hg,he,hQ=>by
  exact wpIn_ret (hQ .ret σ _ _ hg he)
 | .rangeFunc fo ps as bd,p,hok,Fx,KK,I0,w0,F,n,hF,hnr,hgl,hI0,hKs,hfc,σ,k,a,w,Q,hg,he,hQ=>by
  simp only[nD,zc4] at hok;obtain⟨⟨hoa,hob⟩,hna,hnb⟩:=hok;simp only[ek,hit] at he;split at he
  ·rename_i g caps _ hv;split at he
   ·rename_i cs ss hsn;obtain⟨ys,hys,he⟩:=E6 he;obtain⟨i,σ1,hi,hs1,he⟩:=eI he;obtain⟨I,A,h,hb,hfx⟩:=id hg;obtain⟨vx,vy,hev,hx,hy,hrx,hry⟩:=(bN h (pG hgl hI0 h hb) hv).fn_inv;obtain⟨a1,a2,a3⟩:=dK (I:=I) (A:=A) (w:=w) (cr h depth) _ _ _ hsn;obtain⟨hfz,hRf⟩:=h.freeze ss a2.free;have hvx:vx= #[]:=Array.eq_empty_of_size_eq_zero hx.symm;subst hvx;obtain⟨In,A1,hn,tn⟩:=hfz.norm hs1;have hfin:∀(σ':St) (a':Act) (w':World),Good (fun x=>x.tmps=a.tmps∧(x.defers=a.defers∨∃d,x.defers=d::a.defers)) KK I0 w0 σ' a' w'→Good Fx KK I0 w0 σ' a' w':=fun σ' a' w' hg'=>by
     obtain⟨I',A',h',hb',e1,e2⟩:=hg';refine⟨I',A',h',hb',?_⟩;rcases e2 with e2|⟨dd,e2⟩
     ·have:a'=a:=by
       cases a';cases a;simp only at e1 e2;subst e1 e2;rfl
      rw[this];exact hfx
     have:a'={a with defers:=dd::a.defers}:=by
      cases a';cases a;simp only at e1 e2;subst e1 e2;rfl
     rw[this];exact hfc a dd hfx
    have hent:∀fn,∃l dfr mk W1 I1,oy Te.E.P KK I0 In A1 σ1 a w ps as bd F.round fn l dfr mk W1 I1:=fun fn=>by
     rcases hnr with rfl|⟨⟨l0,r0,rfl,hk0,hl0⟩,_⟩
     ·exact vG hn (fun k hk=>zb2 (hKs k hk) hb.size) fn
     ·exact vH hn ((hb.block l0 hk0).trans hl0) fn
    have hFro:∃ro,F={Fence.wide with round:=ro}:=by
     rcases hnr with rfl|⟨⟨l0,r0,rfl,_,_⟩,_⟩
     ·exact⟨none,rfl⟩
     ·exact⟨some l0,rfl⟩
    refine Ci hFro (hsq g cs ys hys) (fo:=fo) hn hb hI0 hKs hgl hent hev (by rw[a1,hy]) (fun j d v hd hv=> ?_) (ps.toList++(cG as++cG bd)) (fun t ht=>za9.2 (.inl (by simpa using ht)))
     (fun i σ=>run (vL (lB Te.E.osl Te.E.P g (N p) p ps.toList (ps.toList++(cG as++cG bd)) (ek Te ord N as (2*p)) (ek Te ord N bd (2*p+1)) k) (fun σ=>k .norm σ) (ys.drop i) σ)=some d) (fun r σ=>run (k r σ)=some d) he ?_ ?_ ?_
    ·obtain⟨d0,hd0,hr0⟩:=a3 j d hd;exact(hr0 v (hry j d0 v hd0 hv)).mono tn.grow fun _ _=>rfl
    ·intro i y σ2 hy hR;have hlt:i<ys.length:=(zc1.1 hy).1;have hdr:ys.drop i=y::ys.drop (i+1):=by
      rw[List.drop_eq_getElem_cons hlt]
      congr 1
      have:=zd2 hlt;rw[hy] at this;exact(Option.some.inj this).symm
     rw[hdr] at hR;obtain⟨Rn,hRn⟩:∃Rn,Rn=vL (lB Te.E.osl Te.E.P g (N p) p ps.toList (ps.toList++(cG as++cG bd)) (ek Te ord N as (2*p)) (ek Te ord N bd (2*p+1)) k) (fun σ=>k .norm σ) (ys.drop (i+1)):=⟨_,rfl⟩;have hR':run (lB Te.E.osl Te.E.P g (N p) p ps.toList (ps.toList++(cG as++cG bd)) (ek Te ord N as (2*p)) (ek Te ord N bd (2*p+1)) k y Rn σ2)=some d:=by rw[hRn];exact hR
     unfold lB at hR';obtain⟨hl1,hR'⟩:=bC hR'
     ·simp only[zc7] at hl1;obtain⟨ds,q1,q2,hR2⟩:=iY _ _ _ hR';split at hR2
      ·rename_i hl2;have hds:ds=y:=by
        apply List.ext_getElem?;intro j;by_cases hj:j<ds.length
        ·rw[←q2 j (by omega)];simp
        ·rw[zd3 (by omega),zd3 (by omega)]
       subst hds;refine⟨by simpa using hl1,fun l Ir Kr wr act hIK hKW hKl hlr hgl' hgd=> ?_⟩;refine eX hm hcall hcst hit hsq as (2*p) hoa (mg a (ps.toList++(cG as++cG bd))) Kr Ir wr (Fence.wide.inRound l) (n-1-1) (.inr ⟨l,rfl⟩) (.inr ⟨by obtain⟨r0,hr0⟩:=hlr;exact⟨l,r0,rfl,hKl,hr0⟩,hna⟩) hgl' hIK hKW (d7 as fun t ht=>za9.2 (.inr (za9.2 (.inl ht)))) _ _ _ _ _ hgd hR2 fun r σ3 a3 w3 hg3 hr=> ?_;cases r with
       |exit id=>cases hr
       |ret=>cases hr
       |norm=>
        refine⟨σ3,hg3,fun wr2 w2 hKW2 hlr2 hgl2 hg2=> ?_⟩;refine eX hm hcall hcst hit hsq bd (2*p+1) hob (mg a (ps.toList++(cG as++cG bd))) Kr Ir wr2 (Fence.wide.inRound l) (n-1-1) (.inr ⟨l,rfl⟩) (.inr ⟨by obtain⟨r0,hr0⟩:=hlr2;exact⟨l,r0,rfl,hKl,hr0⟩,hnb⟩) hgl2 hIK hKW2 (d7 bd fun t ht=>za9.2 (.inr (za9.2 (.inr ht)))) _ _ _ _ _ hg2 hr fun r σ4 a4 w4 hg4 hr4=> ?_;refine⟨r,σ4,rfl,hg4,?_⟩;cases r with
        |exit id=>exact hr4
        |ret=>exact hr4
        |norm=>
         obtain⟨i',σ5,_,hs5,hr5⟩:=eI (show run (gF (N p) p ⟨ic σ4.T (ps.toList++(cG as++cG bd)),σ4.H⟩ Rn)=some d from hr4);exact⟨σ5,Pass.norm hs5,by rw[←hRn];exact hr5⟩
      ·cases hR2
    ·intro σ' a' w' hR hg';rw[List.drop_length] at hR;exact hQ .norm σ' a' w' (hfin _ _ _ hg') hR
    ·intro r σ' a' w' hr hX hg';exact hQ r σ' a' w' (hfin _ _ _ hg') hX
   ·cases he
  ·cases he
 | .scope c,p,hok,Fx,KK,I0,w0,F,n,hF,hnr,hgl,hI0,hKs,hfc,σ,k,a,w,Q,hg,he,hQ=>by
  have hFw:F=Fence.wide:=hnr.elim (fun h=>h) fun h=>by have h:=h.2;simp[tC] at h
  subst hFw;simp only[nD] at hok;simp only[ek] at he;refine wpIn_wide.2 (wp_scope_straight (wpIn_wide.1 (eX hm hcall hcst hit hsq c (2*p) hok Fx KK I0 w0 Fence.wide n hF (.inl rfl) hgl hI0 hKs hfc σ k a w _ hg he fun r σ' a' w' hg' hr=> ?_)));have:=hQ r σ' a' w' hg' hr;cases r<;>exact this
 | .label l,p,_,Fx,KK,I0,w0,F,n,hF,hnr,hgl,hI0,hKs,hfc,σ,k,a,w,Q,hg,he,hQ=>by
  simp only[ek] at he;exact wpIn_label (hQ .norm σ _ _ hg he)
 | .goto _,_,_,_,_,_,_,_,_,_,_,_,_,_,_,_,_,_,_,_,_,he,_=>by simp only[ek] at he;cases he
 | .refuse _,_,_,_,_,_,_,_,_,_,_,_,_,_,_,_,_,_,_,_,_,he,_=>by simp only[ek] at he;cases he
section
variable {I:Nat→Prop}{w:World}{d:D}{v:Value}
theorem RelC.canon0(h:RelC I w d v):RelC I w (canon0 d) v:=by
 cases h<;>first|exact .slcn true|(simp only[Pd.canon0];constructor<;>assumption)
theorem tS{f:D→D}(hf:∀{d v},RelC I w d v→RelC I w (f d) v){cs:List D}{vs:Array Value}(hl:cs.length=vs.size)(hr:∀(j:Nat) (d:D) (v:Value),cs[j]?=some d→vs[j]?=some v→RelC I w d v):
  (cs.map f).length=vs.size∧∀(j:Nat) (d:D) (v:Value),(cs.map f)[j]?=some d→vs[j]?=some v→RelC I w d v:=by
 refine⟨by simpa using hl,fun j d v hd hv=> ?_⟩;rw[zc3] at hd;cases hc:cs[j]? with
 |none=>simp[hc] at hd
 |some x=>
  simp[hc] at hd;subst hd;exact hf (hr j x v hc hv)
theorem RelC.canon1(h:RelC I w d v):RelC I w (canon1 d) v:=by
 cases d with
 |agg cs=>
  cases h with
  |agg _ vs hl hr=>
   obtain⟨h1,h2⟩:=tS (fun h=>h.canon0) hl hr;exact .agg _ _ h1 h2
 |_=>exact h.canon0
theorem RelC.canonS(h:RelC I w d v):RelC I w (Pd.canonS d) v:=by
 cases d with
 |snap cs off=>
  cases h with
  |snap _ _ a us hI hc hr=>
   have key:∀(j:Nat) (d:D),(cs.map Pd.canon0)[j]?=some d→∃d0,cs[j]?=some d0∧d=Pd.canon0 d0:=fun j d hd=>by
    rw[zc3] at hd;cases hc:cs[j]? with
    |none=>simp[hc] at hd
    |some x=>simp[hc] at hd;exact⟨x,rfl,hd.symm⟩
   refine .snap _ _ a us (fun hp=>hI (by simpa using hp)) (fun j d hd=> ?_) fun j d hd=> ?_
   ·obtain⟨d0,h0,_⟩:=key j d hd;exact hc j d0 h0
   ·obtain⟨d0,h0,rfl⟩:=key j d hd;exact(hr j d0 h0).canon0
 |_=>exact h.canon1
theorem RelC.canon2(h:RelC I w d v):RelC I w (canon2 d) v:=by
 cases d with
 |tup cs=>
  cases h with
  |tup _ vs hl hr=>
   obtain⟨h1,h2⟩:=tS (fun h=>h.canonS) hl hr;exact .tup _ _ h1 h2
 |_=>exact h.canonS
end
theorem eY(hm:Te.E.P.follows .mixedOrders=true)(hcall:EnvOK Te.E)(hcst:∀k ds r,Te.cst k ds=some r→Te.E.call k ds=some r)(hit:Te.it=none)(hsq:∀g cs ys,Te.sq g cs=some ys→SeqOK Te.E.P Te.E.gl g cs ys){f:FuncId}{fn:Func}(hf:Te.E.P.funcs[f]?=some fn){ord:hZ}{N:bA}{keep:FinM}(hk:keep≠ .own∧(∀e n,keep≠ .over e n)∧(∀p e n,keep≠ .plc p e n)∧(∀e n,keep≠ .trim e n)∧(∀p e n,keep≠ .plw p e n)∧∀p ks,keep≠ .pbx p ks)(hok:jQ Te.E.P ord fn=true){ds:List D}{r:D}
  (he:bF Te ord N keep fn ds=some r):CallOK Te.E.P Te.E.gl f ds r:=by
 unfold bF at he;split at he
 ·cases he
 ·rename_i c hb;simp only[jQ,hb,zc4,Bool.not_eq_true'] at hok;refine⟨fun vs w=> ?_,fun I w vs hI hgl hl hr=> ?_⟩
  ·unfold callFunc;have hne:¬fn.name= "runtime.NumGoroutine":=by simpa using hok.1
   simp[hf,hne,hb]
  ·refine callsIn_wide.1 (callsIn_of_wp_marks (F:=Fence.wide) (n:=0) hf hb trivial ?_);refine eX hm hcall hcst hit hsq c 1 hok.2 (fun _=>True) (fun x=>x<w.heap.size) I w Fence.wide 0 (.inl rfl) (.inl rfl) hgl hI (fun _ h=>h) (eU c) _ _ _ w _ (vF hI hl hr) he fun o σ a' w' hg hk0=> ?_;obtain⟨I',A',h,hbel,_⟩:=hg;have key:∀d0,qY Te.E σ fn.results.toList=some d0→(r=d0∨r=canon2 d0)→
     LeavesInM Fence.wide 0 Te.E.P fn a'.tmps (fun e w'=>∃v,e= .returned v∧RelC (fun b=>I b∨(w.heap.size≤b∧b<w'.heap.size)) w' r v∧Blw (·<w.heap.size) w w') a'.defers .returning w':=fun d0 h1 h2=>by
    refine sm hI _ I' A' a' w' rfl h hbel h1 ?_;intro J w v hr;rcases h2 with rfl|rfl
    ·exact hr
    ·exact hr.canon2
   cases o with
   |exit i=>cases hk0
   |norm=>
    cases keep with
    |own=>exact absurd rfl hk.1
    |over e n=>exact absurd rfl (hk.2.1 e n)
    |plc p e n=>exact absurd rfl (hk.2.2.1 p e n)
    |trim e n=>exact absurd rfl (hk.2.2.2.1 e n)
    |plw p e n=>exact absurd rfl (hk.2.2.2.2.1 p e n)
    |pbx p ks=>exact absurd rfl (hk.2.2.2.2.2 p ks)
    |raw=>
     simp only[jw] at hk0;split at hk0
     ·rename_i d0 h1;exact key d0 h1 (.inl (Option.some.inj hk0).symm)
     ·cases hk0
    |canon=>
     simp only[jw] at hk0;split at hk0
     ·rename_i d0 h1;exact key d0 h1 (.inr (Option.some.inj hk0).symm)
     ·cases hk0
   |ret=>
    cases keep with
    |own=>exact absurd rfl hk.1
    |over e n=>exact absurd rfl (hk.2.1 e n)
    |plc p e n=>exact absurd rfl (hk.2.2.1 p e n)
    |trim e n=>exact absurd rfl (hk.2.2.2.1 e n)
    |plw p e n=>exact absurd rfl (hk.2.2.2.2.1 p e n)
    |pbx p ks=>exact absurd rfl (hk.2.2.2.2.2 p ks)
    |raw=>
     simp only[jw] at hk0;split at hk0
     ·rename_i d0 h1;exact key d0 h1 (.inl (Option.some.inj hk0).symm)
     ·cases hk0
    |canon=>
     simp only[jw] at hk0;split at hk0
     ·rename_i d0 h1;exact key d0 h1 (.inr (Option.some.inj hk0).symm)
     ·cases hk0
end
def iv(cst:uF)(K:FuncId→Bool)(ev:FuncId→List D→Option D):FuncId→List D→Option D:=fun k ds=>match cst k ds with
 |some r=>some r
 |none=>ev k (match K k with|true=>ds|false=>ds.map canon1)
structure Run where
 P:Program
 gl:Nat→Option D
 X:Ov
 ord:FuncId→Option hZ
 N:FuncId→bA
 K:FuncId→Bool
 cst:uF
 sq:FuncId→List D→Option (List (List D))
 M:FuncId→Option Mu
 L:Nat
 C:Nat→Nat
def Run.te(R:Run)(call:FuncId→List D→Option D):TE:={E:={P:=R.P,gl:=R.gl,call:=call,L:=R.L,wr:=R.M},cst:=R.cst,C:=R.C,sq:=R.sq}
theorem CallOK.canon{P:Program}{gl:Nat→Option D}{k:FuncId}{ds:List D}{r:D}(h:CallOK P gl k (ds.map canon1) r):CallOK P gl k ds r:=by
 refine⟨h.1,fun I w vs hI hgl hl hr=> ?_⟩;obtain⟨h1,h2⟩:=tS (fun h=>h.canon1) hl hr;exact h.2 I w vs hI hgl h1 h2
end Go.Pd
end
