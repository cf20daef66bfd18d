import Derived.Test.YtmhbhlbnlmbhlaaGreatDoorPdFf
section
namespace Go.Pd
open Go.RowKit
def dD(H:List (Nat×Option Ob))(s g:Nat):List PK→List D→List Nat→Option (List D×List (Nat×Ob))
 |[],[],_=>some ([],[])
 | .cl::ks,d::ds,st=>(match dD H s g ks ds st with
  |some q=>some (d::q.1,q.2)
  |none=>none)
 | .slf::ks,.nilp::ds,st=>(match dD H s g ks ds st with
  |some q=>some (.nilp::q.1,q.2)
  |none=>none)
 | .slf::ks,.tup []::ds,st=>(match dD H s g ks ds st with
  |some q=>some (.loc s g 0::q.1,q.2)
  |none=>none)
 | .own _ _::ks,.nils::ds,_::st=>(match dD H s g ks ds st with
  |some q=>some (.nils::q.1,q.2)
  |none=>none)
 | .own e n::ks,.slc false len cs::ds,t::st=>(match dD H s g ks ds st with
  |some q=>some (.own t (bG H t) len::q.1,(t,.arr e n cs false)::q.2)
  |none=>none)
 |_,_,_=>none
def fQ(H:List (Nat×Option Ob)):List (Nat×Ob)→List (Nat×Option Ob)
 |[]=>H
 |p::ps=>fQ (H.set p.1 (bG H p.1+1,some p.2)) ps
def De(c:Array Value):Bool:=match c.toList with
 |[.pointer none,.slice none 0 0]=>true
 |_=>false
theorem FD{c:Array Value}(h:De c=true):c=Ax:=by
 unfold De at h;split at h
 ·rename_i he;rw[←Array.toArray_toList (xs:=c),he];rfl
 ·cases h
def IG(H:List (Nat×Option Ob))(s g:Nat)(T:TypeId)(ks:List PK):Ob→Option (List D×List Nat×List Nat)
 | .box cs false=>if ks.isEmpty then none else Aw H s g ks cs
 | .raw c e=>if De c&&e==T then some ([],[],[]) else none
 |_=>none
def BB(T:TypeId)(ks ks':List PK)(st:List Nat)(p:Nat)(g:List D→Option D)(H:List (Nat×Option Ob))(args:List D):Option (D×List (Nat×Option Ob)):=match args[p]? with
 |some (.loc s g0 0)=>(match bE H s g0 with
  |some o=>(match IG H s g0 T ks o,c6 (ci H depth) (args.set p .nils) with
   |some (cells,os,ss2),some (ds,ss)=>
    if(!(ss++ss2).contains s&&os.all (fun q=> !(ss++ss2).contains q))&&(decide os.Nodup&&(decide st.Nodup&&(!st.contains s&&st.all (fun q=>decide (q<H.length))))) then
     (match g (ds.set p (.agg cells)) with
      |some (.tup [.agg cells',r])=>(match dD (dR (bN H (ss++ss2)) os) s g0 ks' cells' st with
       |some (refs,obs)=>some (r,(fQ (dR (bN H (ss++ss2)) os) obs).set s (g0+1,some (.box refs false)))
       |none=>none)
      |_=>none)
    else none
   |_,_=>none)
  |_=>none)
 |_=>none
def CellR(I:Nat→Prop)(w:World)(b:Nat):PK→Option Gh→D→Value→Prop
 | .cl,o,d,v=>o=none∧RelC I w d v
 | .slf,o,d,v=>o=none∧((d= .nilp∧v= .pointer none)∨(d= .tup []∧v= .pointer (some ⟨b,0,none⟩)))
 | .own _ _,none,d,v=>d= .nils∧v= .slice none 0 0
 | .own e n,some x,d,v=>∃cs c,d= .slc false x.len cs∧v= .slice (some ⟨x.b,0,none⟩) x.len x.cap∧w.heap[x.b]?=some (.cells c e (0,0))∧c.size=x.cap*n∧x.cap≤maxLen∧x.len≤x.cap∧cs.length=x.len*n∧
   ∀(j:Nat) (d:D) (v:Value),cs[j]?=some d→c[j]?=some v→RelC I w d v
theorem CellR.mono{I I':Nat→Prop}{w:World}{b:Nat}{κ:PK}{o:Option Gh}{d:D}{v:Value}(h:CellR I w b κ o d v)(hI:∀b,I b→I' b):CellR I' w b κ o d v:=by
 cases κ with
 |cl=>exact⟨h.1,h.2.mono hI fun _ _=>rfl⟩
 |slf=>exact h
 |own e n=>
  cases o with
  |none=>exact h
  |some x=>
   obtain⟨cs,c,h1,h2,h3,h4,h5,h6,h7,h8⟩:=h;exact⟨cs,c,h1,h2,h3,h4,h5,h6,h7,fun j d v hd hv=>(h8 j d v hd hv).mono hI fun _ _=>rfl⟩
structure PbxE(I:Nat→Prop)(w:World)(b:Nat)(c:Array Value)(ow:List (Option Gh))(ks':List PK)(cells':List D)(r:D)(w':World)(v:Value)(c':Array Value)(e:TypeId)(I':Nat→Prop)(ow':List (Option Gh)):Prop where
 grow:∀x,I x→I' x
 lt:∀x,I' x→x<w'.heap.size
 new:∀x,I' x→I x∨w.heap.size≤x∨∃y,some y∈ow∧y.b=x
 res:RelC I' w' r v
 blk:w'.heap[b]?=some (.cells c' e (0,0))
 siz:c'.size=c.size
 len:cells'.length=c.size
 owl:ow'.length=c.size
 cell:∀(j:Nat) κ o d v,ks'[j]?=some κ→ow'[j]?=some o→cells'[j]?=some d→c'[j]?=some v→CellR I' w' b κ o d v
 own:∀x,some x∈ow'→¬I' x.b∧x.b≠b∧(w.heap.size≤x.b∨∃y,some y∈ow∧y.b=x.b)
 inj:∀(i j:Nat) (x y:Gh),ow'[i]?=some (some x)→ow'[j]?=some (some y)→x.b=y.b→i=j
 size:w.heap.size≤w'.heap.size
 rest:∀z,z<w.heap.size→z≠b→(∀y,some y∈ow→y.b≠z)→w'.heap[z]?=w.heap[z]?
 os:w'.os=w.os
 tape:w'.tape=w.tape
 output:w'.output=w.output
def uZ(P:Program)(gl:Nat→Option D)(k:FuncId)(p:Nat)(ks ks':List PK)(ds cells cells':List D)(r:D):Prop:=
 ∀(I:Nat→Prop) (w:World) (b:Nat) (c:Array Value) (e:TypeId) (vs:Array Value) (ow:List (Option Gh)),
  (∀x,I x→x<w.heap.size)→Gl gl I w→¬I b→w.heap[b]?=some (.cells c e (0,0))→cells.length=c.size→ks.length=c.size→ow.length=c.size→
  (∀(j:Nat) κ o d v,ks[j]?=some κ→ow[j]?=some o→cells[j]?=some d→c[j]?=some v→CellR I w b κ o d v)→
  (∀x,some x∈ow→x.b<w.heap.size∧¬I x.b∧x.b≠b)→(∀(i j:Nat) (x y:Gh),ow[i]?=some (some x)→ow[j]?=some (some y)→x.b=y.b→i=j)→
  p<ds.length→ds.length=vs.size→vs[p]?=some (.pointer (some ⟨b,0,none⟩))→(∀(j:Nat) (d:D) (v:Value),j≠p→ds[j]?=some d→vs[j]?=some v→RelC I w d v)→
  Calls P k vs w fun en w'=>∃v c' e' I' ow',en= .returned v∧PbxE I w b c ow ks' cells' r w' v c' e' I' ow'
def IH(P:Program)(gl:Nat→Option D)(k:FuncId)(p:Nat)(T:TypeId)(ks':List PK)(ds cells':List D)(r:D):Prop:=
 ∀(I:Nat→Prop) (w:World) (b:Nat) (vs:Array Value),
  (∀x,I x→x<w.heap.size)→Gl gl I w→¬I b→w.heap[b]?=some (.cells Ax T (0,0))→
  p<ds.length→ds.length=vs.size→vs[p]?=some (.pointer (some ⟨b,0,none⟩))→(∀(j:Nat) (d:D) (v:Value),j≠p→ds[j]?=some d→vs[j]?=some v→RelC I w d v)→
  Calls P k vs w fun en w'=>∃v c' e' I' ow',en= .returned v∧PbxE I w b Ax [] ks' cells' r w' v c' e' I' ow'
def PbC(P:Program)(gl:Nat→Option D)(k:FuncId)(p:Nat)(T:TypeId)(ks ks':List PK)(ds cells cells':List D)(r:D):Prop:=match cells with
 |[]=>IH P gl k p T ks' ds cells' r
 |_=>uZ P gl k p ks ks' ds cells cells' r
section
variable {E:Env}{I0:Nat→Prop}{B:Nat→Prop}{I:Nat→Prop}{A:Nat→Nat→Option Gh}{σ:St}{a:Act}{w:World}
theorem Inv.turn(h:Inv I0 B I A σ a w){w':World}{I':Nat→Prop}(hsz:w.heap.size≤w'.heap.size)(hI:∀b,I b→w'.heap[b]?=w.heap[b]?)(hA:∀s g x,A s g=some x→w'.heap[x.b]?=w.heap[x.b]?)(hR:∀b,RowB A σ.H w b→w'.heap[b]?=w.heap[b]?)
  (hII:∀b,I b→I' b) (hI':∀b,I' b→I b∨(¬B b∧(∀s g x,A s g=some x→x.b≠b)∧¬RowB A σ.H w b)) (hlt:∀b,I' b→b<w'.heap.size):Inv I0 B I' A σ a w':=by
 have h1:=h.same hsz hI hA hR;refine(h1.re (I0':=I0) (KK':=B) (I':=I') (T':=σ.T) (a':=a) hII (fun s g x hx hi=> ?_) hlt (fun b hi=> ?_) (fun b hb=>hII b (h.ii b hb)) (fun s g x hx=> ?_) (h1.df.mono hII fun _ _=>rfl) h1.tl (fun t d v hd hv=>(h1.tv t d v hd hv).mono hII (fun _ _=>rfl) (fun _=>zb0 _) fun _ _ _ _ hx=>hx) (fun b hb=> ?_):Inv I0 B I' A ⟨σ.T,σ.H⟩ a w')
 ·exact(hI' _ hi).elim id fun hn=>absurd rfl (hn.2.1 s g x hx)
 ·exact(hI' b hi).elim (h.io b) fun hn=> .inr hn.1
 ·obtain⟨o,ho⟩:=h.ar s g x hx;obtain⟨y,hy,hyB,_⟩:=h.ob s g o ho;rw[hx] at hy;cases hy;exact hyB.imp (hII _) id
 ·have hb':=hb.back (w:=w) hA;obtain⟨x,j,hb2⟩:=id hb';obtain⟨q1,q2,q3,q4⟩:=h.rw.sep x j b hb2;exact⟨fun hi=>(hI' b hi).elim q2 fun hn=>hn.2.2 hb',q3⟩
theorem oa:∀(os:List Nat) (H:List (Nat×Option Ob)),(dR H os).length=H.length
 |[],_=>rfl
 |s::os,H=>by simp only[dR];rw[oa os];simp
theorem yM{H:List (Nat×Option Ob)}{s:Nat}{o:Option Ob}(s':Nat):bG (H.set s (bG H s,o)) s'=bG H s':=by
 by_cases hs:s<H.length
 ·by_cases e:s'=s
  ·subst e;rw[cX hs]
  ·exact cN (Ne.symm e)
 ·rw[List.set_eq_of_length_le (by omega)]
theorem u0:∀(os:List Nat) (H:List (Nat×Option Ob)) (s:Nat),bG (dR H os) s=bG H s
 |[],_,_=>rfl
 |t::os,H,s=>by simp only[dR];rw[u0 os,yM]
theorem rt:∀(os:List Nat) (H:List (Nat×Option Ob)) (s g:Nat),s∉os→bE (dR H os) s g=bE H s g
 |[],_,_,_,_=>rfl
 |t::os,H,s,g,hs=>by
  simp only[List.mem_cons,not_or] at hs;simp only[dR];rw[rt os _ s g hs.2,ct (Ne.symm hs.1)]
theorem Inv.killsA{T:List D}:∀(os:List Nat) {H:List (Nat×Option Ob)} {A:Nat→Nat→Option Gh},Inv I0 B I A ⟨T,H⟩ a w→(∀q∈os,q<H.length)→∃A',Inv I0 B I A' ⟨T,dR H os⟩ a w∧(∀s g,s∉os→A' s g=A s g)∧(∀s g,s∈os→A' s g=none)∧
  (∀d v,RelV I A (bG H) w d v→RelV I A' (bG (dR H os)) w d v)∧∀b,RowB A' (dR H os) w b→RowB A H w b
 |[],H,A,h,_=>⟨A,h,fun _ _ _=>rfl,fun s g hs=>(by cases hs),fun _ _ hr=>hr,fun _ hb=>hb⟩
 |t::os,H,A,h,hlt=>by
  obtain⟨A1,h1,p1,p2,p3⟩:=h.kill t (hlt t (za4 ..));obtain⟨A2,h2,q1,q2,q3,q4⟩:=Inv.killsA os (H:=H.set t (bG H t,none)) h1 fun q hq=>by simpa using hlt q (za5 _ hq)
  refine⟨A2,h2,fun s g hs=> ?_,fun s g hs=> ?_,fun d v hr=>q3 d v (p3 d v hr),fun b hb=> ?_⟩
  ·simp only[List.mem_cons,not_or] at hs;rw[q1 s g hs.2,p1 s g hs.1]
  ·by_cases hs':s∈os
   ·exact q2 s g hs'
   ·rw[q1 s g hs'];rcases List.mem_cons.1 hs with rfl|hs
    ·exact p2 g
    ·exact absurd hs hs'
  ·obtain⟨x,j,hb⟩:=q4 b hb;exact⟨x,j,RowAt.unkill (σ:=⟨T,H⟩) (s:=t) hb p1 p2⟩
theorem xa:∀(obs:List (Nat×Ob)) (H:List (Nat×Option Ob)) (s:Nat) (x:Nat×Option Ob),(∀p∈obs,p.1≠s)→fQ (H.set s x) obs=(fQ H obs).set s x
 |[],_,_,_,_=>rfl
 |p::obs,H,s,x,hs=>by
  have hp:=hs p (za4 ..);simp only[fQ];rw[cN (Ne.symm hp),List.set_comm _ _ (Ne.symm hp),xa obs _ s x fun q hq=>hs q (za5 _ hq)]
theorem oe:∀(obs:List (Nat×Ob)) (H:List (Nat×Option Ob)) (s g:Nat),(∀p∈obs,p.1≠s)→bE (fQ H obs) s g=bE H s g
 |[],_,_,_,_=>rfl
 |p::obs,H,s,g,hs=>by
  simp only[fQ];rw[oe obs _ s g fun q hq=>hs q (za5 _ hq),ct (hs p (za4 ..))]
theorem u6{H:List (Nat×Option Ob)}{T:List D}(h:Inv I0 B I A ⟨T,H⟩ a w){s g:Nat}{y:Gh}(hy:A s g=some y):∀(ks:List PK) (cs:List D) (vs:List Value) (cells:List D) (os ss:List Nat),Aw H s g ks cs=some (cells,os,ss)→cs.length=vs.length→
  (∀(j:Nat) (d:D) (v:Value),cs[j]?=some d→vs[j]?=some v→RelV I A (bG H) w d v)→
  ks.length=cs.length∧cells.length=cs.length∧Sites H ss∧(∀q∈os,∃g e n rs,bE H q g=some (.arr e n rs false))∧∃ow:List (Option Gh),ow.length=cs.length∧(∀x,some x∈ow→∃q g,q∈os∧A q g=some x)∧
   (os.Nodup→∀(i j:Nat) (x y:Gh),ow[i]?=some (some x)→ow[j]?=some (some y)→x.b=y.b→i=j)∧
   ∀(j:Nat) κ o d v,ks[j]?=some κ→ow[j]?=some o→cells[j]?=some d→vs[j]?=some v→CellR (eB I A ss) w y.b κ o d v
 |[],[],vs,cells,os,ss,hp,_,_=>by
  cases hp;exact⟨rfl,rfl,fun s hs=>(by cases hs),fun q hq=>(by cases hq),[],rfl,fun x hx=>(by cases hx),fun _ i j x y hx=>by simp at hx,fun j κ o d v hk=>by simp at hk⟩
 |[],_::_,_,_,_,_,hp,_,_=>by cases hp
 |_::_,[],_,_,_,_,hp,_,_=>by cases hp
 |κ0::ks,d0::cs,[],_,_,_,_,hl,_=>by cases hl
 |κ0::ks,d0::cs,v0::vs,cells,os,ss,hp,hl,hr=>by
  simp only[Aw] at hp;split at hp
  ·rename_i p hp0;split at hp
   ·rename_i q hq;cases hp;obtain⟨c1,o1,s1⟩:=p;obtain⟨c2,o2,s2⟩:=q;obtain⟨i1,i2,i3,i4,ow,i5,i6,i7,i8⟩:=u6 h hy ks cs vs c2 o2 s2 hq (by simpa using hl) fun j d v hd hv=>hr (j+1) d v (by simpa using hd) (by simpa using hv);have h0:=hr 0 d0 v0 rfl rfl;have key:∃o0:Option Gh,Sites H s1∧(∀q∈o1,∃g e n rs,bE H q g=some (.arr e n rs false))∧(∀x,o0=some x→∃q g,o1=[q]∧A q g=some x)∧CellR (eB I A s1) w y.b κ0 o0 c1 v0:=by
     unfold Mh at hp0;split at hp0
     ·split at hp0
      ·rename_i p' hp';cases hp0;obtain⟨a1,a2⟩:=c7 h depth _ _ _ hp';exact⟨none,a1,fun q hq=>(by cases hq),fun x hx=>(by cases hx),rfl,a2 v0 h0⟩
      ·cases hp0
     ·rename_i e n q' g' len;split at hp0
      ·rename_i e' n' rs hlv;split at hp0
       ·rename_i hc;obtain⟨rfl,rfl⟩:=hc;cases hp0;obtain⟨x,hx,hxB,c,b1,b2,b3,b4,b5,b6,b7,b8⟩:=h.ob _ _ _ hlv;obtain⟨hv,hlen⟩:=h0.own_inv hx;subst hlen;refine⟨some x,(fun s hs=>by cases hs),fun q hq=> ?_,fun x' hx'=>⟨q',g',rfl,by cases hx';exact hx⟩,rs,c,rfl,hv,b1,b2,b3,b4,b5,fun j d v hd hv=> ?_⟩
        ·rcases zd4.1 hq with rfl;exact⟨_,_,_,_,hlv⟩
        ·exact((b6 j d v hd hv).closed (b8 d (List.mem_of_getElem? hd))).mono (fun _ hb=> .inl hb) fun _ _=>rfl
       ·cases hp0
      ·cases hp0
     ·cases hp0;exact⟨none,(fun s hs=>by cases hs),fun q hq=>(by cases hq),fun x hx=>(by cases hx),rfl,h0.nils_inv⟩
     ·cases hp0;refine⟨none,(fun s hs=>by cases hs),fun q hq=>(by cases hq),fun x hx=>(by cases hx),rfl,.inl ⟨rfl,?_⟩⟩;exact h0.flat (u:= .pointer none) rfl
     ·rename_i s' g';split at hp0
      ·rename_i hc;obtain⟨rfl,rfl⟩:=hc;cases hp0;exact⟨none,(fun s hs=>by cases hs),fun q hq=>(by cases hq),fun x hx=>(by cases hx),rfl,.inr ⟨rfl,h0.loc_inv hy⟩⟩
      ·cases hp0
     ·cases hp0
    obtain⟨o0,k1,k2,k3,k4⟩:=key;refine⟨by simp[i1],by simp[i2],k1.append i3,fun q hq=> ?_,o0::ow,by simp[i5],fun x hx=> ?_,fun hnd i j x z hx hz he=> ?_,fun j κ o d v hk ho hd hv=> ?_⟩
    ·rcases za9.1 hq with hq|hq
     ·exact k2 q hq
     ·exact i4 q hq
    ·rcases List.mem_cons.1 hx with hx|hx
     ·obtain⟨q,g',e1,e2⟩:=k3 x hx.symm;exact⟨q,g',by simp[e1],e2⟩
     ·obtain⟨q,g',e1,e2⟩:=i6 x hx;exact⟨q,g',za9.2 (.inr e1),e2⟩
    ·have cross:∀x z,o0=some x→some z∈ow→x.b=z.b→False:=fun x z hx hz he=>by
      obtain⟨q,g',e1,e2⟩:=k3 x hx;obtain⟨q',g'',e3,e4⟩:=i6 z hz;have:=(h.inj _ _ _ _ _ _ e2 e4 he).1;subst this;dsimp only at hnd;rw[e1] at hnd;exact(List.nodup_cons.1 hnd).1 e3
     cases i with
     |zero=>
      cases j with
      |zero=>rfl
      |succ j=>exact(cross x z (Option.some.inj hx) (List.mem_of_getElem? (by simpa using hz)) he).elim
     |succ i=>
      cases j with
      |zero=>exact(cross z x (Option.some.inj hz) (List.mem_of_getElem? (by simpa using hx)) he.symm).elim
      |succ j=>exact congrArg (·+1) (i7 (List.nodup_append.1 hnd).2.1 i j x z (by simpa using hx) (by simpa using hz) he)
    ·cases j with
     |zero=>
      simp at hk ho hd hv;subst hk ho hd hv;exact k4.mono fun b hb=>gG (fun s hs=>za9.2 (.inl hs)) hb
     |succ j=>
      simp at hk ho hd hv;exact(i8 j κ o d v hk ho hd hv).mono fun b hb=>gG (fun s hs=>za9.2 (.inr hs)) hb
   ·cases hp
  ·cases hp
theorem u7{T:List D}{H1:List (Nat×Option Ob)}{s g:Nat}{y:Gh}:∀(ks:List PK) (cells:List D) (st:List Nat) (refs:List D) (obs:List (Nat×Ob)) (vs:List Value) (ow:List (Option Gh)) (H:List (Nat×Option Ob)) (A:Nat→Nat→Option Gh),dD H1 s g ks cells st=some (refs,obs)→
  Inv I0 B I A ⟨T,H⟩ a w→A s g=some y→g<bG H s→cells.length=vs.length→ow.length=vs.length→(∀q∈st,bG H q=bG H1 q∧q<H.length∧q≠s)→st.Nodup→
  (∀(j:Nat) κ o d v,ks[j]?=some κ→ow[j]?=some o→cells[j]?=some d→vs[j]?=some v→CellR I w y.b κ o d v)→
  (∀x,some x∈ow→¬B x.b∧¬I x.b∧(∀s' g' z,A s' g'=some z→z.b≠x.b)∧¬RowB A H w x.b)→(∀(i j:Nat) (x z:Gh),ow[i]?=some (some x)→ow[j]?=some (some z)→x.b=z.b→i=j)→
  ks.length=vs.length∧refs.length=vs.length∧(∀p∈obs,p.1∈st)∧∃A',Inv I0 B I A' ⟨T,fQ H obs⟩ a w∧(∀s' g',s'∉st→A' s' g'=A s' g')∧(∀d v,RelV I A (bG H) w d v→RelV I A' (bG (fQ H obs)) w d v)∧
   ∀(j:Nat) (d:D) (v:Value),refs[j]?=some d→vs[j]?=some v→RelV I A' (bG (fQ H obs)) w d v:=by
 intro ks
 induction ks with
 |nil=>
  intro cells st refs obs vs ow H A hu h hy hg hl1 hl2 hst hnd hcell how hinj;cases cells with
  |nil=>
   cases vs with
   |nil=>cases hu;exact⟨rfl,rfl,fun p hp=>(by cases hp),A,h,fun _ _ _=>rfl,fun _ _ hr=>hr,fun j d v hd=>by simp at hd⟩
   |cons=>cases hl1
  |cons=>cases hu
 |cons κ0 ks ih=>
  intro cells st refs obs vs ow H A hu h hy hg hl1 hl2 hst hnd hcell how hinj;cases cells with
  |nil=>cases κ0<;>cases hu
  |cons d0 cells=>
   cases vs with
   |nil=>cases hl1
   |cons v0 vs=>
    cases ow with
    |nil=>cases hl2
    |cons o0 ow=>
     have hc0:=hcell 0 κ0 o0 d0 v0 rfl rfl rfl rfl;have hcell':∀(j:Nat) κ o d v,ks[j]?=some κ→ow[j]?=some o→cells[j]?=some d→vs[j]?=some v→CellR I w y.b κ o d v:=fun j κ o d v h1 h2 h3 h4=>hcell (j+1) κ o d v (by simpa using h1) (by simpa using h2) (by simpa using h3) (by simpa using h4);have hinj':∀(i j:Nat) (x z:Gh),ow[i]?=some (some x)→ow[j]?=some (some z)→x.b=z.b→i=j:=fun i j x z h1 h2 h3=>by have:=hinj (i+1) (j+1) x z (by simpa using h1) (by simpa using h2) h3;omega
     have how':∀x,some x∈ow→¬B x.b∧¬I x.b∧(∀s' g' z,A s' g'=some z→z.b≠x.b)∧¬RowB A H w x.b:=fun x hx=>how x (za5 _ hx);simp only[za7,Nat.add_right_cancel_iff] at hl1 hl2;have easy:∀(st':List Nat) (q:List D×List (Nat×Ob)) (d1:D),(∀t∈st',t∈st)→st'.Nodup→dD H1 s g ks cells st'=some q→refs=d1::q.1→obs=q.2→RelV I A (bG H) w d1 v0→
       (κ0::ks).length=(v0::vs).length∧refs.length=(v0::vs).length∧(∀p∈obs,p.1∈st)∧∃A',Inv I0 B I A' ⟨T,fQ H obs⟩ a w∧(∀s' g',s'∉st→A' s' g'=A s' g')∧(∀d v,RelV I A (bG H) w d v→RelV I A' (bG (fQ H obs)) w d v)∧
       ∀(j:Nat) (d:D) (v:Value),refs[j]?=some d→(v0::vs)[j]?=some v→RelV I A' (bG (fQ H obs)) w d v:=by
      intro st' q d1 hsub hnd' hq e1 e2 hrel;subst e1 e2;obtain⟨i1,i2,i3,A',i5,i6,i7,i8⟩:=ih cells st' q.1 q.2 vs ow H A hq h hy hg hl1 hl2 (fun t ht=>hst t (hsub t ht)) hnd' hcell' how' hinj';refine⟨by simp[i1],by simp[i2],fun p hp=>hsub _ (i3 p hp),A',i5,fun s' g' hs'=>i6 s' g' fun hm=>hs' (hsub _ hm),i7,fun j d v hd hv=> ?_⟩;cases j with
      |zero=>simp at hd hv;subst hd hv;exact i7 _ _ hrel
      |succ j=>exact i8 j d v (by simpa using hd) (by simpa using hv)
     cases κ0 with
     |cl=>
      simp only[dD] at hu;split at hu
      ·rename_i q hq;cases hu;exact easy st q d0 (fun _ ht=>ht) hnd hq rfl rfl (.clo hc0.2)
      ·cases hu
     |slf=>
      obtain⟨_,⟨rfl,rfl⟩|⟨rfl,rfl⟩⟩:=hc0
      ·simp only[dD] at hu;split at hu
       ·rename_i q hq;cases hu;exact easy st q .nilp (fun _ ht=>ht) hnd hq rfl rfl (.clo .nilp)
       ·cases hu
      ·simp only[dD] at hu;split at hu
       ·rename_i q hq;cases hu;exact easy st q (.loc s g 0) (fun _ ht=>ht) hnd hq rfl rfl (.loc _ _ _ _ hg fun x hx=>by rw[hy] at hx;cases hx;rfl)
       ·cases hu
     |own e n=>
      cases st with
      |nil=>cases d0<;>first|cases hu|(rename_i b _ _;cases b<;>cases hu)
      |cons t st=>
       have hnd':=(List.nodup_cons.1 hnd);cases o0 with
       |none=>
        obtain⟨rfl,rfl⟩:=hc0;simp only[dD] at hu;split at hu
        ·rename_i q hq;cases hu;exact easy st q .nils (fun _ ht=>za5 _ ht) hnd'.2 hq rfl rfl (.clo .nils)
        ·cases hu
       |some x=>
        obtain⟨cs,c,rfl,rfl,b1,b2,b3,b4,b5,b6⟩:=hc0;simp only[dD] at hu;split at hu
        ·rename_i q hq;cases hu;obtain⟨hg1,hlt,hne⟩:=hst t (za4 ..);obtain⟨n1,n2,n3,n4⟩:=how x (za4 ..);obtain⟨A1,h1,hA1,hR1,hAe⟩:=h.new (s:=t) hlt (w':=w) (x:=x) (o:= .arr e n cs false) n1 n3 (zb0 _) (fun _ _=>rfl) (fun _ _ _ _=>rfl) (fun A' G' _=>by
          have hle:=Nat.mul_le_mul_right n b4;refine⟨c,b1,b2,b3,b4,b5,fun j d v hd hv=> .clo (b6 j d v hd hv),⟨(fun hh=>by cases hh),fun hi=>absurd hi n2⟩,fun d hd=> ?_⟩;obtain⟨j,hj,rfl⟩:=List.getElem_of_mem hd;exact(b6 j _ _ (zd5 hj) (Array.getElem?_eq_getElem (by omega))).clo) (fun z j b' hb'=>⟨fun e=>n4 (by rw[e];exact⟨z,j,hb'⟩),rfl⟩)
         have hA1o:∀s' g',s'≠t→A1 s' g'=A s' g':=fun s' g' e=>by rw[hAe,if_neg e]
         have hrow1:∀b',RowB A1 (H.set t (bG H t+1,some (.arr e n cs false))) w b'→RowB A H w b':=fun b' hb'=>by
          obtain⟨z,j,s',g',e1,er,nr,cs1,c1,f,len,rs,cap,k1,k2,k3,k4,k5⟩:=hb';by_cases es:s'=t
          ·subst es;rw[bZ hlt] at k2;split at k2<;>cases k2
          ·rw[hA1o _ _ es] at k1;rw[ct (Ne.symm es)] at k2;exact⟨z,j,s',g',e1,er,nr,cs1,c1,f,len,rs,cap,k1,k2,k3,k4,k5⟩
         obtain⟨i1,i2,i3,A',i5,i6,i7,i8⟩:=ih cells st q.1 q.2 vs ow (H.set t (bG H t+1,some (.arr e n cs false))) A1 hq h1 (by rw[hA1o _ _ (Ne.symm hne)];exact hy) (by rw[cN hne];exact hg) hl1 hl2 (fun q' hq'=>by
          obtain⟨z1,z2,z3⟩:=hst q' (za5 _ hq');have hqt:t≠q':=fun e=>hnd'.1 (e▸hq');exact⟨by rw[cN hqt];exact z1,by simpa using z2,z3⟩) hnd'.2 hcell' (fun x' hx'=>by
          obtain⟨z1,z2,z3,z4⟩:=how' x' hx';refine⟨z1,z2,fun s' g' z hz=> ?_,fun hb'=>z4 (hrow1 _ hb')⟩;rw[hAe] at hz;split at hz
          ·split at hz
           ·cases hz;intro eb;obtain⟨j,hj⟩:=List.mem_iff_getElem?.1 hx';have:=hinj 0 (j+1) _ x' rfl (by simpa using hj) eb;omega
           ·cases hz
          ·exact z3 s' g' z hz) hinj'
         refine⟨by simp[i1],by simp[i2],fun p hp=> ?_,A',i5,fun s' g' hs'=> ?_,fun d v hr=>i7 d v (hR1 d v hr),fun j d v hd hv=> ?_⟩
         ·rcases List.mem_cons.1 hp with rfl|hp
          ·exact za4 ..
          ·exact za5 _ (i3 p hp)
         ·simp only[List.mem_cons,not_or] at hs';rw[i6 s' g' hs'.2,hA1o _ _ hs'.1]
         ·cases j with
          |zero=>
           simp at hd hv;subst hd hv;refine i7 _ _ (.own _ _ _ _ _ ?_ b4 fun x' hx'=> ?_)
           ·rw[←hg1];show bG H t<bG (H.set t _) t;rw[cX hlt];omega
           ·rw[←hg1,hA1] at hx';cases hx';exact⟨rfl,rfl,rfl⟩
          |succ j=>exact i8 j d v (by simpa using hd) (by simpa using hv)
        ·cases hu
theorem RowB.unfreeze{H:List (Nat×Option Ob)}{ss:List Nat}{b:Nat}(h:RowB A (bN H ss) w b):RowB A H w b:=by
 obtain⟨z,j,s',g',e1,er,nr,cs1,c1,f,len,rs,cap,k1,k2,k3,k4,k5⟩:=h;exact⟨z,j,s',g',e1,er,nr,cs1,c1,f,len,rs,cap,k1,my k2,k3,k4,k5⟩
theorem BC{k:FuncId}{ks':List PK}{st os ss ss2:List Nat}{T:List D}{H:List (Nat×Option Ob)}{s g0:Nat}{o0:Ob}{y:Gh}{c:Array Value}{e:TypeId}{cells' refs:List D}{obs:List (Nat×Ob)}{ow:List (Option Gh)}{vs:Array Value}{r:D}
  (h:Inv I0 B I A ⟨T,H⟩ a w) (hB:∀x,B x→x<w.heap.size) (hlive:bE H s g0=some o0) (hno:o0.isNst=false) (hna:∀e n rs,o0≠ .arr e n rs false) (hy:A s g0=some y) (hb:w.heap[y.b]?=some (.cells c e (0,0))) (hnI:¬I y.b) (hnB:¬B y.b)
  (k3:Sites H ss2) (a2:Sites H ss) (k4:∀q∈os,∃g e n rs,bE H q g=some (.arr e n rs false)) (k6:∀x,some x∈ow→∃q g,q∈os∧A q g=some x)
  (hc1:(ss++ss2).contains s=false) (hc2:∀q∈os,(ss++ss2).contains q=false) (hsnd:st.Nodup) (hc3:st.contains s=false) (hc4:∀q∈st,q<H.length) (hun:dD (dR (bN H (ss++ss2)) os) s g0 ks' cells' st=some (refs,obs))
  (hcalls:(Inv I0 B (eB I A (ss++ss2)) A ⟨T,bN H (ss++ss2)⟩ a w)→(¬eB I A (ss++ss2) y.b)→(∀x,some x∈ow→x.b<w.heap.size∧¬eB I A (ss++ss2) x.b∧x.b≠y.b)→
   Calls E.P k vs w fun en w'=>∃v c' e' I' ow',en= .returned v∧PbxE (eB I A (ss++ss2)) w y.b c ow ks' cells' r w' v c' e' I' ow'):
  Calls E.P k vs w fun en w'=>∃v,en= .returned v∧Step I0 B I a w r ⟨T,(fQ (dR (bN H (ss++ss2)) os) obs).set s (g0+1,some (.box refs false))⟩ v w':=by
 have hbs:y.b<w.heap.size:=(zc0.1 hb).1;have hsl:s<H.length:=eJ hlive;have hsites:Sites H (ss++ss2):=a2.append k3;obtain⟨hfz,hRf⟩:=h.freeze (ss++ss2) hsites.free;have hfz:Inv I0 B (eB I A (ss++ss2)) A ⟨T,bN H (ss++ss2)⟩ a w:=hfz;have hs12:s∉ss++ss2:=fun hm=>by have:(ss++ss2).contains s=true:=(by simpa using hm);rw[this] at hc1;cases hc1
 have hnI1:¬eB I A (ss++ss2) y.b:=by
  rintro (hi|⟨s',hs',g',y',hy',hb'⟩)
  ·exact hnI hi
  ·exact hs12 ((h.inj _ _ _ _ _ _ hy hy' hb').1▸hs')
 have hqs:∀q∈os,q≠s∧q<H.length:=fun q hq=>by
  obtain⟨g',e',n',rs,hlq⟩:=k4 q hq;refine⟨fun e1=> ?_,eJ hlq⟩;subst e1;have e2:=cz hlive;have e3:=cz hlq;have:g0=g':=by omega
  subst this;rw[hlive] at hlq;exact hna _ _ _ (Option.some.inj hlq)
 have hown:∀x,some x∈ow→x.b<w.heap.size∧¬eB I A (ss++ss2) x.b∧x.b≠y.b∧¬B x.b∧∃q g',q∈os∧A q g'=some x:=fun x hx=>by
  obtain⟨q,g',hq,hxq⟩:=k6 x hx;obtain⟨g'',e',n',rs,hlq⟩:=k4 q hq;obtain⟨o,ho⟩:=h.ar q g' x hxq;have ho:bE H q g'=some o:=ho;have hgg:g'=g'':=by
   have e2:=cz ho;have e3:=cz hlq;omega
  subst hgg;obtain⟨x',hx',hxB,cc,b1,b2,b3,b4,b5,b6,b7,b8⟩:=h.ob q g' _ hlq;rw[hxq] at hx';cases hx';have hxI:¬I x.b:=fun hi=>by have:=b7.2 hi;cases this
  refine⟨h.A_lt hxq,?_,fun eb=>(hqs q hq).1 (h.inj _ _ _ _ _ _ hxq hy eb).1,hxB.resolve_left hxI,q,g',hq,hxq⟩
  rintro (hi|⟨s',hs',g2,y',hy',hb'⟩)
  ·exact hxI hi
  ·have e1:=(h.inj _ _ _ _ _ _ hxq hy' hb').1;have:=hc2 q hq;have hm:(ss++ss2).contains q=true:=by rw[e1];simpa using hs'
   rw[hm] at this;cases this
 refine(hcalls hfz hnI1 fun x hx=>⟨(hown x hx).1,(hown x hx).2.1,(hown x hx).2.2.1⟩).mono ?_
 rintro en w' ⟨v,c',e',I',ow',rfl,E'⟩
 refine⟨v,rfl,?_⟩;obtain⟨A2,h2,q1,q2,q3,q4⟩:=Inv.killsA os hfz (fun q hq=>by rw[ed];exact(hqs q hq).2);have hsos:s∉os:=fun hm=>(hqs s hm).1 rfl;have hy2:A2 s g0=some y:=by rw[q1 s g0 hsos];exact hy
 have hA2:∀s' g' z,A2 s' g'=some z→s'∉os∧A s' g'=some z:=fun s' g' z hz=>by
  by_cases hm:s'∈os
  ·rw[q2 s' g' hm] at hz;cases hz
  ·exact⟨hm,by rw[←q1 s' g' hm];exact hz⟩
 have hA2o:∀s' g' z x,A2 s' g'=some z→some x∈ow→z.b≠x.b:=fun s' g' z x hz hx eb=>by
  obtain⟨_,_,_,_,q,g',hq,hxq⟩:=hown x hx;obtain⟨z1,z2⟩:=hA2 _ _ _ hz;exact z1 ((h.inj _ _ _ _ _ _ z2 hxq eb).1▸hq)
 have hliveK:bE (dR (bN H (ss++ss2)) os) s g0=some o0:=by
  rw[rt _ _ _ _ hsos,cP,if_neg hs12];exact hlive
 have hKl:(dR (bN H (ss++ss2)) os).length=H.length:=by rw[oa,ed]
 obtain⟨HK,hHK⟩:∃HK,HK=dR (bN H (ss++ss2)) os:=⟨_,rfl⟩;rw[←hHK] at h2 q3 q4 hliveK hun hKl ⊢;obtain⟨w1,hw1⟩:∃w1,w1=ew w y.b (.cells c' e' (0,0)):=⟨_,rfl⟩;have hw1s:w1.heap.size=w.heap.size:=by rw[hw1];exact cB _ _ _
 have hw1o:∀b,b≠y.b→w1.heap[b]?=w.heap[b]?:=fun b hb=>by rw[hw1];exact cY _ _ _ hb
 have hw1y:w1.heap[y.b]?=some (.cells c' e' (0,0)):=by rw[hw1];exact ee hbs
 obtain⟨h3,hR3⟩:=h2.set (o':= .box (List.replicate c.size .junk) false) hliveK hy2 hnI1 (w':=w1) hw1s hw1o (hno:=hno) (fun hR=>⟨c',e',hw1y,by simp[E'.siz],fun j d v hd hv=>by
  have:=(List.mem_replicate.1 (List.mem_of_getElem? hd)).2;subst this;exact .clo (.junk v),⟨(fun hh=>by cases hh),fun hi=>absurd hi hnI1⟩⟩)
 have hgK:bG HK s=g0+1:=cz hliveK;obtain⟨H3,hH3⟩:∃H3,H3=HK.set s (g0+1,some (.box (List.replicate c.size .junk) false)):=⟨_,rfl⟩;have h3:Inv I0 B (eB I A (ss++ss2)) A2 ⟨T,H3⟩ a w1:=by rw[hH3,←hgK];exact h3
 have hrow3:∀b,RowB A2 H3 w1 b→RowB A H w b:=fun b hb'=>by
  refine RowB.unfreeze (ss:=ss++ss2) (q4 b ?_);obtain⟨z,j,s',g',e1,er,nr,cs1,c1,f,len,rs,cap,z1,z2,z3,z4,z5⟩:=hb';have es:s'≠s:=fun es=>by
   subst es;rw[hH3,bZ (by rw[hKl];exact hsl)] at z2;split at z2<;>cases z2
  rw[hH3,ct (Ne.symm es)] at z2;have hne:z.b≠y.b:=fun eb=>es (h2.inj _ _ _ _ _ _ z1 hy2 eb).1;rw[hw1o _ hne] at z3;exact⟨z,j,s',g',e1,er,nr,cs1,c1,f,len,rs,cap,z1,z2,z3,z4,z5⟩
 have hrowo:∀b,RowB A H w b→b<w.heap.size∧b≠y.b∧∀x,some x∈ow→x.b≠b:=fun b ⟨z,j,hb'⟩=>by
  obtain⟨z1,z2,z3,z4⟩:=h.rw.sep _ _ _ hb';refine⟨z1,fun e1=>z4 _ _ _ hy e1.symm,fun x hx=> ?_⟩;obtain⟨_,_,_,_,q,g',hq,hxq⟩:=hown x hx;exact z4 _ _ _ hxq
 have hAw:∀s' g' z,A2 s' g'=some z→w'.heap[z.b]?=w1.heap[z.b]?:=fun s' g' z hz=>by
  by_cases eb:z.b=y.b
  ·rw[eb,hw1y];exact E'.blk
  ·rw[hw1o _ eb];exact E'.rest _ (h.A_lt (hA2 _ _ _ hz).2) eb fun x hx=>(hA2o _ _ _ _ hz hx).symm
 have hI1o:∀b,eB I A (ss++ss2) b→b<w.heap.size∧b≠y.b∧∀x,some x∈ow→x.b≠b:=fun b hb'=>⟨hfz.iw b hb',fun e1=>hnI1 (e1▸hb'),fun x hx e1=>(hown x hx).2.1 (e1▸hb')⟩;have h4:Inv I0 B I' A2 ⟨T,H3⟩ a w':=h3.turn (by rw[hw1s];exact E'.size) (fun b hb'=>by
  obtain⟨z1,z2,z3⟩:=hI1o b hb';rw[hw1o b z2];exact E'.rest b z1 z2 z3) hAw (fun b hb'=>by
  obtain⟨z1,z2,z3⟩:=hrowo b (hrow3 b hb');rw[hw1o b z2];exact E'.rest b z1 z2 z3) E'.grow (fun b hb'=>by
  rcases E'.new b hb' with z1|z1|⟨x,hx,rfl⟩
  ·exact .inl z1
  ·refine .inr ⟨fun hk=>by have:=hB b hk;omega,fun s' g' z hz eb=> ?_,fun hr'=> ?_⟩
   ·have:=h.A_lt (hA2 _ _ _ hz).2;omega
   ·have:=(hrowo b (hrow3 b hr')).1;omega
  ·exact .inr ⟨(hown x hx).2.2.2.1,fun s' g' z hz=>hA2o _ _ _ _ hz hx,fun hr'=>(hrowo _ (hrow3 _ hr')).2.2 x hx rfl⟩) E'.lt
 have hnI':¬I' y.b:=fun hi=>by
  rcases E'.new _ hi with z1|z1|⟨x,hx,eb⟩
  ·exact hnI1 z1
  ·omega
  ·exact(hown x hx).2.2.1 eb
 have hst3:s∉st:=fun hm=>by have:st.contains s=true:=(by simpa using hm);rw[this] at hc3;cases hc3
 obtain⟨i1,i2,i3,A5,h5,i6,i7,i8⟩:=u7 (H1:=HK) (s:=s) (g:=g0) (y:=y) ks' cells' st refs obs c'.toList ow' H3 A2 hun h4 hy2 (by rw[hH3,cX (by rw[hKl];exact hsl)];omega) (by rw[E'.len];simp[E'.siz]) (by rw[E'.owl];simp[E'.siz])
  (fun q hq=>by
   have hqne:q≠s:=fun e1=>hst3 (e1▸hq);exact⟨by rw[hH3,cN (Ne.symm hqne)],by rw[hH3];simp[hKl];exact hc4 q hq,hqne⟩) hsnd (fun j κ o d v z1 z2 z3 z4=>E'.cell j κ o d v z1 z2 z3 (by simpa using z4)) (fun x hx=>by
   obtain⟨z1,z2,z3⟩:=E'.own x hx;have hb3:∀b',RowB A2 H3 w' b'→RowB A H w b':=fun b' hb'=>hrow3 b' (hb'.back hAw);rcases z3 with z3|⟨x2,hx2,eb⟩
   ·refine⟨fun hk=>by have:=hB _ hk;omega,z1,fun s' g' z hz eb=> ?_,fun hr'=> ?_⟩
    ·have:=h.A_lt (hA2 _ _ _ hz).2;omega
    ·have:=(hrowo _ (hb3 _ hr')).1;omega
   ·rw[←eb];exact⟨(hown x2 hx2).2.2.2.1,by rw[eb];exact z1,fun s' g' z hz=>hA2o _ _ _ _ hz hx2,fun hr'=>(hrowo _ (hb3 _ hr')).2.2 x2 hx2 rfl⟩) E'.inj
 have hobs:∀p∈obs,p.1≠s:=fun p hp e1=>hst3 (e1▸i3 p hp);have hl5:bE (fQ H3 obs) s g0=some (.box (List.replicate c.size .junk) false):=by
  rw[oe _ _ _ _ hobs,hH3,bZ (by rw[hKl];exact hsl),if_pos rfl]
 have hy5:A5 s g0=some y:=by rw[i6 s g0 hst3];exact hy2
 obtain⟨h6,hR6⟩:=h5.set (o':= .box refs false) hl5 hy5 hnI' (w':=w') rfl (fun _ _=>rfl) (fun hR=>⟨c',e',E'.blk,by simp[i2],fun j d v hd hv=>hR _ _ (i8 j d v hd (by simpa using hv)),⟨(fun hh=>by cases hh),fun hi=>absurd hi hnI'⟩⟩);have hfin:(⟨T,fQ H3 obs⟩:St).setOb s (some (.box refs false))=⟨T,(fQ HK obs).set s (g0+1,some (.box refs false))⟩:=by
  unfold St.setOb;dsimp only;rw[cz hl5,hH3,xa _ _ _ _ hobs,List.set_set]
 rw[hfin] at h6;exact⟨I',A5,h6,.clo E'.res,fun b hb'=>E'.grow b (.inl hb'),fun b hb'=>by
  obtain⟨z1,z2,z3⟩:=hI1o b (.inl hb');exact E'.rest b z1 z2 z3,⟨E'.os,E'.tape,E'.output,E'.size,fun b hb'=>E'.rest b (hB b hb') (fun e1=>hnB (e1▸hb')) fun x hx e1=>(hown x hx).2.2.2.1 (e1▸hb')⟩⟩
theorem II{k:FuncId}{p:Nat}{Ty:TypeId}{ks ks':List PK}{st:List Nat}{g:List D→Option D}(hg:∀ds cells cells' r,p<ds.length→g (ds.set p (.agg cells))=some (.tup [.agg cells',r])→PbC E.P E.gl k p Ty ks ks' ds cells cells' r):S9 E.P E.gl k (BB Ty ks ks' st p g):=by
 intro I0 B I A T a w H H' ds0 vs r h hgl hB hs hl hr;unfold BB at hs;split at hs
 ·rename_i s g0 hp;split at hs
  ·rename_i o0 hlive;split at hs
   ·rename_i cells os ss2 ds ss hpk hsn;split at hs
    ·rename_i hcond;simp only[zc4,Bool.not_eq_true',zc7,zd9] at hcond;obtain⟨⟨hc1,hc2⟩,hnd,hsnd,hc3,hc4⟩:=hcond;split at hs
     ·rename_i cells' r' hgo;split at hs
      ·rename_i refs obs hun;cases hs;have hpa:p<ds0.length:=(zc1.1 hp).1;obtain⟨v0,hv0⟩:∃v0,vs[p]?=some v0:=⟨vs[p]'(by rw[←hl];exact hpa),by simp⟩;obtain⟨a1,a2,a3⟩:=eY (I:=I) (A:=A) (w:=w) (c7 h depth) _ _ _ hsn;have hdl:ds.length=ds0.length:=by rw[a1];simp
       have hgl1:Gl E.gl (eB I A (ss++ss2)) w:=fun g d hg=>(hgl g d hg).mono (fun _ hb=> .inl hb) (fun _ _=>rfl);have hargs:∀(j:Nat) (d:D) (v:Value),j≠p→ds[j]?=some d→vs[j]?=some v→RelC (eB I A (ss++ss2)) w d v:=fun j d v hj hd hv=>by
        obtain⟨d0,hd0,hr0⟩:=a3 j d hd;rw[List.getElem?_set_ne (Ne.symm hj)] at hd0;exact(hr0 v (hr j d0 v hd0 hv)).mono (fun b hb=>gG (fun s hs=>za9.2 (.inl hs)) hb) fun _ _=>rfl
       have hgP:=hg ds cells cells' r (by omega) hgo;unfold IG at hpk;split at hpk
       ·rename_i cs;split at hpk
        ·cases hpk
        rename_i hke;obtain⟨y,hy,hyB,c,e,hb,hcl,hrel,hfr⟩:=h.ob s g0 _ hlive;have hnI:¬I y.b:=fun hi=>by have:=hfr.2 hi;cases this
        have hvp:=(hr p _ v0 hp hv0).loc_inv hy;obtain⟨k1,k2,k3,k4,ow,k5,k6,k7,k8⟩:=u6 h hy ks cs c.toList cells os ss2 hpk (by simpa using hcl) (fun j d v hd hv=>hrel j d v hd (by simpa using hv));refine BC h hB hlive rfl (fun _ _ _ hx=>by cases hx) hy hb hnI (hyB.resolve_left hnI) k3 a2 k4 k6 hc1 hc2 hsnd hc3 hc4 hun fun hfz hnI1 hown=> ?_;have hgP:uZ E.P E.gl k p ks ks' ds cells cells' r∨c.size=0:=by
         unfold PbC at hgP;split at hgP
         ·exact .inr (by rw[←hcl,←k2];rfl)
         ·exact .inl hgP
        rcases hgP with hgP|h0
        ·exact hgP (eB I A (ss++ss2)) w y.b c e vs ow hfz.iw hgl1 hnI1 hb (by rw[k2];exact hcl) (by rw[k1];exact hcl) (by rw[k5];exact hcl)
          (fun j κ o d v h1 h2 h3 h4=>(k8 j κ o d v h1 h2 h3 (by simpa using h4)).mono fun b hb=>gG (fun s hs=>za9.2 (.inr hs)) hb) hown (k7 hnd) (by omega) (by omega) (by rw[hv0,hvp]) hargs
        ·exfalso;have hk0:ks=[]:=List.length_eq_zero_iff.1 (by rw[k1,hcl];exact h0);subst hk0;exact hke rfl
       ·rename_i c e;split at hpk
        ·rename_i hcd;simp only[zc4,ze8] at hcd;obtain⟨hcb,rfl⟩:=hcd;obtain rfl:=FD hcb;cases hpk;obtain⟨y,hy,hyB,hb,hnI⟩:=h.ob s g0 _ hlive;have hvp:=(hr p _ v0 hp hv0).loc_inv hy;refine BC h hB hlive rfl (fun _ _ _ hx=>by cases hx) hy hb hnI (hyB.resolve_left hnI) (fun _ hs=>by cases hs) a2 (fun _ hs=>by cases hs) (ow:=[]) (fun _ hs=>by cases hs) hc1 hc2 hsnd hc3 hc4 hun fun hfz hnI1 hown=> ?_;exact hgP (eB I A (ss++[])) w y.b vs hfz.iw hgl1 hnI1 hb (by omega) (by omega) (by rw[hv0,hvp]) hargs
        ·cases hpk
       ·cases hpk
      ·cases hs
     ·cases hs
    ·cases hs
   ·cases hs
  ·cases hs
 ·cases hs
end
def iS(H:List (Nat×Option Ob))(s g:Nat):List PK→List Knd→List D→Nat→List Nat→(List D→List (Nat×Ob)→Tree)→Tree
 |[],_,_,_,_,c=>c [] []
 | .cl::ks,κ::kd,cells,j,st,c=> .cell cells j fun d=>mA κ d fun d=>iS H s g ks kd cells (j+1) st fun r o=>c (d::r) o
 | .slf::ks,_::kd,cells,j,st,c=> .cell cells j fun d=> .tup d 0 fun _=>iS H s g ks kd cells (j+1) st fun r o=>c (.loc s g 0::r) o
 | .own e n::ks,_::kd,cells,j,t::st,c=> .cell cells j fun d=> .nil d (iS H s g ks kd cells (j+1) st fun r o=>c (.nils::r) o) fun f len cs=> .chk (!f) (iS H s g ks kd cells (j+1) st fun r o=>c (.own t (bG H t) len::r) ((t,.arr e n cs false)::o))
 |_,_,_,_,_,_=> .fail
def PA(P:Program)(k:FuncId)(kd:List Knd)(Ty:TypeId)(ks ks':List PK)(st:List Nat)(p:Nat)(g:List D→Option D)(H:List (Nat×Option Ob))(args:List D)(c:D→List (Nat×Option Ob)→Tree):Tree:=match args[p]? with
 |some (.loc s g0 0)=>(match bE H s g0 with
  |some o=>(match IG H s g0 Ty ks o,c6 (ci H depth) (args.set p .nils) with
   |some (cells,os,ss2),some (ds,ss)=>
    if(!(ss++ss2).contains s&&os.all (fun q=> !(ss++ss2).contains q))&&(decide os.Nodup&&(decide st.Nodup&&(!st.contains s&&st.all (fun q=>decide (q<H.length))))) then
     .opt (g (ds.set p (.agg cells))) fun r=> .tup r 2 fun l=> .cell l 0 fun a=> .agg a ks'.length fun cells'=> .cell l 1 fun x=>wW false P (uO P k) x fun x=>
      iS (dR (bN H (ss++ss2)) os) s g0 ks' kd cells' 0 st fun refs obs=>c x ((fQ (dR (bN H (ss++ss2)) os) obs).set s (g0+1,some (.box refs false)))
    else .fail
   |_,_=> .fail)
  |_=> .fail)
 |_=> .fail
def yN(P:Program)(k:FuncId)(kd:List Knd)(Ty:TypeId)(ks ks':List PK)(st:List Nat)(p:Nat)(g:List D→Option D):Inl:=⟨BB Ty ks ks' st p g,PA P k kd Ty ks ks' st p g⟩
section
variable {α:Type}{lf:Option D→Option α}{ef:List D→(Bool→Option α)→Option α}{x:α}
theorem mZ{l:List D}{j:Nat}{d:D}(h:l[j]?=some d):l.drop j=d::l.drop (j+1):=by
 obtain⟨hj,rfl⟩:=zc1.1 h;exact List.drop_eq_getElem_cons hj
theorem vE{H:List (Nat×Option Ob)}{s g:Nat}:∀(ks:List PK) (kd:List Knd) (cells:List D) (j:Nat) (st:List Nat) (c:List D→List (Nat×Ob)→Tree),bR lf ef (iS H s g ks kd cells j st c)=some x→j+ks.length=cells.length→
  ∃refs obs,dD H s g ks (cells.drop j) st=some (refs,obs)∧bR lf ef (c refs obs)=some x:=by
 intro ks
 induction ks with
 |nil=>
  intro kd cells j st c h hl;have:cells.drop j=[]:=List.drop_eq_nil_of_le (by simpa using Nat.le_of_eq hl.symm);exact⟨[],[],by rw[this];rfl,h⟩
 |cons κ ks ih=>
  intro kd cells j st c h hl;cases kd with
  |nil=>cases κ<;>cases h
  |cons k0 kd=>
   have hl':j+1+ks.length=cells.length:=by simpa [Nat.add_comm,Nat.add_left_comm,ze5] using hl
   cases κ with
   |cl=>
    simp only[iS] at h;obtain⟨d,hd,h⟩:=dS h;have h:=iy h;obtain⟨r,o,h1,h2⟩:=ih kd cells (j+1) st _ h hl';exact⟨d::r,o,by rw[mZ hd];simp only[dD,h1],h2⟩
   |slf=>
    simp only[iS] at h;obtain⟨d,hd,h⟩:=dS h;rw[sB] at h;unfold cy at h;split at h
    ·rename_i l;split at h
     ·rename_i hz;have:l=[]:=List.length_eq_zero_iff.1 hz;subst this;obtain⟨r,o,h1,h2⟩:=ih kd cells (j+1) st _ h hl';exact⟨.loc s g 0::r,o,by rw[mZ hd];simp only[dD,h1],h2⟩
     ·cases h
    ·cases h
   |own e n=>
    cases st with
    |nil=>cases h
    |cons t st=>
     simp only[iS] at h;obtain⟨d,hd,h⟩:=dS h;rw[yE] at h;cases d with
     |nils=>
      obtain⟨r,o,h1,h2⟩:=ih kd cells (j+1) st _ h hl';exact⟨.nils::r,o,by rw[mZ hd];simp only[dD,h1],h2⟩
     |slc f len cs=>
      obtain⟨hf,h⟩:=bO (h:bR lf ef (.chk _ _)=some x);have hf:f=false:=by simpa using hf
      subst hf;obtain⟨r,o,h1,h2⟩:=ih kd cells (j+1) st _ h hl';exact⟨_,_,by rw[mZ hd];simp only[dD,h1],h2⟩
     |_=>cases h
end
theorem Df{P:Program}{k:FuncId}{kd:List Knd}{Ty:TypeId}{ks ks':List PK}{st:List Nat}{p:Nat}{g:List D→Option D}:CB (yN P k kd Ty ks ks' st p g):=by
 intro α lf ef H args c x h;have h:bR lf ef (PA P k kd Ty ks ks' st p g H args c)=some x:=h;show∃r H',BB Ty ks ks' st p g H args=some (r,H')∧_;unfold PA at h;unfold BB;split at h
 ·rename_i s g0 hp;split at h
  ·rename_i cs hlive;split at h
   ·rename_i cells os ss2 ds ss hpk hsn;split at h
    ·rename_i hcond;obtain⟨r,hr,h⟩:=jM h;obtain⟨l,rfl,hl2,h⟩:=uR h;obtain⟨a,ha,h⟩:=dS h;rw[Er] at h;unfold dq at h;split at h
     ·rename_i cells';split at h
      ·rename_i hlen;obtain⟨y,hy,h⟩:=dS h;have h:=jO h;obtain⟨refs,obs,h1,h2⟩:=vE ks' kd cells' 0 st _ h (by omega);have hll:l=[.agg cells',y]:=by
        match l,hl2,ha,hy with
        |[u,v],_,ha,hy=>simp at ha hy;subst ha hy;rfl
       subst hll;rw[List.drop_zero] at h1;exact⟨y,_,by simp only[hcond,if_true,hr,h1],h2⟩
      ·cases h
     ·cases h
    ·cases h
   ·cases h
  ·cases h
 ·cases h
theorem lE{P:Program}{gl:Nat→Option D}{k:FuncId}{kd:List Knd}{Ty:TypeId}{ks ks':List PK}{st:List Nat}{p:Nat}{g:List D→Option D}(hen:∀vs w,(callFunc k vs).run P w= .ok (.enter k vs) w)
  (hg:∀ds cells cells' r,p<ds.length→g (ds.set p (.agg cells))=some (.tup [.agg cells',r])→PbC P gl k p Ty ks ks' ds cells cells' r):InlOK P gl k (yN P k kd Ty ks ks' st p g):=
 ⟨hen,II (E:={P:=P,gl:=gl,call:=fun _ _=>none,L:=0}) hg,Df⟩
def gN(fn:Func)(p:Nat)(cells ds:List D):List (Nat×Option Ob):=(cx fn (ds.set p (.loc p 0 0))).H.set p (1,some (.box (List.replicate cells.length .junk) false))
def IJ(fn:Func)(p:Nat)(ks:List PK)(st:List Nat)(cells ds:List D):Option St:=
 if decide st.Nodup&&(!st.contains p&&(decide (ks.length=cells.length)&&st.all (fun q=>decide (q<(gN fn p cells ds).length)))) then(match dD (gN fn p cells ds) p 0 ks cells st with
  |some q=>some ⟨(cx fn (ds.set p (.loc p 0 0))).T,(fQ (gN fn p cells ds) q.2).set p (1,some (.box q.1 false))⟩
  |none=>none) else none
noncomputable def mE(Te:TE)(ord:fX)(N:bY)(p:Nat)(ks ks':List PK)(st:List Nat)(fn:Func)(cells ds:List D):Option D:=match fn.body,IJ fn p ks st cells ds with
 |some c,some σ=>run (fG Te ord N c 1 σ (jz Te.E (.pbx p ks') fn))
 |_,_=>none
section
variable {I:Nat→Prop}{w:World}{fn:Func}{p:Nat}{cells ds:List D}
theorem qE(hp:p<ds.length):p<(gN fn p cells ds).length:=by
 unfold gN;rw[List.length_set];show p<(gE ((ds.set p (.loc p 0 0)).length+_)).length;rw[jw,List.length_set];omega
theorem og(hp:p<ds.length){s g:Nat}{o:Ob}(h:bE (gN fn p cells ds) s g=some o):s=p∧g=0∧o= .box (List.replicate cells.length .junk) false:=by
 have hlt:=qE (fn:=fn) (cells:=cells) hp;unfold gN at h hlt;rw[List.length_set] at hlt;by_cases hs:s=p
 ·subst hs;rw[bZ hlt] at h;split at h
  ·rename_i hg;exact⟨rfl,by omega,(Option.some.inj h).symm⟩
  ·cases h
 ·rw[ct (Ne.symm hs)] at h;rw[show(cx fn (ds.set p (.loc p 0 0))).H=gE ((ds.set p (.loc p 0 0)).length+(fn.ntmps-(ds.set p (.loc p 0 0)).length)) from rfl,ju] at h;cases h
theorem gr(hp:p<ds.length):bE (gN fn p cells ds) p 0=some (.box (List.replicate cells.length .junk) false):=by
 have hlt:=qE (fn:=fn) (cells:=cells) hp;unfold gN at hlt ⊢;rw[List.length_set] at hlt;rw[bZ hlt];rfl
theorem xb{b:Nat}{e:TypeId}{c vs:Array Value}{KK:Nat→Prop}(hp:p<ds.length)(hI:∀b,I b→b<w.heap.size)(hbI:¬I b)(hKb:¬KK b)(hb:w.heap[b]?=some (.cells c e (0,0)))(hcs:cells.length=c.size)
  (hvl:ds.length=vs.size) (hvp:vs[p]?=some (.pointer (some ⟨b,0,none⟩))) (hrr:∀(j:Nat) (d:D) (v:Value),j≠p→ds[j]?=some d→vs[j]?=some v→RelC I w d v):
  Inv I KK I (AP p b 0 0) ⟨(cx fn (ds.set p (.loc p 0 0))).T,gN fn p cells ds⟩ {tmps:=vs++Array.replicate (fn.ntmps-vs.size) undef,defers:=[]} w:=by
 refine⟨?_,fun t d v hd hv=> ?_,fun s g o ho=> ?_,fun s g x hx=> ?_,fun s g x s' g' x' h1 h2 _=> ?_,hI,fun b hb=> .inl hb,fun b hb=>hb,Marks.nil,.none fun s g o ho=>by obtain⟨_,_,rfl⟩:=og hp ho;rfl⟩
 ·simp[cx,js,hvl]
 ·have hd:((ds.set p (.loc p 0 0))++jo (fn.ntmps-(ds.set p (.loc p 0 0)).length))[t]?=some d:=hd;by_cases ht:t<ds.length
  ·rw[zb9 (by simpa using ht)] at hd;rw[Array.getElem?_append_left (by omega)] at hv;by_cases htp:t=p
   ·subst htp;rw[List.getElem?_set_self ht] at hd;cases hd;rw[hvp] at hv;cases hv;have hg:0<bG (gN fn t cells ds) t:=by
     have h0:=gr (fn:=fn) (cells:=cells) hp;rw[liveH_some] at h0;unfold bG;rw[h0];exact Nat.lt_succ_self _
    exact .loc t 0 0 _ hg fun x hx=>by
     obtain⟨_,_,rfl⟩:=lC hx;rfl
   ·rw[List.getElem?_set_ne (Ne.symm htp)] at hd;exact .clo (hrr t d v htp hd hv)
  ·rw[zb8 (by simpa using ht)] at hd;rw[Array.getElem?_append_right (by omega)] at hv;have e1:=jt _ _ _ hd;have e2:v=undef:=by
    rw[Array.getElem?_replicate] at hv;split at hv
    ·simpa using hv.symm
    ·cases hv
   subst e1 e2;exact iD
 ·obtain⟨rfl,rfl,rfl⟩:=og hp ho;refine⟨⟨b,0,0⟩,by simp[AP],.inr hKb,c,e,hb,by simp[hcs],fun j d v hd hv=> ?_,⟨(fun h=>by cases h),fun h=>absurd h hbI⟩⟩;have:=(List.mem_replicate.1 (List.mem_of_getElem? hd)).2;subst this;exact .clo (.junk v)
 ·obtain⟨rfl,rfl,rfl⟩:=lC hx;exact⟨_,gr hp⟩
 ·obtain⟨rfl,rfl,_⟩:=lC h1;obtain⟨rfl,rfl,_⟩:=lC h2;exact⟨rfl,rfl⟩
end
theorem BD{Te:TE}(hm:Te.E.P.follows .mixedOrders=true)(hcall:EnvOK Te.E)(hcst:∀k ds r,Te.cst k ds=some r→Te.E.call k ds=some r)(hit:Te.it=none)(hsq:∀g cs ys,Te.sq g cs=some ys→kK Te.E.P Te.E.gl g cs ys){f:FuncId}{fn:Func}(hf:Te.E.P.funcs[f]?=some fn){ord:fX}{N:bY}{cd:Code}(hbd:fn.body=some cd)(hok:nq Te.E.P ord cd=true){p:Nat}(hk0:∀t∈cZ cd,t≠p)
  {ks':List PK} {cells':List D} {r:D} {I:Nat→Prop} {w:World} {b:Nat} {c:Array Value} {e:TypeId} {vs:Array Value} {ow:List (Option Gh)} {σ0:St} (hI:∀x,I x→x<w.heap.size) (hgl:Gl Te.E.gl I w) (hbI:¬I b) (hb:w.heap[b]?=some (.cells c e (0,0))) (hks:ks'.length=c.size)
  (how:∀x,some x∈ow→x.b<w.heap.size∧¬I x.b∧x.b≠b) (hps:p<vs.size) (hvp:vs[p]?=some (.pointer (some ⟨b,0,none⟩)))
  (hst:∀KK:Nat→Prop,¬KK b→(∀y,some y∈ow→¬KK y.b)→(∀x,I x→KK x)→∃A0,Inv I KK I A0 σ0 {tmps:=vs++Array.replicate (fn.ntmps-vs.size) undef,defers:=[]} w)
  (he:run (fG Te ord N cd 1 σ0 (jz Te.E (.pbx p ks') fn))=some (.tup [.agg cells',r])):
  Calls Te.E.P f vs w fun en w'=>∃v c' e' I' ow',en= .returned v∧PbxE I w b c ow ks' cells' r w' v c' e' I' ow':=by
 have hbs:b<w.heap.size:=(zc0.1 hb).1;obtain⟨KK,hKK⟩:∃KK:Nat→Prop,KK=fun x=>x<w.heap.size∧x≠b∧∀y,some y∈ow→y.b≠x:=⟨_,rfl⟩;have hKb:¬KK b:=by rw[hKK];exact fun h=>h.2.1 rfl
 have hKo:∀y,some y∈ow→¬KK y.b:=fun y hy=>by rw[hKK];exact fun h=>h.2.2 y hy rfl
 have hIK:∀x,I x→KK x:=fun x hx=>by
  rw[hKK];exact⟨hI x hx,fun e1=>hbI (e1▸hx),fun y hy e1=>(how y hy).2.1 (e1▸hx)⟩
 have hKs:∀x,KK x→x<w.heap.size:=fun x hx=>by rw[hKK] at hx;exact hx.1
 have hnK:∀x,¬KK x→w.heap.size≤x∨x=b∨∃y,some y∈ow∧y.b=x:=fun x hx=>by
  rw[hKK] at hx;by_cases h1:x<w.heap.size
  ·by_cases h2:x=b
   ·exact .inr (.inl h2)
   ·refine .inr (.inr (Classical.byContradiction fun h3=>hx ⟨h1,h2,fun y hy e1=>h3 ⟨y,hy,e1⟩⟩))
  ·exact .inl (by omega)
 obtain⟨A0,hA0⟩:=hst KK hKb hKo hIK;refine callsIn_wide.1 (callsIn_of_wp_marks (F:=Fence.wide) (n:=0) hf hbd trivial ?_);refine gi hm hcall hcst hit hsq cd 1 hok (fun x=>x.tmps[p]?=some (.pointer (some ⟨b,0,none⟩))) KK I w Fence.wide 0 (.inl rfl) (.inl rfl) hgl hIK hKs (lD cd hk0) _ _ _ w _ ⟨I,_,hA0,Blw.refl _ _,(Array.getElem?_append_left hps).trans hvp⟩ he fun o σ a' w' hg hk=> ?_;obtain⟨I',A',h,hbel,hfx⟩:=hg;have key:run (C3 Te.E p ks' σ fn)=some (.tup [.agg cells',r])→LeavesInM Fence.wide 0 Te.E.P fn a'.tmps (fun en w'=>∃v c' e' I' ow',en= .returned v∧PbxE I w b c ow ks' cells' r w' v c' e' I' ow') a'.defers .returning w':=fun hend=>by
  refine n9 (tm:=a'.tmps) hIK ?_ _ I' A' a' w' rfl rfl h hbel;intro I2 A2 a2 w2 ht2 hd2 h2 hb2;unfold C3 at hend;split at hend
  ·rename_i s hT;split at hend
   ·rename_i hsp;subst hsp;split at hend
    ·rename_i cs hl;split at hend
     ·rename_i cells2 os ss hpk;split at hend
      ·rename_i hcond;simp only[zc4,Bool.not_eq_true',zc7,zd9] at hcond;obtain⟨⟨hc1,hc2⟩,hnd⟩:=hcond;split at hend
       ·rename_i d0 hres;have hee:(D.tup [.agg cells2,canon2 d0])= .tup [.agg cells',r]:=Option.some.inj hend;cases hee;obtain⟨T2,H2⟩:=σ;have hl:bE H2 s 0=some (.box cs false):=hl;obtain⟨y,hy,hyB,c2,e2,o1,o2,o3,o4⟩:=h2.ob s 0 _ hl;have hv0:a2.tmps[s]?=some (.pointer (some ⟨b,0,none⟩)):=by rw[ht2];exact hfx
        have hyb:y.b=b:=by have:=(h2.tv s _ _ hT hv0).loc_inv hy;cases this;rfl
        obtain⟨k1,k2,k3,k4,ow2,k5,k6,k7,k8⟩:=u6 h2 hy ks' cs c2.toList cells' os ss hpk (by simpa using o2) (fun j d v hd hv=>o3 j d v hd (by simpa using hv));have hnI2:¬I2 y.b:=fun hi=>by have:=o4.2 hi;cases this
        have hpss:s∉ss:=fun hm=>by have:ss.contains s=true:=(by simpa using hm);rw[this] at hc1;cases hc1
        obtain⟨hfz,_⟩:=h2.freeze ss k3.free;have hfz:Inv I KK (eB I2 A2 ss) A2 ⟨T2,bN H2 ss⟩ a2 w2:=hfz;have hqs:∀q∈os,q≠s∧q<H2.length:=fun q hq=>by
         obtain⟨g',e',n',rs,hlq⟩:=k4 q hq;refine⟨fun e1=> ?_,eJ hlq⟩;subst e1;have z2:=cz hl;have z3:=cz hlq;have:g'=0:=by omega
         subst this;rw[hl] at hlq;cases hlq
        have hnF:¬eB I2 A2 ss y.b:=by
         rintro (hi|⟨s',hs',g',y',hy',hb'⟩)
         ·exact hnI2 hi
         ·exact hpss ((h2.inj _ _ _ _ _ _ hy hy' hb').1▸hs')
        obtain⟨A3,h3,q1,q2,_,_⟩:=Inv.killsA os hfz (fun q hq=>by rw[ed];exact(hqs q hq).2);have hsos:s∉os:=fun hm=>(hqs s hm).1 rfl;have hsl:s<(dR (bN H2 ss) os).length:=by rw[oa,ed];exact eJ hl
        obtain⟨A4,h4,p1,p2,_⟩:=h3.kill s hsl;have hg3:bG (dR (bN H2 ss) os) s=1:=by rw[u0,genH_freeze];exact cz hl
        have h4:Inv I KK (eB I2 A2 ss) A4 ⟨T2,(dR (bN H2 ss) os).set s (1,none)⟩ a2 w2:=by
         have:=h4;unfold St.setOb at this;dsimp only at this;rw[hg3] at this;exact this
        have hA4:∀s' g' z,A4 s' g'=some z→s'≠s∧s'∉os∧A2 s' g'=some z:=fun s' g' z hz=>by
         by_cases es:s'=s
         ·subst es;rw[p2] at hz;cases hz
         ·rw[p1 s' g' es] at hz;by_cases hm:s'∈os
          ·rw[q2 s' g' hm] at hz;cases hz
          ·exact⟨es,hm,by rw[←q1 s' g' hm];exact hz⟩
        obtain⟨v,r1,r2⟩:=Bg h4 hres;have hown:∀x,some x∈ow2→∃q g',q∈os∧A2 q g'=some x∧¬I2 x.b∧¬KK x.b:=fun x hx=>by
         obtain⟨q,g',hq,hxq⟩:=k6 x hx;obtain⟨g'',e',n',rs,hlq⟩:=k4 q hq;obtain⟨o',ho'⟩:=h2.ar q g' x hxq;have ho':bE H2 q g'=some o':=ho';have hgg:g'=g'':=by
          have z2:=cz ho';have z3:=cz hlq;omega
         subst hgg;obtain⟨x',hx',hxB,cc,b1,b2,b3,b4,b5,b6,b7,b8⟩:=h2.ob q g' _ hlq;rw[hxq] at hx';cases hx';have hxI:¬I2 x.b:=fun hi=>by have:=b7.2 hi;cases this
         exact⟨q,g',hq,hxq,hxI,hxB.resolve_left hxI⟩
        have hheldK:∀z,yt (eB I2 A2 ss) A4 z→I z∨¬KK z:=fun z hz=>by
         rcases hz with hz|⟨s',g',z',hz',rfl⟩
         ·exact h4.io z hz
         ·obtain⟨o',ho'⟩:=h4.ar s' g' z' hz';obtain⟨z2,hz2,hB2,_⟩:=h4.ob s' g' o' ho';rw[hz'] at hz2;cases hz2;exact hB2.elim (h4.io _) .inr
        have hheldb:¬yt (eB I2 A2 ss) A4 y.b:=by
         rintro (hz|⟨s',g',z',hz',eb⟩)
         ·exact hnF hz
         ·obtain⟨z1,z2,z3⟩:=hA4 _ _ _ hz';exact z1 (h2.inj _ _ _ _ _ _ z3 hy eb.symm).1
        refine⟨v,r1,v,c2,e2,yt (eB I2 A2 ss) A4,ow2,rfl,?_⟩;refine⟨fun x hx=> .inl (.inl (h2.ii x hx)),fun x hx=> ?_,fun x hx=> ?_,r2.canon2,by rw[←hyb];exact o1,by rw[←o2,←k1,hks],by rw[k2,←k1,hks],by rw[k5,←k1,hks],fun j κ o d v z1 z2 z3 z4=> ?_,fun x hx=> ?_,k7 hnd,hb2.size,fun z z1 z2 z3=> ?_,hb2.os,hb2.tape,hb2.output⟩
        ·rcases hx with hx|⟨s',g',z',hz',rfl⟩
         ·exact h4.iw x hx
         ·exact h4.A_lt hz'
        ·rcases hheldK x hx with z1|z1
         ·exact .inl z1
         ·rcases hnK x z1 with z2|z2|z2
          ·exact .inr (.inl z2)
          ·exact absurd (by rw[hyb,←z2];exact hx) hheldb
          ·exact .inr (.inr z2)
        ·have:=(k8 j κ o d v z1 z2 z3 (by simpa using z4)).mono (I':=yt (eB I2 A2 ss) A4) fun b hb=> .inl hb;rw[hyb] at this;exact this
        ·obtain⟨q,g',hq,hxq,hxI,hxK⟩:=hown x hx;have hxb:x.b≠b:=fun e1=>(hqs q hq).1 (h2.inj _ _ _ _ _ _ hxq hy (e1.trans hyb.symm)).1;refine⟨?_,hxb,?_⟩
         ·rintro ((hz|⟨s',hs',g2,z',hz',eb⟩)|⟨s',g2,z',hz',eb⟩)
          ·exact hxI hz
          ·have e1:=(h2.inj _ _ _ _ _ _ hxq hz' eb).1;have:=hc2 q hq;have hm:ss.contains q=true:=by rw[e1];simpa using hs'
           rw[hm] at this;cases this
          ·obtain⟨_,z2,z3⟩:=hA4 _ _ _ hz';exact z2 ((h2.inj _ _ _ _ _ _ z3 hxq eb.symm).1▸hq)
         ·rcases hnK _ hxK with z2|z2|z2
          ·exact .inl z2
          ·exact absurd z2 hxb
          ·exact .inr z2
        ·exact hb2.block z (by rw[hKK];exact⟨z1,z2,z3⟩)
       ·cases hend
      ·cases hend
     ·cases hend
    ·cases hend
   ·cases hend
  ·cases hend
 cases o with
 |exit i=>cases hk
 |norm=>exact key hk
 |ret=>exact key hk
theorem FE{Te:TE}(hm:Te.E.P.follows .mixedOrders=true)(hcall:EnvOK Te.E)(hcst:∀k ds r,Te.cst k ds=some r→Te.E.call k ds=some r)(hit:Te.it=none)(hsq:∀g cs ys,Te.sq g cs=some ys→kK Te.E.P Te.E.gl g cs ys){f:FuncId}{fn:Func}(hf:Te.E.P.funcs[f]?=some fn){ord:fX}{N:bY}(hok:eh Te.E.P ord fn=true){p:Nat}(h0:gM p fn=true)
  {ks ks':List PK} {st:List Nat} {ds cells cells':List D} {r:D} (hkk:ks'.length=ks.length) (he:mE Te ord N p ks ks' st fn cells ds=some (.tup [.agg cells',r])):uZ Te.E.P Te.E.gl f p ks ks' ds cells cells' r:=by
 intro I w b c e vs ow hI hgl hbI hb hcl hkl hol hcell how hinj hp hdl hvp hrr;unfold mE at he;split at he
 ·rename_i cd σ0 hbd hst0;simp only[eh,hbd,zc4,Bool.not_eq_true'] at hok;have hk0:∀t∈cZ cd,t≠p:=fun t ht=>by
   unfold gM at h0;rw[hbd] at h0;simpa using zd9.1 h0 t ht
  refine BD hm hcall hcst hit hsq hf hbd hok.2 hk0 hI hgl hbI hb (by rw[hkk,hkl]) how (by omega) hvp (fun KK hKb hKo hIK=> ?_) he;unfold IJ at hst0;split at hst0
  ·rename_i hcond;simp only[zc4,Bool.not_eq_true',zc7,zd9] at hcond;obtain⟨hc1,hc2,hc3,hc4⟩:=hcond;have hpst:p∉st:=fun hm=>by have:st.contains p=true:=(by simpa using hm);rw[this] at hc2;cases hc2
   split at hst0
   ·rename_i q hq;cases hst0;have hb0:=xb (fn:=fn) (cells:=cells) hp hI hbI hKb hb hcl hdl hvp hrr;have hAp:AP p b 0 0 p 0=some ⟨b,0,0⟩:=by simp[AP]
    have hlen:=qE (fn:=fn) (cells:=cells) hp;have hgp:bG (gN fn p cells ds) p=1:=cz (gr hp);obtain⟨i1,i2,i3,A5,h5,i6,i7,i8⟩:=u7 (H1:=gN fn p cells ds) (s:=p) (g:=0) (y:=⟨b,0,0⟩) ks cells st q.1 q.2 c.toList ow (gN fn p cells ds) (AP p b 0 0) hq hb0 hAp (by rw[hgp];omega) (by simp[hcl]) (by simp[hol])
     (fun t ht=>⟨rfl,hc4 t ht,fun e1=>hpst (e1▸ht)⟩) hc1 (fun j κ o d v z1 z2 z3 z4=>hcell j κ o d v z1 z2 z3 (by simpa using z4)) (fun x hx=>⟨hKo x hx,(how x hx).2.1,fun s' g' z hz eb=>by
      obtain⟨_,_,rfl⟩:=lC hz;exact(how x hx).2.2 eb.symm,fun⟨z,j,hr⟩=>by
      obtain⟨s',g',e1,er,nr,cs1,c1,f',len,rs,cap,z1,z2,_⟩:=hr;obtain⟨_,_,z3⟩:=og hp z2;cases z3⟩) hinj
    have hobs:∀o∈q.2,o.1≠p:=fun o ho e1=>hpst (e1▸i3 o ho);have hl5:bE (fQ (gN fn p cells ds) q.2) p 0=some (.box (List.replicate cells.length .junk) false):=by
     rw[oe _ _ _ _ hobs];exact gr hp
    have hy5:A5 p 0=some ⟨b,0,0⟩:=by rw[i6 p 0 hpst];exact hAp
    obtain⟨h6,_⟩:=h5.set (o':= .box q.1 false) hl5 hy5 hbI (w':=w) rfl (fun _ _=>rfl) (fun hR=>⟨c,e,hb,by simp[i2],fun j d v hd hv=>hR _ _ (i8 j d v hd (by simpa using hv)),⟨(fun hh=>by cases hh),fun hi=>absurd hi hbI⟩⟩);have hfin:(⟨(cx fn (ds.set p (.loc p 0 0))).T,fQ (gN fn p cells ds) q.2⟩:St).setOb p (some (.box q.1 false))=⟨(cx fn (ds.set p (.loc p 0 0))).T,(fQ (gN fn p cells ds) q.2).set p (1,some (.box q.1 false))⟩:=by
     unfold St.setOb;dsimp only;rw[cz hl5]
    rw[hfin] at h6;exact⟨A5,h6⟩
   ·cases hst0
  ·cases hst0
 ·cases he
def Dg(fn:Func)(p:Nat)(Ty:TypeId)(ds:List D):St:=⟨(cx fn (ds.set p (.loc p 0 0))).T,(cx fn (ds.set p (.loc p 0 0))).H.set p (1,some (.raw Ax Ty))⟩
noncomputable def yO(Te:TE)(ord:fX)(N:bY)(p:Nat)(ks':List PK)(Ty:TypeId)(fn:Func)(ds:List D):Option D:=match fn.body with
 |some c=>run (fG Te ord N c 1 (Dg fn p Ty ds) (jz Te.E (.pbx p ks') fn))
 |none=>none
theorem FF{Te:TE}(hm:Te.E.P.follows .mixedOrders=true)(hcall:EnvOK Te.E)(hcst:∀k ds r,Te.cst k ds=some r→Te.E.call k ds=some r)(hit:Te.it=none)(hsq:∀g cs ys,Te.sq g cs=some ys→kK Te.E.P Te.E.gl g cs ys){f:FuncId}{fn:Func}(hf:Te.E.P.funcs[f]?=some fn){ord:fX}{N:bY}(hok:eh Te.E.P ord fn=true){p:Nat}(h0:gM p fn=true)
  {ks':List PK} {Ty:TypeId} {ds cells':List D} {r:D} (hkk:ks'.length=2) (he:yO Te ord N p ks' Ty fn ds=some (.tup [.agg cells',r])):IH Te.E.P Te.E.gl f p Ty ks' ds cells' r:=by
 intro I w b vs hI hgl hbI hb hp hdl hvp hrr;unfold yO at he;split at he
 ·rename_i cd hbd;simp only[eh,hbd,zc4,Bool.not_eq_true'] at hok;have hk0:∀t∈cZ cd,t≠p:=fun t ht=>by
   unfold gM at h0;rw[hbd] at h0;simpa using zd9.1 h0 t ht
  refine BD hm hcall hcst hit hsq hf hbd hok.2 hk0 hI hgl hbI hb (by rw[hkk];rfl) (fun x hx=>by cases hx) (by omega) hvp (fun KK hKb hKo hIK=> ?_) he;have hb0:=xb (fn:=fn) (cells:=[.nilp,.nils]) hp hI hbI hKb hb rfl hdl hvp hrr;have hAp:AP p b 0 0 p 0=some ⟨b,0,0⟩:=by simp[AP]
  obtain⟨h6,_⟩:=hb0.set (o':= .raw Ax Ty) (gr hp) hAp hbI (w':=w) rfl (fun _ _=>rfl) (fun _=>⟨hb,hbI⟩);have hfin:(⟨(cx fn (ds.set p (.loc p 0 0))).T,gN fn p [.nilp,.nils] ds⟩:St).setOb p (some (.raw Ax Ty))=Dg fn p Ty ds:=by
   unfold St.setOb Dg;dsimp only;rw[cz (gr hp)];unfold gN;rw[List.set_set]
  rw[hfin] at h6;exact⟨_,h6⟩
 ·cases he
end Go.Pd
end
