import Derived.Test.YtmhbhlbnlmbhlaaGreatDoorPdFe
import Derived.Deep.Slices
import Derived.ChangeReads
import Derived.ChangeOld
import Derived.OpenShut
import Derived.Carry
import Derived.ProofKit
section
namespace Go.Pd
open Go.RowKit
def Tp(ys:List (List D))(J:Nat→(Nat→Prop)→(Nat→Prop)→World→Prop)(Jx:(Nat→Prop)→(Nat→Prop)→World→Prop):Option Nat→(Nat→Prop)→(Nat→Prop)→World→Prop
 |some i,O,Fz,w=>i≤ys.length∧J i O Fz w
 |none,O,Fz,w=>Jx O Fz w
def kP(ys:List (List D)):Option Nat→List (List D)
 |some i=>ys.drop i
 |none=>[]
def AtI(ys:List (List D))(J:Nat→(Nat→Prop)→(Nat→Prop)→World→Prop)(Jx:(Nat→Prop)→(Nat→Prop)→World→Prop)(gl:Nat→Option D)(pos:Option Nat)(σ:St)(a:Act)(w:World):Prop:=
 ∃O Fz w0,Tp ys J Jx pos O Fz w0∧Gl gl Fz w0∧(∀b,Fz b→O b)∧(∀b,O b→b<w0.heap.size)∧Good (fun x=>x.defers=[]) O Fz w0 σ a w
def pT(P:Program)(ys:List (List D))(J:Nat→(Nat→Prop)→(Nat→Prop)→World→Prop)(Jx:(Nat→Prop)→(Nat→Prop)→World→Prop)(n l:Nat):Prop:=
 ∀(i:Nat) (y:List D) (O Fz I1:Nat→Prop) (W1:World) (args:Array Value),ys[i]?=some y→J i O Fz W1→(∀b,O b→b<W1.heap.size)→(∀b,I1 b→b<W1.heap.size)→(∀b,I1 b→Fz b∨¬O b)→y.length=args.size→
   (∀(j:Nat) (d:D) (v:Value),y[j]?=some d→args[j]?=some v→RelC I1 W1 d v)→
   YieldAt Fence.wide (n-1) P l args W1 fun e W'=>∃O' Fz',(∀b,O' b→O b∨W1.heap.size≤b∨I1 b)∧(∀b,O' b→b<W'.heap.size)∧(∀b,Fz b∨I1 b→Fz' b)∧(∀b,Fz' b→O' b)∧
    Blw (fun b=>b<W1.heap.size∧(¬O b∨Fz b∨I1 b)) W1 W'∧((e= .returned (.bool true)∧J (i+1) O' Fz' W')∨(e= .returned (.bool false)∧Jx O' Fz' W'))
theorem iZ(ops:Array Oper):rc (fun x=>x.defers=[]) ops:=fun i o _ a v h=>by
 cases hd:o.dst with
 |none=>exact h
 |some t=>exact h
theorem w8{ds:List D}{t f:Option (List (List D))}{r:List (List D)}(h:qW ds t f=some r):f=some []∧∃ys,t=some ys∧r=ds::ys:=by
 unfold qW at h;split at h
 ·split at h
  ·cases h;exact⟨rfl,_,rfl,rfl⟩
  ·cases h
 ·cases h
theorem mD{E:Env}{σ:St}{o:Oper}{l:Nat}{ds:List D}{ss:List Nat}(h:sA E σ o=some (l,ds,ss)):
  o.guard=none∧∃k f as,o.op= .call k∧k.callee= .value f∧σ.val E f=some (.fn (.yield l) [] [])∧gS E σ k.args.toList=some as∧c6 (ci σ.H depth) as=some (ds,ss):=by
 unfold sA at h;split at h
 ·rename_i k hg ho;split at h
  ·rename_i f hc;split at h
   ·rename_i l' as hf ha;split at h
    ·rename_i p hs;cases h;exact⟨hg,k,f,as,ho,hc,hf,ha,hs⟩
    ·cases h
   ·cases h
  ·cases h
 ·cases h
section
variable {ys:List (List D)}{J:Nat→(Nat→Prop)→(Nat→Prop)→World→Prop}{Jx:(Nat→Prop)→(Nat→Prop)→World→Prop}{E:Env}{n l:Nat}
theorem By(hJ:∀i,CP (J i))(hY:pT E.P ys J Jx n l){σ:St}{a:Act}{w:World}{i:Nat}(hat:AtI ys J Jx E.gl (some i) σ a w){o:Oper}{ds:List D}{ss:List Nat}{rest:List (List D)}(hy:sA E σ o=some (l,ds,ss))(hrem:ys.drop i=ds::rest)
  {K:Act→World→Prop} {Q:Exit→Act→World→Prop} (hK1:∀a' w',AtI ys J Jx E.gl (some (i+1)) ((σ.freeze ss).put o.dst (.bool true)) a' w'→K a' w')
  (hK2:∀a' w',AtI ys J Jx E.gl none ((σ.freeze ss).put o.dst (.bool false)) a' w'→K a' w'):o.wpIn Fence.wide n E.P a w K Q:=by
 obtain⟨hg,c,f,as,ho,hc,hf,ha,hsn⟩:=mD hy;obtain⟨O,Fz,w0,⟨hil,hj⟩,hgl,hFO,hO,I,A,h,hb,hdf⟩:=hat;have hyi:ys[i]?=some ds:=by
  have:=congrArg (fun l=>l[0]?) hrem;simpa [List.getElem?_drop] using this
 have hlt:i<ys.length:=(zc1.1 hyi).1;have hglw:=pI hgl hFO h hb;obtain⟨vx,vy,hvf,hx,hy',_⟩:=(cr h hglw hf).fn_inv;have ex:vx= #[]:=Array.eq_empty_of_size_eq_zero hx.symm;have ey:vy= #[]:=Array.eq_empty_of_size_eq_zero hy'.symm;subst ex ey;obtain⟨q1,q2⟩:=mv h hglw ha;obtain⟨a1,a2,a3⟩:=eY (I:=I) (A:=A) (w:=w) (c7 h depth) _ _ _ hsn;obtain⟨hfz,hRf⟩:=h.freeze ss a2.free;have hOw:∀b,O b→b<w.heap.size:=fun b hb'=>zb2 (hO b hb') hb.size;obtain⟨fn,tmps,assign,body,hrun,hround⟩:=hY i ds O Fz (eB I A ss) w (c.args.map a.eval) hyi (hJ i _ _ _ _ hj hb) hOw hfz.iw hfz.io (by simp[a1,q1]) (fun j d v hd hv=>by
  obtain⟨d0,hd0,hr0⟩:=a3 j d hd;exact hr0 v (q2 j d0 v hd0 (by rw[←Array.getElem?_toList,Array.toList_map] at hv;exact hv)))
 refine⟨fun f _=>trivial,?_⟩;have hexec:(execOp a.eval o).run E.P w= .ok (.round l fn tmps assign body) w:=by
  unfold execOp;rw[ho];simp[resolve,hc,hvf,Deferred.ofValue,invoke,hrun]
 rw[Oper.semAt_plain Fence.wide _ _ (fun c e=>by rw[ho] at e;cases e),hexec];refine⟨(fun hs=>by cases hs),hround.mono ?_⟩
 rintro e W' ⟨O',Fz',k1,k2,k3,k4,k5,k6⟩
 have hA:∀s g x,A s g=some x→x.b<w.heap.size∧(eB I A ss x.b∨¬O x.b):=fun s g x hx=>by
  refine⟨h.A_lt hx,?_⟩;obtain⟨o',ho'⟩:=hfz.ar s g x hx;obtain⟨x',hx',hB,_⟩:=hfz.ob s g o' ho';rw[hx] at hx';cases hx';exact hB
 have hs1:=hfz.same (w':=W') k5.size (fun b hb'=>k5.block b ⟨hfz.iw b hb',.inr (.inr hb')⟩) (fun s g x hx=>k5.block _ ⟨(hA s g x hx).1,(hA s g x hx).2.elim (fun h1=> .inr (.inr h1)) .inl⟩) (fun b ⟨x,j,hb'⟩=>k5.block b ⟨(hfz.rw.sep x j b hb').1,.inl (hfz.rw.sep x j b hb').2.2.1⟩);have hOx:∀s g x,A s g=some x→O' x.b→eB I A ss x.b:=fun s g x hx ho'=>by
  rcases k1 _ ho' with h1|h1|h1
  ·exact(hA s g x hx).2.elim id fun h2=>absurd h1 h2
  ·have:=(hA s g x hx).1;omega
  ·exact h1
 have hOr:∀b,RowB A (σ.freeze ss).H W' b→¬Fz' b∧¬O' b:=fun b hb'=>by
  obtain⟨x,j,hb'⟩:=hb'.back (w:=w) fun s g x hx=>k5.block _ ⟨(hA s g x hx).1,(hA s g x hx).2.elim (fun h1=> .inr (.inr h1)) .inl⟩;obtain⟨q1,q2,q3,_⟩:=hfz.rw.sep x j b hb';have hO':¬O' b:=fun ho'=>by
   rcases k1 _ ho' with h1|h1|h1
   ·exact q3 h1
   ·omega
   ·exact q2 h1
  exact⟨fun hf=>hO' (k4 _ hf),hO'⟩
 have hs2:Inv Fz' O' Fz' A (σ.freeze ss) a W':=by
  refine hs1.re (I0':=Fz') (KK':=O') (I':=Fz') (T':=(σ.freeze ss).T) (a':=a) (fun b hb'=>k3 b (.inr hb')) (fun s g x hx hf'=>hOx s g x hx (k4 _ hf')) (fun b hb'=>k2 b (k4 b hb')) (fun b hb'=> .inl hb') (fun _ hb'=>hb') (fun s g x hx=> ?_) (by rw[hdf];exact Marks.nil) hs1.tl
   (fun t d v hd hv=>(hs1.tv t d v hd hv).mono (fun b hb'=>k3 b (.inr hb')) (fun _ _=>rfl) (fun _=>zb0 _) (fun _ _ _ _ hx=>hx)) (fun b hb'=>hOr b hb')
  by_cases hox:O' x.b
  ·exact .inl (k3 _ (.inr (hOx s g x hx hox)))
  ·exact .inr hox
 have hgl':Gl E.gl Fz' W':=fun g d hg'=>(hgl g d hg').mono (fun b hb'=>k3 b (.inl hb')) (fun b hb'=>(k5.block b ⟨hOw b (hFO b hb'),.inr (.inl hb')⟩).trans (hb.block b (hFO b hb')));have hgood:∀(bb:Bool),Good (fun x=>x.defers=[]) O' Fz' W' ((σ.freeze ss).put o.dst (.bool bb)) (a.put o.dst (.bool bb)) W':=fun bb=>by
  refine⟨Fz',A,hs2.put o.dst (.clo (.bool bb)),Blw.refl _ _,?_⟩;cases hd:o.dst with
  |none=>exact hdf
  |some t=>exact hdf
 rcases k6 with⟨rfl,hj'⟩|⟨rfl,hj'⟩
 ·exact hK1 _ _ ⟨O',Fz',W',⟨hlt,hj'⟩,hgl',k4,k2,hgood true⟩
 ·exact hK2 _ _ ⟨O',Fz',W',hj',hgl',k4,k2,hgood false⟩
theorem AtI.imp{gl:Nat→Option D}{pos:Option Nat}{σ σ':St}{a a':Act}{w w':World}(h:AtI ys J Jx gl pos σ a w)(hg:∀O Fz w0,Good (fun x=>x.defers=[]) O Fz w0 σ a w→Good (fun x=>x.defers=[]) O Fz w0 σ' a' w'):AtI ys J Jx gl pos σ' a' w':=by
 obtain⟨O,Fz,w0,h1,h2,h3,h4,h5⟩:=h;exact⟨O,Fz,w0,h1,h2,h3,h4,hg _ _ _ h5⟩
theorem sC(hcall:EnvOK E){cst:Bn}(hcst:∀k ds r,cst k ds=some r→E.call k ds=some r)(hJ:∀i,CP (J i))(hY:pT E.P ys J Jx n l){ops:Array Oper}{Q:Exit→Act→World→Prop}{c:St→Tree}(hQ:∀pos' σ' a' w',AtI ys J Jx E.gl pos' σ' a' w'→lk (c σ')=some (kP ys pos')→Q .normal a' w'):
  ∀(m:List Nat) (pos:Option Nat) (σ:St) (a:Act) (w:World),AtI ys J Jx E.gl pos σ a w→lk (yy l E cst ops m σ c)=some (kP ys pos)→wpOpsIn Fence.wide n E.P ops Q m a w
 |[],pos,σ,a,w,hat,he=>hQ pos σ a w hat he
 |i::m,pos,σ,a,w,hat,he=>by
  rw[wpOpsIn_cons];simp only[yy] at he;split at he
  ·cases he
  ·rename_i o ho;split at he
   ·rename_i l' ds ss hy;obtain⟨hl,he⟩:=bO he;simp only[zc7] at hl;rw[hl] at hy;rw[Bq] at he;obtain⟨h1,ys',h2,h3⟩:=w8 he;simp only[iY] at h1 h2;cases pos with
    |none=>cases h3
    |some q=>
     unfold wpOpIn;simp only[ho];have hw:Region.wanted o (yielded ops a.tmps)=true:=by
      unfold Region.wanted;rw[(mD hy).1]
     rw[if_pos hw];refine By hJ hY hat hy h3 (fun a' w' hat'=>sC hcall hcst hJ hY hQ m _ _ _ _ hat' ?_) (fun a' w' hat'=>sC hcall hcst hJ hY hQ m _ _ _ _ hat' ?_)
     ·have h4:ys.drop (q+1)=ys':=by
       have:=congrArg (List.drop 1) (show ys.drop q=ds::ys' from h3);simpa [List.drop_drop] using this
      show _=some (ys.drop (q+1));rw[h4];exact h2
     ·exact h1
   ·obtain⟨σ1,h1,h2⟩:=lA hcst (fun k i hi=>(hcall.inl k i hi).tr) he;rw[iY] at h2;obtain⟨O,Fz,w0,k1,k2,k3,k4,hg⟩:=hat;exact kI (.inl rfl) hcall k2 k3 k4 (iZ ops) hg h1 fun a' w' hg'=>sC hcall hcst hJ hY hQ m pos σ1 a' w' ⟨O,Fz,w0,k1,k2,k3,k4,hg'⟩ h2
theorem Pw(hcall:EnvOK E){cst:Bn}(hcst:∀k ds r,cst k ds=some r→E.call k ds=some r)(hJ:∀i,CP (J i))(hY:pT E.P ys J Jx n l){ops:Array Oper}{Q:Exit→Act→World→Prop}{K:Act→World→Prop}{c:St→Tree}{i:Nat}{pos:Option Nat}{σ:St}{a:Act}{w:World}
  (hat:AtI ys J Jx E.gl pos σ a w) (he:lk (yy l E cst ops [i] σ c)=some (kP ys pos)) (hK:∀pos' σ' a' w',AtI ys J Jx E.gl pos' σ' a' w'→lk (c σ')=some (kP ys pos')→K a' w'):wpOpIn Fence.wide n E.P ops Q i K a w:=by
 simp only[yy] at he;split at he
 ·cases he
 ·rename_i o ho;split at he
  ·rename_i l' ds ss hy;obtain⟨hl,he⟩:=bO he;simp only[zc7] at hl;rw[hl] at hy;rw[Bq] at he;obtain⟨h1,ys',h2,h3⟩:=w8 he;simp only[iY] at h1 h2;cases pos with
   |none=>cases h3
   |some q=>
    unfold wpOpIn;simp only[ho];have hw:Region.wanted o (yielded ops a.tmps)=true:=by
     unfold Region.wanted;rw[(mD hy).1]
    rw[if_pos hw];refine By hJ hY hat hy h3 (fun a' w' hat'=>hK _ _ _ _ hat' ?_) (fun a' w' hat'=>hK _ _ _ _ hat' ?_)
    ·have h4:ys.drop (q+1)=ys':=by
      have:=congrArg (List.drop 1) (show ys.drop q=ds::ys' from h3);simpa [List.drop_drop] using this
     show _=some (ys.drop (q+1));rw[h4];exact h2
    ·exact h1
  ·obtain⟨σ1,h1,h2⟩:=lA hcst (fun k i hi=>(hcall.inl k i hi).tr) he;rw[iY] at h2;obtain⟨O,Fz,w0,k1,k2,k3,k4,hg⟩:=hat;exact kI (.inl rfl) hcall k2 k3 k4 (iZ ops) hg h1 fun a' w' hg'=>hK pos σ1 a' w' ⟨O,Fz,w0,k1,k2,k3,k4,hg'⟩ h2
theorem Px(hm:E.P.follows .mixedOrders=true)(hcall:EnvOK E){cst:Bn}(hcst:∀k ds r,cst k ds=some r→E.call k ds=some r)(hJ:∀i,CP (J i))(hY:pT E.P ys J Jx n l){ops:Array Oper}{id b:Nat}{Q:Exit→Act→World→Prop}{c:St→Tree}{pos:Option Nat}{σ:St}{a:Act}{w:World}
  (hok:gI E.P ops (List.range ops.size) [] []=true) (hb:wR ops=some b) (hat:AtI ys J Jx E.gl pos σ a w)
  (he:lk (pR E.still cst ops (List.range b) σ fun σ=>yy l E.still cst ops [b] σ fun σ=>pR E.still cst ops ((List.range ops.size).drop (b+1)) σ c)=some (kP ys pos))
  (hQ:∀pos' σ' a' w',AtI ys J Jx E.gl pos' σ' a' w'→lk (c σ')=some (kP ys pos')→Q .normal a' w'):(Code.region id ops true).wpIn Fence.wide n E.P Q a w:=by
 obtain⟨hbs,hb1,hb2⟩:=w7 hb;simp only[gI,zc4,zd9,List.mem_range,zc7] at hok;obtain⟨⟨⟨⟨_,_⟩,h3⟩,_⟩,h5⟩:=hok;have hrs:=rl hbs;obtain⟨O,Fz,w0,k1,k2,k3,k4,hgd⟩:=hat;obtain⟨σ1,e1,e2⟩:=ez (E:=E.still) hcst (fun _ _ h=>nomatch h) _ _ _ he;have hfil:(List.range b).filter (fm (Array.replicate ops.size false))=List.range b:=List.filter_eq_self.2 fun i hi=>by
  have:i<ops.size:=by have:=List.mem_range.1 hi;omega
  simp[fm,Array.getD,this]
 refine wpIn_region_any hm (uJ (E:=E.still) (Q:=Q) (π1:=List.range b) (π2:=(List.range ops.size).drop (b+1)) (b:=b) (R:=H7 ops) (m:=ops.size-b) (.inl rfl) hcall.still (mV _ _) k2 k3 k4 (iZ ops)
  (fun i hi=>by rw[←hrs];simpa using hi) h3 (ks:=[]) rfl (by rw[←hrs];exact h5) hb1 (σf:=σ1) ?_ ops.size _ σ a _ (by simp) (by rw[hfil];simp;omega) ?_ ?_ (fun _ _ _ _ _ _ _ hm=>by cases hm) (by rw[hfil,eS];exact e1) (hgd.drew k4 _))
 ·intro fuel listed a' w' hfu hsz hnil hun hcl hg';have hlist:∀j,j<b→listed.getD j false=true:=fun j hj=>by
   have hn:=List.filter_eq_nil_iff.1 hnil j (by simpa using hj);have hlt:j<listed.size:=by omega
   simp only[fm,Bool.not_eq_true',Bool.not_eq_false] at hn;simp only[Array.getD,hlt,dif_pos] at hn ⊢;exact hn
  obtain⟨fuel,rfl⟩:∃f,fuel=f+1:=⟨fuel-1,by omega⟩;have hRi:∀i,i∈Region.ready .any ops listed→∀j,m8 (H7 ops) i j=true→listed.getD j false=true:=fun i hi j hj=>by
   obtain⟨hlt,_,hbef⟩:=ready_iff.1 hi;obtain⟨k,hk,h|h⟩:=sv h3 hlt hj
   ·subst h;exact hbef k hk
   ·exact hcl k (hbef k hk) j h
  have hbl:listed.getD b false=false:=by
   have:=hun b (za4 ..);have hlt:b<listed.size:=by omega
   simp only[fm,Bool.not_eq_true'] at this;simp only[Array.getD,hlt,dif_pos] at this ⊢;exact this
  have hready:b∈Region.ready .any ops listed:=ready_iff.2 ⟨hbs,by
   have:=hun b (za4 ..);simpa [fm] using this,fun k hk=>by
   obtain⟨oi,_,b2,_⟩:=ia (List.range ops.size) [] h5 (List.range b) b _ hrs;rcases b2 k hk with h|h
   ·cases h
   ·exact hlist k (List.mem_range.1 h)⟩
  refine⟨fun hr=>(by rw[hr] at hready;cases hready),fun i hi=> ?_⟩;have hib:i=b:=by
   obtain⟨hlt,hil,_⟩:=ready_iff.1 hi;have hmem:i∈List.range b++b::(List.range ops.size).drop (b+1):=by rw[←hrs];simpa using hlt
   rcases za9.1 hmem with h|h
   ·have h1:=hlist i (List.mem_range.1 h);have hl:i<listed.size:=by omega
    simp only[Array.getD,hl,dif_pos] at h1 hil;rw[hil] at h1;cases h1
   ·rcases List.mem_cons.1 h with h|h
    ·exact h
    ·have h1:=hRi i hi b (hb2 i h);rw[hbl] at h1;cases h1
  subst hib;refine Pw (E:=E.still) hcall.still hcst hJ hY ⟨O,Fz,w0,k1,k2,k3,k4,hg'⟩ e2 fun pos2 σ2 a2 w2 hat2 hr2=> ?_;obtain⟨O2,Fz2,w02,m1,m2,m3,m4,hg2⟩:=hat2;obtain⟨σ3,f1,f2⟩:=ez (E:=E.still) hcst (fun _ _ h=>nomatch h) _ _ _ hr2;have hls:∀k,(listed.setIfInBounds i true).getD k false=true↔k=i∨listed.getD k false=true:=fun k=>by
   simp only[Array.getD_eq_getD_getElem?,Array.getElem?_setIfInBounds];by_cases e:i=k
   ·subst e;simp[hsz,hbs]
   ·simp[e,Ne.symm e]
  have hfil2:(List.range ops.size).filter (fm (listed.setIfInBounds i true))=(List.range ops.size).drop (i+1):=by
   have hu:∀k,k<ops.size→fm (listed.setIfInBounds i true) k= !(listed.setIfInBounds i true).getD k false:=fun k hk=>by
    simp[fm,Array.getD,hsz,hk]
   rw[hrs,List.filter_append,List.filter_cons];rw[List.filter_eq_nil_iff.2 (fun k hk=>by
    have hk':=List.mem_range.1 hk;rw[hu k (by omega),(hls k).2 (.inr (hlist k hk'))];simp),hu i hbs,(hls i).2 (.inl rfl)]
   simp only[Bool.not_true,Bool.false_eq_true,if_false,zb7];have hdd:(List.range i++i::(List.range ops.size).drop (i+1)).drop (i+1)=(List.range ops.size).drop (i+1):=by rw[←hrs]
   rw[hdd];refine List.filter_eq_self.2 fun k hk=> ?_;have h1:=hun k (za5 _ hk);obtain⟨hlt⟩:k<ops.size∧True:=⟨by simpa using List.mem_of_mem_drop hk,trivial⟩;have hne:k≠i:=fun e=>by
    subst e;have:=List.nodup_range (n:=ops.size);rw[hrs] at this;have:=(List.nodup_append.1 this).2.1;exact(List.nodup_cons.1 this).1 hk
   rw[hu k hlt];cases hx:(listed.setIfInBounds i true).getD k false with
   |false=>rfl
   |true=>
    rcases(hls k).1 hx with h|h
    ·exact absurd h hne
    ·simp only[fm,Bool.not_eq_true'] at h1;have hl:k<listed.size:=by omega
     simp only[Array.getD,hl,dif_pos] at h1 h;rw[h1] at h;cases h
  refine nU (E:=E.still) (.inl rfl) hcall.still (hst:=mV _ _) m2 m3 m4 (iZ ops) (π:=List.range ops.size) (ks:=[]) (fs:=[]) (R:=H7 ops) (fun i hi=>by simpa using hi) h3 rfl h5 (fun a3 w3 hg3=>hQ pos2 σ3 a3 w3 ⟨O2,Fz2,w02,m1,m2,m3,m4,hg3⟩ f2)
   fuel _ σ2 a2 w2 (by simp[hsz]) (by rw[hfil2];simp;omega) ?_ (fun _ _ _ _ _ _ hm=>by cases hm) (by rw[hfil2,eS];exact f1) hg2
  intro k hk j hj;rcases(hls k).1 hk with rfl|hk
  ·exact(hls j).2 (.inr (hRi k hi j hj))
  ·exact(hls j).2 (.inr (hcl k hk j hj))
 ·intro k hk;exfalso;simp only[Array.getD,Array.size_replicate] at hk;split at hk<;>simp at hk
 ·intro i hi;have:i<ops.size:=by
   have:i∈List.range ops.size:=by rw[hrs];exact za9.2 (.inr hi)
   simpa using this
  simp[fm,Array.getD,this]
end
theorem lB{Te:TE}{ys:List (List D)}{J:Nat→(Nat→Prop)→(Nat→Prop)→World→Prop}{Jx:(Nat→Prop)→(Nat→Prop)→World→Prop}{n l:Nat}(hm:Te.E.P.follows .mixedOrders=true)(hcall:EnvOK Te.E)(hcst:∀k ds r,Te.cst k ds=some r→Te.E.call k ds=some r)(hit:Te.it=some l)
  (hJ:∀i,CP (J i)) (hY:pT Te.E.P ys J Jx n l) {ord:fX} {N:bY}:∀(c:Code) (p:Nat),nq Te.E.P ord c=true→∀(pos:Option Nat) (σ:St) (k:Out→St→Tree) (a:Act) (w:World) (Q:Exit→Act→World→Prop),AtI ys J Jx Te.E.gl pos σ a w→lk (fG Te ord N c p σ k)=some (kP ys pos)→
   (∀r pos' σ' a' w',AtI ys J Jx Te.E.gl pos' σ' a' w'→lk (k r σ')=some (kP ys pos')→Q (Bf r) a' w')→c.wpIn Fence.wide n Te.E.P Q a w
 | .skip,p,_,pos,σ,k,a,w,Q,hg,he,hQ=>by
  exact wpIn_skip (hQ .norm pos σ _ _ hg he)
 | .region id ops false,p,_,pos,σ,k,a,w,Q,hg,he,hQ=>by
  simp only[fG,hit] at he;exact wpIn_region (sC hcall hcst hJ hY (fun pos' σ' a' w' hat hr=>hQ .norm pos' σ' a' w' hat hr) _ pos σ a w hg he)
 | .region id ops true,p,hok,pos,σ,k,a,w,Q,hg,he,hQ=>by
  simp only[fG,hit] at he;simp only[nq] at hok;split at he
  ·rename_i ho;simp only[ho] at hok;split at he
   ·obtain⟨O,Fz,w0,k1,k2,k3,k4,hgd⟩:=hg;obtain⟨σ',h1,h2⟩:=ez (E:=Te.E.still) hcst (fun _ _ h=>nomatch h) _ _ _ he;exact mW (.inl rfl) hm hcall k2 k3 k4 (ks:=[]) (fs:=[]) (iZ ops) hok hgd ((eS ..).trans h1) fun a' w' hg'=>hQ .norm pos σ' a' w' ⟨O,Fz,w0,k1,k2,k3,k4,hg'⟩ h2
   ·rename_i b hb;exact Px hm hcall hcst hJ hY hok hb hg he fun pos' σ' a' w' hat hr=>hQ .norm pos' σ' a' w' hat hr
  ·rename_i i ho;simp only[ho] at hok;split at he
   ·cases he
   rename_i hbar;simp only[hbar] at hok;obtain⟨O,Fz,w0,k1,k2,k3,k4,hgd⟩:=hg;obtain⟨σ',h1,h2⟩:=rk (E:=Te.E.stillF _) hcst (fun _ _ h=>nomatch h) _ _ _ _ he;exact mW (.inl rfl) hm hcall k2 k3 k4 (iZ ops) hok hgd h1 fun a' w' hg'=>hQ .norm pos σ' a' w' ⟨O,Fz,w0,k1,k2,k3,k4,hg'⟩ h2
 | .seq x y,p,hok,pos,σ,k,a,w,Q,hg,he,hQ=>by
  simp only[nq,zc4] at hok;simp only[fG] at he;refine wpIn_seq (lB hm hcall hcst hit hJ hY x (2*p) hok.1 pos σ _ a w _ hg he fun r pos' σ' a' w' hg' hr=> ?_);cases r with
  |norm=>
   simp only[uP,Lt] at hr;split at hr
   ·exact lB hm hcall hcst hit hJ hY y (2*p+1) hok.2 pos' σ' k a' w' Q hg' hr hQ
   ·obtain⟨i',σ1,_,hs,hr⟩:=gq hr;have hr2:lk (fG Te ord N y (2*p+1) σ1 k)=some (kP ys pos'):=by
     cases hC:Te.C (2*p+1) with
     |zero=>rw[hC] at hr;cases hr
     |succ m=>rw[hC] at hr;exact hr
    exact lB hm hcall hcst hit hJ hY y (2*p+1) hok.2 pos' σ1 k a' w' Q (hg'.imp fun _ _ _ h=>h.norm hs) hr2 hQ
  |exit id=>exact hQ (.exit id) pos' σ' a' w' hg' hr
  |ret=>exact hQ .ret pos' σ' a' w' hg' hr
 | .cond c x y,p,hok,pos,σ,k,a,w,Q,hg,he,hQ=>by
  simp only[nq,zc4] at hok;simp only[fG] at he;obtain⟨O,Fz,w0,k1,k2,k3,k4,I,A,h,hb,hfx⟩:=id hg;split at he
  ·rename_i t hc;rcases iR he with⟨ht,he⟩|⟨ht,he⟩
   ·subst ht;rw[ib hc] at he;exact wpIn_cond_true (cr h (pI k2 k3 h hb) hc).bool_inv (lB hm hcall hcst hit hJ hY x (2*p) hok.1 pos σ k a w Q hg he hQ)
   ·subst ht;rw[ib hc] at he;exact wpIn_cond_false (cr h (pI k2 k3 h hb) hc).bool_inv (lB hm hcall hcst hit hJ hY y (2*p+1) hok.2 pos σ k a w Q hg he hQ)
  ·cases he
 | .block id c,p,hok,pos,σ,k,a,w,Q,hg,he,hQ=>by
  simp only[nq] at hok;simp only[fG] at he;refine wpIn_block (lB hm hcall hcst hit hJ hY c (2*p) hok pos σ _ a w _ hg he fun r pos' σ' a' w' hg' hr=> ?_);cases r with
  |norm=>exact hQ .norm pos' σ' a' w' hg' hr
  |ret=>exact hQ .ret pos' σ' a' w' hg' hr
  |exit i=>
   simp only[Ls] at hr;simp only[Bf,Exit.inBlock];split at hr
   ·rename_i e;rw[if_pos e];exact hQ .norm pos' σ' a' w' hg' hr
   ·rename_i e;rw[if_neg e];exact hQ (.exit i) pos' σ' a' w' hg' hr
 | .loop c,p,hok,pos,σ,k,a,w,Q,hg,he,hQ=>by
  simp only[nq] at hok;simp only[fG] at he;obtain⟨i,σ1,hi,hs,he⟩:=gq he;have key:∀(m:Nat) (pos:Option Nat) (σ:St) (a:Act) (w:World),AtI ys J Jx Te.E.gl pos σ a w→lk (lP (nt (N p) p (fG Te ord N c (2*p)) k) m σ)=some (kP ys pos)→Code.roundsIn Fence.wide n Te.E.P c Q m a w:=by
   intro m
   induction m with
   |zero=>intro pos σ a w _ hl;cases hl
   |succ m ih=>
    intro pos σ a w hg hl;have hl2:lk (fG Te ord N c (2*p) σ (uP (fun σ'=>jL (N p) p σ' (lP (nt (N p) p (fG Te ord N c (2*p)) k) m)) k))=some (kP ys pos):=hl;refine lB hm hcall hcst hit hJ hY c (2*p) hok pos σ _ a w _ hg hl2 fun r pos' σ' a' w' hg' hr=> ?_;cases r with
    |norm=>
     obtain⟨i',σ2,_,hs2,hr⟩:=gq (show bR S6 (fun ds c=>qW ds (c true) (c false)) (jL (N p) p σ' (lP (nt (N p) p (fG Te ord N c (2*p)) k) m))=some (kP ys pos') from hr);exact ih pos' σ2 a' w' (hg'.imp fun _ _ _ h=>h.norm hs2) hr
    |exit id=>exact hQ (.exit id) pos' σ' a' w' hg' hr
    |ret=>exact hQ .ret pos' σ' a' w' hg' hr
  exact wpIn_loop_rounds Te.E.L (key Te.E.L pos σ1 a w (hg.imp fun _ _ _ h=>h.norm hs) he)
 | .exit id,p,_,pos,σ,k,a,w,Q,hg,he,hQ=>by
  exact wpIn_exit (hQ (.exit id) pos σ _ _ hg he)
 | .ret,p,_,pos,σ,k,a,w,Q,hg,he,hQ=>by
  exact wpIn_ret (hQ .ret pos σ _ _ hg he)
 | .scope c,p,hok,pos,σ,k,a,w,Q,hg,he,hQ=>by
  simp only[nq] at hok;simp only[fG] at he;refine wpIn_wide.2 (wp_scope_straight (wpIn_wide.1 (lB hm hcall hcst hit hJ hY c (2*p) hok pos σ k a w _ hg he fun r pos' σ' a' w' hg' hr=> ?_)));have:=hQ r pos' σ' a' w' hg' hr;cases r<;>exact this
 | .label l,p,_,pos,σ,k,a,w,Q,hg,he,hQ=>by
  simp only[fG] at he;exact wpIn_label (hQ .norm pos σ _ _ hg he)
 | .rangeFunc ..,_,_,_,_,_,_,_,_,_,he,_=>by
  simp only[fG,hit] at he;cases he
 | .goto _,_,_,_,_,_,_,_,_,_,he,_=>by simp only[fG] at he;cases he
 | .refuse _,_,_,_,_,_,_,_,_,_,he,_=>by simp only[fG] at he;cases he
theorem IB{α:Type}{f:Nat→Option α}{r:α}(h:Io f=some r)(l:Nat):f l=some r:=by
 unfold Io at h;split at h
 ·rename_i hc;rw[hc l];exact h
 ·cases h
theorem Da{α:Type}(x:Option α):Io (fun _=>x)=x:=by simp[Io]
theorem IC{Te:TE}(hm:Te.E.P.follows .mixedOrders=true)(hcall:EnvOK Te.E)(hcst:∀k ds r,Te.cst k ds=some r→Te.E.call k ds=some r){f:FuncId}{fn:Func}(hf:Te.E.P.funcs[f]?=some fn){ord:fX}{N:bY}(hok:eh Te.E.P ord fn=true)(hres:fn.results.toList=[]){caps:List D}{ys:List (List D)}
  (he:Ip Te ord N fn caps=some ys):kK Te.E.P Te.E.gl f caps ys:=by
 unfold Ip at he;split at he
 ·cases he
 ·rename_i c hb;simp only[eh,hb,zc4,Bool.not_eq_true'] at hok;refine⟨fun vs w=> ?_,fun n l I w vcaps O Fz J Jx hIF hFO hO hgl hl hr hJ hJx hY h0=> ?_⟩
  ·unfold callFunc;have hne:¬fn.name= "runtime.NumGoroutine":=by simpa using hok.1
   simp[hf,hne,hb]
  ·have he':=IB he l;refine callsIn_of_wp_marks (F:=Fence.wide) (n:=n) hf hb trivial ?_;have hres':fn.results= #[]:=by rw[←Array.toArray_toList (xs:=fn.results),hres]
   obtain⟨vs0,hvs0⟩:∃vs0:Array Value,vs0= #[Value.func (.yield l) #[] #[]]++vcaps:=⟨_,rfl⟩;rw[←hvs0];have hstart:Inv Fz O Fz (fun _ _=>none) (cx fn (.fn (.yield l) [] []::caps)) {tmps:=vs0++Array.replicate (fn.ntmps-vs0.size) undef,defers:=[]} w:=by
    refine wT (fun b hb'=>hO b (hFO b hb')) (by rw[hvs0];simp[hl];omega) (fun j d v hd hv=> ?_);rw[hvs0] at hv;cases j with
    |zero=>
     simp at hd;rw[Array.getElem?_append_left (by simp)] at hv;simp at hv;subst hd hv;exact .fn _ [] [] #[] #[] rfl rfl (fun j d v hd=>by simp at hd) (fun j d v hd=>by simp at hd)
    |succ j=>
     simp at hd;rw[Array.getElem?_append_right (by simp)] at hv;exact(hr j d v hd (by simpa using hv)).mono hIF (fun _ _=>rfl)
   have hat:AtI ys J Jx Te.E.gl (some 0) (cx fn (.fn (.yield l) [] []::caps)) {tmps:=vs0++Array.replicate (fn.ntmps-vs0.size) undef,defers:=[]} w:=
    ⟨O,Fz,w,⟨Nat.zero_le _,h0⟩,fun g d hg=>(hgl g d hg).mono hIF (fun _ _=>rfl),hFO,hO,Fz,_,hstart,Blw.refl _ _,rfl⟩
   refine lB (Te:={Te with it:=some l}) hm hcall hcst rfl hJ (fun i y O Fz I1 W1 args a1 a2 a3 a4 a5 a6 a7=>hY i y O Fz I1 W1 args a1 a2 a3 a4 a5 a6 a7) c 1 hok.2 (some 0) _ _ _ w _ hat he' fun o pos σ a' w' hat' hk=> ?_;obtain⟨O',Fz',w0',hp,_,_,_,I',A',hi',hb',hd'⟩:=hat';have key:LeavesInM Fence.wide n Te.E.P fn a'.tmps (fun e w'=>(∃v,e= .returned v)∧((∃O' Fz',J ys.length O' Fz' w')∨(∃O' Fz',Jx O' Fz' w'))) a'.defers .returning w':=by
    rw[hd'];refine⟨.tuple #[],?_,⟨_,rfl⟩,?_⟩
    ·rw[lw,hres'];simp
    ·have hrem:kP ys pos=[]:=by
      cases o with
      |exit i=>cases hk
      |norm=>
       simp only[jz] at hk;split at hk
       ·rename_i d0 _;have:lk (.leaf (some d0))=some []:=rfl;rw[this] at hk;exact(Option.some.inj hk).symm
       ·cases hk
      |ret=>
       simp only[jz] at hk;split at hk
       ·rename_i d0 _;have:lk (.leaf (some d0))=some []:=rfl;rw[this] at hk;exact(Option.some.inj hk).symm
       ·cases hk
     cases pos with
     |none=>exact .inr ⟨O',Fz',hJx _ _ _ _ hp hb'⟩
     |some i=>
      have hi:i=ys.length:=by
       have h1:=hp.1;have h2:=congrArg List.length (show ys.drop i=[] from hrem);simp at h2;omega
      subst hi;exact .inl ⟨O',Fz',hJ _ _ _ _ _ hp.2 hb'⟩
   cases o with
   |norm=>exact key
   |ret=>exact key
   |exit i=>cases hk
section
variable {E:Env}{I0:Nat→Prop}{w0:World}
end
end Go.Pd
end
section
namespace Go.Pd
section
variable {α:Type}{r:α}
@[simp] theorem bx(t e:α):bz true t e=t:=rfl
@[simp] theorem bv(t e:α):bz false t e=e:=rfl
theorem ID(b:Bool)(t e:α):bz b t e=if b=true then t else e:=by cases b<;>rfl
@[simp] theorem bC(t:Option α):bH true t=t:=rfl
@[simp] theorem Py(t:Option α):bH false t=none:=rfl
theorem Bz{b:Bool}{t:Option α}(h:bH b t=some r):b=true∧t=some r:=by cases b;cases h;exact⟨rfl,h⟩
@[simp] theorem bA{β:Type}(x:β)(c:β→Option α):bB (some x) c=c x:=rfl
@[simp] theorem PQ{β:Type}(c:β→Option α):bB none c=none:=rfl
@[simp] theorem bF(k:IntKind)(n:Int)(c:Int→Option α):bD k (.int k n) c=c n:=by simp[bD]
@[simp] theorem cj(b:Bool)(c:Bool→Option α):ce (.bool b) c=c b:=rfl
@[simp] theorem bP(b:ByteArray)(c:ByteArray→Option α):bU (.str b) c=c b:=rfl
@[simp] theorem cL(f:Bool)(n:Nat)(cs:List D)(c:Bool→Nat→List D→Option α):dr (.slc f n cs) c=c f n cs:=rfl
@[simp] theorem Tq(n:Nat)(cs:List D)(c:List D→Option α):dq (.agg cs) n c=if cs.length=n then c cs else none:=rfl
@[simp] theorem Tr(n:Nat)(cs:List D)(c:List D→Option α):cy (.tup cs) n c=if cs.length=n then c cs else none:=rfl
theorem cT{cs:List D}{i:Nat}{d:D}(h:cs[i]?=some d)(c:D→Option α):bu cs i c=c d:=by simp[bu,h]
end
end Go.Pd
end
section
namespace Go.Pd
open Go.RowKit Go.ChangeShapes
def uT(P:Program)(fl:TypeId→Bool):List Field→Nat→Option Nat
 |[],off=>some off
 |f::fs,off=>if f.offset=off∧fl f.type=true then uT P fl fs (off+P.cellsOf f.type) else none
def nx(P:Program):Nat→TypeId→Bool
 |0,_=>false
 |n+1,t=>match P.underlying t with
  |some .bool=>P.cellsOf t==1
  |some (.int _)=>P.cellsOf t==1
  |some .string=>P.cellsOf t==1
  |some (.slice e)=>P.cellsOf t==1&&nx P n e
  |some (.struct fs)=>uT P (nx P n) fs.toList 0==some (P.cellsOf t)
  |some (.array m e)=>nx P n e&&P.cellsOf t==m*P.cellsOf e
  |_=>false
def Ty(P:Program):Nat→TypeId→List D→Prop
 |0,_,_=>False
 |n+1,t,ds=>match P.underlying t with
  |some .bool=>∃b,ds=[.bool b]
  |some (.int k)=>∃x,ds=[.int k x]∧(Lit.int k x).wf=true
  |some .string=>∃s,ds=[.str s]∧s.size≤maxLen
  |some (.slice e)=>∃gs:List (List D),ds=[.slc false gs.length gs.flatten]∧gs.length≤maxLen∧∀g∈gs,Ty P n e g
  |some (.struct fs)=>∃gs:List (List D),ds=gs.flatten∧gs.length=fs.size∧∀(i:Nat) (f:Field) (g:List D),fs.toList[i]?=some f→gs[i]?=some g→Ty P n f.type g
  |some (.array m e)=>∃gs:List (List D),ds=gs.flatten∧gs.length=m∧∀g∈gs,Ty P n e g
  |_=>False
def RowRel(I:Nat→Prop)(w:World)(ds:List D)(cs:List Value):Prop:=
 ds.length=cs.length∧∀(j:Nat) (d:D) (v:Value),ds[j]?=some d→cs[j]?=some v→RelC I w d v
section
variable {I:Nat→Prop}{w:World}{P:Program}
theorem RowRel.one{d:D}{v:Value}(h:RelC I w d v):RowRel I w [d] [v]:=
 ⟨rfl,fun j d' v' hd hv=>by cases j with|zero=>simp at hd hv;subst hd hv;exact h|succ j=>simp at hd⟩
theorem RowRel.append{a b:List D}{x y:List Value}(h1:RowRel I w a x)(h2:RowRel I w b y):RowRel I w (a++b) (x++y):=by
 refine⟨by simp[h1.1,h2.1],fun j d v hd hv=> ?_⟩;by_cases hj:j<a.length
 ·rw[zb9 hj] at hd;rw[zb9 (by rw[←h1.1];exact hj)] at hv;exact h1.2 j d v hd hv
 ·rw[zb8 (by omega)] at hd;rw[zb8 (by rw[←h1.1];omega),←h1.1] at hv;exact h2.2 _ d v hd hv
theorem RowRel.nil:RowRel I w [] []:=⟨rfl,fun j d v h=>by simp at h⟩
theorem uU{fl:TypeId→Bool}{T:TypeId→List D→Prop}{cs:List Value}:∀(fs:List Field) (off total:Nat),uT P fl fs off=some total→total≤cs.length→
  (∀f∈fs,fl f.type=true→((cs.drop f.offset).take (P.cellsOf f.type)).length=P.cellsOf f.type→∃ds,T f.type ds∧RowRel I w ds ((cs.drop f.offset).take (P.cellsOf f.type)))→
  off≤total∧∃gs:List (List D),gs.length=fs.length∧(∀(i:Nat) (f:Field) (g:List D),fs[i]?=some f→gs[i]?=some g→T f.type g)∧RowRel I w gs.flatten ((cs.drop off).take (total-off))
 |[],off,total,h,hl,_=>by
  simp only[uT,za0] at h;subst h;exact⟨zb0 _,[],rfl,(fun i f g hf=>by simp at hf),by simp[RowRel.nil]⟩
 |f::fs,off,total,h,hl,hx=>by
  simp only[uT] at h;split at h
  ·rename_i hc;obtain⟨ho,hfl⟩:=hc;obtain⟨h1,gs,h2,h3,h4⟩:=uU fs (off+P.cellsOf f.type) total h hl (fun f' hf'=>hx f' (za5 _ hf'));obtain⟨ds,h5,h6⟩:=hx f (by simp) hfl (by rw[List.length_take,List.length_drop];omega);refine⟨by omega,ds::gs,by simp[h2],fun i f' g hf hg=> ?_,?_⟩
   ·cases i with
    |zero=>simp at hf hg;subst hf hg;exact h5
    |succ i=>simp at hf hg;exact h3 i f' g hf hg
   ·rw[List.flatten_cons];have e:total-off=P.cellsOf f.type+(total-(off+P.cellsOf f.type)):=by omega
    rw[e,List.take_add,List.drop_drop];rw[ho] at h6;exact h6.append h4
  ·cases h
theorem rn{s:Nat}:∀(gs:List (List D)),(∀g∈gs,g.length=s)→∀(j:Nat) (d:D),gs.flatten[j]?=some d→∃(i r:Nat) (g:List D),gs[i]?=some g∧g[r]?=some d∧j=i*s+r
 |[],_,j,d,h=>by simp at h
 |g::gs,hs,j,d,h=>by
  rw[List.flatten_cons] at h;by_cases hj:j<g.length
  ·rw[zb9 hj] at h;exact⟨0,j,g,rfl,h,by simp⟩
  ·rw[zb8 (by omega)] at h;obtain⟨i,r,g',h1,h2,h3⟩:=rn gs (fun g hg=>hs g (za5 _ hg)) _ d h;refine⟨i+1,r,g',by simpa using h1,h2,?_⟩;have:=hs g (by simp);rw[Nat.add_mul];omega
theorem uV{α:Type}{p:Nat→α→Prop}:∀(n:Nat),(∀i,i<n→∃x,p i x)→∃l:List α,l.length=n∧∀i x,l[i]?=some x→p i x
 |0,_=>⟨[],rfl,fun i x h=>by simp at h⟩
 |n+1,h=>by
  obtain⟨l,h1,h2⟩:=uV n (fun i hi=>h i (by omega));obtain⟨x,hx⟩:=h n (by omega);refine⟨l++[x],by simp[h1],fun i y hy=> ?_⟩;by_cases hi:i<l.length
  ·rw[zb9 hi] at hy;exact h2 i y hy
  ·rw[zb8 (by omega)] at hy;have:i-l.length=0:=by
    have:=(zc1.1 hy).1;simp at this;omega
   rw[this] at hy;simp at hy;subst hy;have:i=n:=by omega
   subst this;exact hx
theorem sD{H:Type}{enc:TypeId×Value→H}{base:Nat}{spare:Nat→Bool}{held:Bool}(hI:∀b,b<w.heap.size→I b):∀(n:Nat) (m:Nat) (t:TypeId) (cs:List Value) (x:DataW H×List MemPlace),nx P n t=true→
  DataW.trod enc P w base spare held m t cs=some x→∃ds,Ty P n t ds∧RowRel I w ds cs∧ds.length=P.cellsOf t
 |0,_,_,_,_,h,_=>by cases h
 |n+1,m,t,cs,x,hf,h=>by
  unfold nx at hf;unfold Ty;split at hf
  ·rename_i hu;obtain⟨b,rfl,_⟩:=DataW.trod_bool hu h;exact⟨[.bool b],⟨b,rfl⟩,.one (.bool b),(ze8.1 hf).symm⟩
  ·rename_i k hu;obtain⟨x',rfl,_,hw⟩:=DataW.trod_int hu h;exact⟨[.int k x'],⟨x',rfl,hw⟩,.one (.int k x'),(ze8.1 hf).symm⟩
  ·rename_i hu;obtain⟨s,rfl,_,hw⟩:=DataW.trod_string hu h;exact⟨[.str s],⟨s,rfl,hw⟩,.one (.str s),(ze8.1 hf).symm⟩
  ·rename_i e hu;simp only[zc4,ze8] at hf;rcases Deep.open_slice hu h with⟨rfl,_⟩|⟨a,len,cap,m',n',Dd,Pl,rfl,hb,hl,hm,hmm,_,hx⟩
   ·exact⟨[.slc false 0 []],⟨[],rfl,Nat.zero_le _,fun g hg=>by cases hg⟩,.one (.slcn false),by simpa using hf.1.symm⟩
   ·have hlm:len≤m':=by rw[hmm];split<;>omega
    obtain⟨gs,g1,g2⟩:=uV (p:=fun i (g:List D)=>Ty P n e g∧g.length=P.cellsOf e∧∀(r:Nat) (d:D),g[r]?=some d→∃v,w.cell? (a.add (i*P.cellsOf e+r))=some v∧RelC I w d v) len (fun i hi=>by
     obtain⟨cs',c1,c2⟩:=hx i (by omega);obtain⟨ds,d1,d2,d3⟩:=sD hI n n' e cs' _ hf.2 c2;obtain⟨_,e1,e2⟩:=World.cells?_some c1;refine⟨ds,d1,d3,fun r d hd=> ?_⟩;have hr:r<cs'.length:=by rw[←d2.1];exact(zc1.1 hd).1
     have:=e2 r (by omega);rw[mU] at this;refine⟨cs'[r],?_,d2.2 r d _ hd (zd5 hr)⟩;rw[this,zd5 hr])
    have hlen:∀g∈gs,g.length=P.cellsOf e:=fun g hg=>by
     obtain⟨i,hi,rfl⟩:=List.getElem_of_mem hg;exact(g2 i _ (zd5 hi)).2.1
    have key:∀(j:Nat) (d:D),gs.flatten[j]?=some d→∃v,w.cell? (a.add j)=some v∧RelC I w d v:=fun j d hd=>by
     obtain⟨i,r,g,q1,q2,rfl⟩:=rn gs hlen j d hd;exact(g2 i g q1).2.2 r d q2
    refine⟨[.slc false gs.length gs.flatten],⟨gs,rfl,by omega,fun g hg=> ?_⟩,.one ?_,by simpa using hf.1.symm⟩
    ·obtain⟨i,hi,rfl⟩:=List.getElem_of_mem hg;exact(g2 i _ (zd5 hi)).1
    ·rw[g1];refine .slc false len gs.flatten a cap (fun j=>(w.cell? (a.add j)).getD undef) (fun hp=> ?_) (fun h=>by cases h) hl (fun j d hd=> ?_) (fun j d hd=> ?_)
     ·obtain⟨v,hv,_⟩:=key 0 _ (zd5 hp);refine hI _ ?_;unfold World.cell? at hv;rw[gn] at hv;cases hq:w.heap[a.block]? with
      |none=>simp[hq] at hv
      |some o=>exact(zc0.1 hq).1
     ·obtain⟨v,hv,_⟩:=key j d hd;simp[hv]
     ·obtain⟨v,hv,hr⟩:=key j d hd;simp only[hv,Option.getD_some];exact hr
  ·rename_i fs hu;simp only[ze8] at hf;obtain⟨xs,n',_,_,hl,hxl,hx⟩:=DataW.trod_struct hu h;obtain⟨_,gs,g1,g2,g3⟩:=uU (T:=Ty P n) (cs:=cs) fs.toList 0 _ hf (by omega) (fun f hff hfl hlen=>by
    obtain⟨i,hi,hfi⟩:=List.getElem_of_mem hff;have hi':i<fs.size:=by simpa using hi
    have h1:=hx i f (by rw[←hfi];simp[hi']);rw[zd5 (by omega)] at h1;obtain⟨ds,d1,d2,_⟩:=sD hI n n' f.type _ _ hfl h1;exact⟨ds,d1,d2⟩)
   have e:(cs.drop 0).take (P.cellsOf t-0)=cs:=by
    rw[Nat.sub_zero,List.drop_zero,←hl,List.take_length]
   rw[e] at g3;exact⟨gs.flatten,⟨gs,rfl,by simpa using g1,g2⟩,g3,by rw[g3.1,hl]⟩
  ·rename_i m' e hu;simp only[zc4,ze8] at hf;obtain⟨xs,n',_,_,hl,hxl,hx⟩:=DataW.trod_array hu h;obtain⟨gs,g1,g2⟩:=uV (p:=fun i (g:List D)=>Ty P n e g∧g.length=P.cellsOf e∧RowRel I w g ((cs.drop (i*P.cellsOf e)).take (P.cellsOf e))) m' (fun i hi=>by
    have h1:=hx i hi;rw[zd5 (by omega)] at h1;obtain⟨ds,d1,d2,d3⟩:=sD hI n n' e _ _ hf.1 h1;exact⟨ds,d1,d3,d2⟩)
   have key:∀(gs:List (List D)) (k:Nat),(∀(i:Nat) (g:List D),gs[i]?=some g→RowRel I w g ((cs.drop ((k+i)*P.cellsOf e)).take (P.cellsOf e)))→(∀g∈gs,g.length=P.cellsOf e)→(k+gs.length)*P.cellsOf e≤cs.length→
     RowRel I w gs.flatten ((cs.drop (k*P.cellsOf e)).take (gs.length*P.cellsOf e)):=by
    intro gs
    induction gs with
    |nil=>intro k _ _ _;simp[RowRel.nil]
    |cons g gs ih=>
     intro k hg hgl hk;have h1:=hg 0 g rfl;have h2:=ih (k+1) (fun i g' hg'=>by
      have:=hg (i+1) g' (by simpa using hg')
      rwa [show k+1+i=k+(i+1) by omega]) (fun g hg=>hgl g (za5 _ hg)) (by rw[show k+1+gs.length=k+(g::gs).length by simp;omega];exact hk)
     rw[List.flatten_cons,za7,Nat.add_mul,Nat.one_mul,Nat.add_comm (gs.length*P.cellsOf e),List.take_add,List.drop_drop];rw[Nat.add_zero] at h1;rw[Nat.add_mul,Nat.one_mul] at h2;exact h1.append h2
   have hgl:∀g∈gs,g.length=P.cellsOf e:=fun g hg=>by
    obtain⟨i,hi,rfl⟩:=List.getElem_of_mem hg;exact(g2 i _ (zd5 hi)).2.1
   have h3:=key gs 0 (fun i g hg=>by simpa using (g2 i g hg).2.2) hgl (by rw[Nat.zero_add,g1,hl,hf.2];exact zb0 _);have e:(cs.drop (0*P.cellsOf e)).take (gs.length*P.cellsOf e)=cs:=by
    rw[Nat.zero_mul,List.drop_zero,g1,←hf.2,←hl,List.take_length]
   rw[e] at h3;exact⟨gs.flatten,⟨gs,rfl,g1,fun g hg=>by
    obtain⟨i,hi,rfl⟩:=List.getElem_of_mem hg;exact(g2 i _ (zd5 hi)).1⟩,h3,by rw[h3.1,hl]⟩
  ·cases hf
end
end Go.Pd
end
section
namespace Go.Pd
open Go.RowKit Go.ChangeShapes Go.WideShapes
def pU(P:Program)(t:TypeId)(ds:List D):D:=match eQ P t with
 |some true=> .agg ds
 |_=>ds.headD .junk
def BA(P:Program)(n:Nat):List TypeId→List (List D)→Prop
 |[],[]=>True
 |t::ts,c::cs=>Ty P n t c∧BA P n ts cs
 |_,_=>False
def ic(P:Program):List TypeId→List (List D)→List D
 |t::ts,c::cs=>pU P t c::ic P ts cs
 |_,_=>[]
def uW(P:Program)(t:TypeId):Bool:=P.readableRec t&&decide (t<P.types.size)&&nx P 12 t
section
variable {I:Nat→Prop}{w:World}{P:Program}{H:Type}{enc:TypeId×Value→H}
theorem Pz{base b0:Nat}{r:Reach}{spare:Nat→Bool}{held:Bool}{n:Nat}(hI:∀b,b<w.heap.size→I b){t:TypeId}{v:Value}{d:DataW H}{ps:List MemPlace}(hf:nx P n t=true)(hv:Value.okWide P w r b0 t v)
  (h:DataW.Trod enc P w base spare held t v d ps):∃c,Ty P n t c∧RelC I w (pU P t c) v:=by
 obtain⟨m,hm⟩:=h;obtain⟨c,c1,c2,c3⟩:=sD hI n m t _ _ hf hm;refine⟨c,c1,?_⟩;cases n with
 |zero=>cases hf
 |succ n=>
  have one:∀{u:Value},v=u→u.cells= #[u]→eQ P t≠some true→RelC I w (pU P t c) v:=fun {u} e1 e2 hag=>by
   subst e1;rw[e2] at c2;obtain⟨l,rr⟩:=c2;have:pU P t c=c.headD .junk:=by
    unfold pU;split
    ·rename_i h;exact absurd h hag
    ·rfl
   rw[this]
   match c,l with
   |[x],_=>exact rr 0 x _ rfl rfl
  have many:∀{vs:Array Value},v= .agg vs→eQ P t=some true→RelC I w (pU P t c) v:=fun {vs} e hag=>by
   subst e;have:pU P t c= .agg c:=by unfold pU;rw[hag]
   rw[this];exact .agg c vs (by simpa [Value.cells] using c2.1) fun j d u hd hu=>c2.2 j d u hd (by simpa [Value.cells] using hu)
  have hf':=hf;unfold nx at hf';split at hf'
  ·rename_i hu;obtain⟨b,rfl⟩:=okWide_bool hu hv;exact one rfl rfl (by simp[eQ,hu])
  ·rename_i k hu;obtain⟨x,rfl⟩:=okWide_int hu hv;exact one rfl rfl (by simp[eQ,hu])
  ·rename_i hu;obtain⟨s,rfl⟩:=okWide_string hu hv;exact one rfl rfl (by simp[eQ,hu])
  ·rename_i e hu;obtain⟨a,len,cap,rfl⟩:=okWide_slice hu hv;exact one rfl rfl (by simp[eQ,hu])
  ·rename_i fs hu;obtain⟨cs,rfl,_⟩:=okWide_struct hu hv;exact many rfl (by simp[eQ,hu])
  ·rename_i m' e hu;have:∃cs,v= .agg cs:=by
    unfold Value.okWide at hv;rw[hu] at hv;obtain⟨cs,rfl,_⟩:=hv;exact⟨cs,rfl⟩
   obtain⟨cs,rfl⟩:=this;exact many rfl (by simp[eQ,hu])
  ·cases hf'
theorem Es{base b0:Nat}{r:Reach}{spare:Nat→Bool}{held:Bool}{n:Nat}(hI:∀b,b<w.heap.size→I b):∀(ts:List TypeId) (vs:List Value) (ds:List (DataW H)) (ps:List MemPlace),(∀t∈ts,nx P n t=true)→
  (∀(j:Nat) t v,ts[j]?=some t→vs[j]?=some v→Value.okWide P w r b0 t v)→DataW.TrodAll enc P w base spare held ts vs ds ps→
  ∃cs,BA P n ts cs∧(ic P ts cs).length=vs.length∧∀(j:Nat) (d:D) (v:Value),(ic P ts cs)[j]?=some d→vs[j]?=some v→RelC I w d v
 |[],vs,ds,ps,_,_,h=>by
  obtain⟨rfl,rfl,rfl⟩:=trodAll_nil h;exact⟨[],trivial,rfl,fun j d v h=>by simp[ic] at h⟩
 |t::ts,vs,ds,ps,hf,hv,h=>by
  obtain⟨v,vs1,d,ds1,p,q,rfl,rfl,rfl,h1,h2⟩:=trodAll_cons h;obtain⟨c,c1,c2⟩:=Pz hI (hf t (by simp)) (hv 0 t v rfl rfl) h1;obtain⟨cs,e1,e2,e3⟩:=Es hI ts vs1 ds1 q (fun t ht=>hf t (za5 _ ht)) (fun j t v ht hvv=>hv (j+1) t v (by simpa using ht) (by simpa using hvv)) h2;refine⟨c::cs,⟨c1,e1⟩,by simp[ic,e2],fun j d u hd hu=> ?_⟩;cases j with
  |zero=>simp[ic] at hd hu;subst hd hu;exact c2
  |succ j=>simp[ic] at hd hu;exact e3 j d u hd hu
theorem ny(hl:laidOutB P=true){W W':World}(hb:Below W.heap.size W W'):∀(ts:List TypeId) (vs:List Value) (ds:List (DataW H)) (ps:List MemPlace),(∀t∈ts,uW P t=true)→
  DataW.TrodAll enc P W 0 (fun _=>true) true ts vs ds ps→(∀x∈ps,x.block<W.heap.size)→DataW.TrodAll enc P W' 0 (fun b=>decide (b<W.heap.size)) true ts vs ds ps
 |[],vs,ds,ps,_,h,_=>by
  obtain⟨rfl,rfl,rfl⟩:=trodAll_nil h;exact trodAll_mk0
 |t::ts,vs,ds,ps,hc,h,hlt=>by
  obtain⟨v,vs1,d,ds1,p,q,rfl,rfl,rfl,h1,h2⟩:=trodAll_cons h;have h3:=hc t (by simp);simp only[uW,zc4,zc7] at h3;exact⟨p,q,Below.trod hl h3.1.1 h3.1.2 h1 hb (fun x hx=>hlt x (List.mem_append_left _ hx)),
   ny hl hb ts vs1 ds1 q (fun t ht=>hc t (za5 _ ht)) h2 (fun x hx=>hlt x (List.mem_append_right _ hx)),rfl⟩
end
end Go.Pd
end
section
namespace Go.Pd
open Go.RowKit
def Db(P:Program)(gl:Nat→Option D)(k:FuncId)(cs:List D)(len:Nat)(rest cs':List D)(m:Option Nat):Prop:=
 ∀(I:Nat→Prop) (w:World) (b cap n:Nat) (e:TypeId) (c:Array Value) (vrest:Array Value),
  (∀b,I b→b<w.heap.size)→Gl gl I w→¬I b→w.heap[b]?=some (.cells c e (0,0))→c.size=cap*n→cap≤maxLen→len≤cap→cs.length=len*n→cs.all D.plainZ=true→
  (∀(j:Nat) (d:D) (v:Value),cs[j]?=some d→c[j]?=some v→d.toVZ=some v)→rest.length=vrest.size→(∀(j:Nat) (d:D) (v:Value),rest[j]?=some d→vrest[j]?=some v→RelC I w d v)→
  cs'.all D.plainZ=true→(match m with|none=>cs'.length=cs.length|some m=>cs'.length=m*n∧m≤len)→
  Calls P k (#[.slice (some ⟨b,0,none⟩) len cap]++vrest) w fun en w'=>en= .returned (match m with|none=> .tuple #[]|some m=> .slice (some ⟨b,0,none⟩) m cap)∧
   ∃c',w'.heap[b]?=some (.cells c' e (0,0))∧c'.size=c.size∧(∀(j:Nat) (d:D) (v:Value),cs'[j]?=some d→c'[j]?=some v→d.toVZ=some v)∧
    w.heap.size≤w'.heap.size∧(∀k,k<w.heap.size→k≠b→w'.heap[k]?=w.heap[k]?)∧w'.os=w.os∧w'.tape=w.tape∧w'.output=w.output
theorem IE{P:Program}{gl:Nat→Option D}{k:FuncId}{g:pc}(hen:∀vs w,(callFunc k vs).run P w= .ok (.enter k vs) w)(h:∀cs len rest cs' m,g cs len rest=some (cs',m)→Db P gl k cs len rest cs' m):AT P gl k g:=
 ⟨hen,fun I w b cap n len e c cs rest cs' m vrest h1 h2 h3 h4 h5 h6 h7 h8 h9 h10 h11 h12 hg h13 h14=>h cs len rest cs' m hg I w b cap n e c vrest h1 h2 h3 h4 h5 h6 h7 h8 h9 h10 h11 h12 h13 h14⟩
section
variable {I:Nat→Prop}{w:World}
def A0(b cap len:Nat)(s g:Nat):Option Gh:=if s=0∧g=0 then some ⟨b,cap,len⟩ else none
theorem yL{b cap len s g:Nat}{x:Gh}(h:A0 b cap len s g=some x):s=0∧g=0∧x=⟨b,cap,len⟩:=by
 unfold A0 at h;split at h
 ·rename_i hh;exact⟨hh.1,hh.2,(Option.some.inj h).symm⟩
 ·cases h
theorem jw:∀k,(gE k).length=k
 |0=>rfl
 |k+1=>by simp[gE,jw k]
theorem uX(v:Value)(x y:Array Value):((#[v]++x)++y)[0]?=some v:=by
 rw[Array.append_assoc,Array.getElem?_append_left (by simp)];rfl
theorem rp{fn:Func}{e:TypeId}{n len:Nat}{cs rest:List D}{s g:Nat}{o:Ob}(h:bE (j4 fn e n len cs rest).H s g=some o):s=0∧g=0∧o= .arr e n cs false:=by
 by_cases hs:s=0
 ·subst hs;have h0:(0:Nat)<(cx fn (.own 0 0 len::rest)).H.length:=by
   show 0<(gE ((rest.length+1)+_)).length;rw[jw];omega
  unfold j4 at h;rw[bZ h0] at h;split at h
  ·rename_i hg;exact⟨rfl,by omega,(Option.some.inj h).symm⟩
  ·cases h
 ·unfold j4 at h;rw[ct (Ne.symm hs)] at h;rw[show(cx fn (.own 0 0 len::rest)).H=gE ((D.own 0 0 len::rest).length+(fn.ntmps-(D.own 0 0 len::rest).length)) from rfl,ju] at h;cases h
theorem pV{fn:Func}{e:TypeId}{n len:Nat}{cs rest:List D}:bE (j4 fn e n len cs rest).H 0 0=some (.arr e n cs false):=by
 have h0:(0:Nat)<(cx fn (.own 0 0 len::rest)).H.length:=by
  show 0<(gE ((rest.length+1)+_)).length;rw[jw];omega
 unfold j4;rw[bZ h0];rfl
theorem uY{fn:Func}{e:TypeId}{b cap n len:Nat}{cs rest:List D}{c:Array Value}{vrest:Array Value}(hI:∀b,I b→b<w.heap.size)(hbI:¬I b)(hb:w.heap[b]?=some (.cells c e (0,0)))(hcs:c.size=cap*n)(hcap:cap≤maxLen)(hlen:len≤cap)(hcl:cs.length=len*n)
  (hcell:∀(j:Nat) (d:D) (v:Value),cs[j]?=some d→c[j]?=some v→d.toVZ=some v) (hrl:rest.length=vrest.size) (hrr:∀(j:Nat) (d:D) (v:Value),rest[j]?=some d→vrest[j]?=some v→RelC I w d v):
  Inv I (fun x=>x<w.heap.size∧x≠b) I (A0 b cap len) (j4 fn e n len cs rest) {tmps:=(#[.slice (some ⟨b,0,none⟩) len cap]++vrest)++Array.replicate (fn.ntmps-(#[Value.slice (some ⟨b,0,none⟩) len cap]++vrest).size) undef,defers:=[]} w:=by
 refine⟨?_,fun t d v hd hv=> ?_,fun s g o ho=> ?_,fun s g x hx=> ?_,fun s g x s' g' x' h1 h2 _=> ?_,hI,fun b hb=> .inl hb,fun b hb=>hb,Marks.nil,.none fun s g o ho=>by obtain⟨_,_,rfl⟩:=rp ho;rfl⟩
 ·simp[j4,cx,js,hrl];omega
 ·have hd:((D.own 0 0 len::rest)++jo (fn.ntmps-(D.own 0 0 len::rest).length))[t]?=some d:=hd;cases t with
  |zero=>
   simp at hd;subst hd;rw[uX] at hv;have hv:Value.slice (some ⟨b,0,none⟩) len cap=v:=Option.some.inj hv;subst hv;have hg:0<bG (j4 fn e n len cs rest).H 0:=by
    have h0:=pV (fn:=fn) (e:=e) (n:=n) (len:=len) (cs:=cs) (rest:=rest);rw[liveH_some] at h0;unfold bG;rw[h0];exact Nat.lt_succ_self _
   exact .own 0 0 len ⟨b,0,none⟩ cap hg hlen fun x hx=>by
    obtain⟨_,_,rfl⟩:=yL hx;exact⟨rfl,rfl,rfl⟩
  |succ t=>
   by_cases ht:t<rest.length
   ·rw[List.cons_append,List.getElem?_cons_succ,zb9 ht] at hd;have hv:vrest[t]?=some v:=by
     rw[Array.getElem?_append_left (by simp;omega),Array.getElem?_append_right (by simp)] at hv;simpa using hv
    exact .clo (hrr t d v hd hv)
   ·rw[List.cons_append,List.getElem?_cons_succ,zb8 (by omega)] at hd;rw[Array.getElem?_append_right (by simp;omega)] at hv;have e1:=jt _ _ _ hd;have e2:v=undef:=by
     rw[Array.getElem?_replicate] at hv;split at hv
     ·simpa using hv.symm
     ·cases hv
    subst e1 e2;exact iD
 ·obtain⟨rfl,rfl,rfl⟩:=rp ho;have hrel:∀(j:Nat) (d:D) (v:Value),cs[j]?=some d→c[j]?=some v→RelC I w d v:=fun j d v hd hv=>pm (hcell j d v hd hv);refine⟨⟨b,cap,len⟩,by simp[A0],.inr (fun h=>h.2 rfl),c,hb,hcs,hcap,hlen,hcl,fun j d v hd hv=> .clo (hrel j d v hd hv),⟨(fun h=>by cases h),fun h=>absurd h hbI⟩,fun d hd=> ?_⟩;obtain⟨j,hj,rfl⟩:=List.getElem_of_mem hd;have hjc:j<c.size:=by rw[hcs];have:=Nat.mul_le_mul_right n hlen;omega
  exact(hrel j _ _ (zd5 hj) (Array.getElem?_eq_getElem hjc)).clo
 ·obtain⟨rfl,rfl,rfl⟩:=yL hx;exact⟨_,pV⟩
 ·obtain⟨rfl,rfl,_⟩:=yL h1;obtain⟨rfl,rfl,_⟩:=yL h2;exact⟨rfl,rfl⟩
end
def qD(fn:Func):Bool:=match fn.body with
 |none=>false
 |some c=>(cZ c).all fun t=>t !=0
theorem fO{v0:Value}:∀(c:Code),(∀t∈cZ c,t≠0)→Fq (fun x:Act=>x.tmps[0]?=some v0) c
 | .region _ ops _,h=>fun i o ho x v hx=>by
  cases hd:o.dst with
  |none=>exact hx
  |some t=>
   have ht:t≠0:=h t (List.mem_filterMap.2 ⟨o,Array.mem_toList_iff.2 (Array.mem_of_getElem? ho),hd⟩);simp[Act.put,Array.getElem?_setIfInBounds_ne ht];exact hx
 | .seq a b,h=>⟨fO a fun t ht=>h t (za9.2 (.inl ht)),fO b fun t ht=>h t (za9.2 (.inr ht))⟩
 | .cond _ a b,h=>⟨fO a fun t ht=>h t (za9.2 (.inl ht)),fO b fun t ht=>h t (za9.2 (.inr ht))⟩
 | .block _ c,h=>fO c h
 | .loop c,h=>fO c h
 | .rangeFunc _ _ _ _,_=>fun _ _ h=>h
 | .skip,_=>trivial
 | .exit _,_=>trivial
 | .ret,_=>trivial
 | .scope c,h=>fO c h
 | .label _,_=>trivial
 | .goto _,_=>trivial
 | .refuse _,_=>trivial
section
variable {E:Env}{I0 KK:Nat→Prop}{w0:World}
theorem n8{F:Fence}{n:Nat}{fn:Func}{σ:St}{R:Ending→World→Prop}{tm:Array Value}(hI0:∀b,I0 b→KK b)
  (hend:∀(I:Nat→Prop) (A:Nat→Nat→Option Gh) (a:Act) (w:World),a.tmps=tm→Inv I0 KK I A σ a w→Blw KK w0 w→∃v,(results fn a.tmps).run E.P w= .ok v w∧R (.returned v) w):
  ∀(ds:List Deferred) (I:Nat→Prop) (A:Nat→Nat→Option Gh) (a:Act) (w:World),a.defers=ds→a.tmps=tm→Inv I0 KK I A σ a w→Blw KK w0 w→LeavesInM F n E.P fn a.tmps R ds .returning w
 |[],I,A,a,w,_,ht,h,hb=>by
  obtain⟨v,r1,r2⟩:=hend I A a w ht h hb;exact⟨v,r1,r2⟩
 |dd::ds,I,A,a,w,hd,ht,h,hb=>by
  obtain⟨r,q1,q2,q3,q4⟩:=h.shut (P:=E.P) hI0 hd;refine⟨by simp,.inl ⟨r,_,q1,q2,?_⟩⟩;exact n8 hI0 hend ds _ A {a with defers:=ds} _ rfl ht q4 (hb.trans ⟨rfl,rfl,rfl,by simp[World.putObj],fun k hk=>World.putObj_heap_other (fun e=>q3 (e▸hk))⟩)
end
theorem FA{Te:TE}(hm:Te.E.P.follows .mixedOrders=true)(hcall:EnvOK Te.E)(hcst:∀k ds r,Te.cst k ds=some r→Te.E.call k ds=some r)(hit:Te.it=none)(hsq:∀g cs ys,Te.sq g cs=some ys→kK Te.E.P Te.E.gl g cs ys){f:FuncId}{fn:Func}(hf:Te.E.P.funcs[f]?=some fn){ord:fX}{N:bY}(hok:eh Te.E.P ord fn=true)(h0:qD fn=true)
  {cs rest cs':List D} {len:Nat} (he:∀e n,cs.length=len*n→qy Te ord N e n fn len cs rest=some (.slc false len cs')):Db Te.E.P Te.E.gl f cs len rest cs' none:=by
 intro I w b cap n e c vrest hI hgl hbI hb hcs hcap hlen hcl hpl hcell hrl hrr hpl' hm';have he:=he e n hcl;unfold qy at he;split at he
 ·cases he
 ·rename_i cd hbd;simp only[eh,hbd,zc4,Bool.not_eq_true'] at hok;have hk0:∀t∈cZ cd,t≠0:=fun t ht=>by
   unfold qD at h0;rw[hbd] at h0;simpa using zd9.1 h0 t ht
  have hbs:b<w.heap.size:=(zc0.1 hb).1;refine callsIn_wide.1 (callsIn_of_wp_marks (F:=Fence.wide) (n:=0) hf hbd trivial ?_);have hst:=uY (fn:=fn) (e:=e) (b:=b) (cap:=cap) (n:=n) (len:=len) (cs:=cs) (rest:=rest) (c:=c) (vrest:=vrest) hI hbI hb hcs hcap hlen hcl hcell hrl hrr;refine gi hm hcall hcst hit hsq cd 1 hok.2 (fun x=>x.tmps[0]?=some (.slice (some ⟨b,0,none⟩) len cap)) (fun x=>x<w.heap.size∧x≠b) I w Fence.wide 0 (.inl rfl) (.inl rfl) hgl (fun x hx=>⟨hI x hx,fun e1=>hbI (e1▸hx)⟩) (fun _ h=>h.1) (fO cd hk0) _ _ _ w _ ⟨I,_,hst,Blw.refl _ _,uX _ _ _⟩ he fun o σ a' w' hg hk=> ?_;obtain⟨I',A',h,hbel,hfx⟩:=hg;have key:run (C0 Te.E.osl e n σ fn)=some (.slc false len cs')→LeavesInM Fence.wide 0 Te.E.P fn a'.tmps (fun en w'=>en= .returned (.tuple #[])∧∃c',w'.heap[b]?=some (.cells c' e (0,0))∧c'.size=c.size∧(∀(j:Nat) (d:D) (v:Value),cs'[j]?=some d→c'[j]?=some v→d.toVZ=some v)∧
    w.heap.size≤w'.heap.size∧(∀k,k<w.heap.size→k≠b→w'.heap[k]?=w.heap[k]?)∧w'.os=w.os∧w'.tape=w.tape∧w'.output=w.output) a'.defers .returning w':=fun hend=>by
   refine n8 (tm:=a'.tmps) (fun x hx=>⟨hI x hx,fun e1=>hbI (e1▸hx)⟩) ?_ _ I' A' a' w' rfl rfl h hbel;intro I2 A2 a2 w2 ht2 h2 hb2;have fin:∀(len':Nat) (e':TypeId) (n':Nat) (cs2:List D),fn.results.toList=[]→σ.T[(0:Nat)]?=some (.own 0 0 len')→bE σ.H 0 0=some (.arr e' n' cs2 false)→run (.chk (decide (e'=e)) (.chk (decide (n'=n)) (.chk (decide (cs2.length=len'*n)) (.chk (cs2.all (FL Te.E.osl)) (.leaf (some (.slc false len' cs2)))))))=some (.slc false len cs')→
     ∃v,(results fn a2.tmps).run Te.E.P w2= .ok v w2∧(Ending.returned v= .returned (.tuple #[])∧∃c',w2.heap[b]?=some (.cells c' e (0,0))∧c'.size=c.size∧(∀(j:Nat) (d:D) (v:Value),cs'[j]?=some d→c'[j]?=some v→d.toVZ=some v)∧
      w.heap.size≤w2.heap.size∧(∀k,k<w.heap.size→k≠b→w2.heap[k]?=w.heap[k]?)∧w2.os=w.os∧w2.tape=w.tape∧w2.output=w.output):=by
    intro len' e' n' cs2 hres hT hl hend;obtain⟨q1,z1⟩:=bO hend;obtain⟨q2,z2⟩:=bO z1;obtain⟨q3,z3⟩:=bO z2;obtain⟨q4,z4⟩:=bO z3;have hee:(D.slc false len' cs2)= .slc false len cs':=Option.some.inj z4;clear z1 z2 z3 z4 hend;simp only[zc7] at q1 q2;subst q1 q2;cases hee;obtain⟨x,hx,hxB,cc,o1,o2,o3,o4,o5,o6,o7,o8⟩:=h2.ob 0 0 _ hl;have hv0:a2.tmps[0]?=some (.slice (some ⟨b,0,none⟩) len cap):=by rw[ht2];exact hfx
    obtain⟨hvv,_⟩:=(h2.tv 0 _ _ hT hv0).own_inv hx;have hxb:x.b=b:=by cases hvv;rfl
    have hxc:x.cap=cap:=by cases hvv;rfl
    refine⟨.tuple #[],?_,rfl,cc,by rw[←hxb];exact o1,by rw[o2,hcs,hxc],fun j d v hd hv=> ?_,hb2.size,fun k hk1 hk2=>hb2.block k ⟨hk1,hk2⟩,hb2.os,hb2.tape,hb2.output⟩
    ·have hres':fn.results= #[]:=by rw[←Array.toArray_toList (xs:=fn.results),hres]
     rw[lw,hres'];simp
    ·have hp:=Hz (zd9.1 q4 d (List.mem_of_getElem? hd));obtain⟨u,hu⟩:=Option.isSome_iff_exists.1 hp;rw[(o6 j d v hd hv).toVZ hu];exact hu
   unfold C0 at hend;split at hend
   ·rename_i hres;split at hend
    ·rename_i len' hT;split at hend
     ·rename_i e' n' cs2 hl;exact fin len' e' n' cs2 hres hT hl hend
     ·cases hend
    ·cases hend
   ·cases hend
  cases o with
  |exit i=>cases hk
  |norm=>exact key hk
  |ret=>exact key hk
end Go.Pd
end
section
namespace Go.Pd
end Go.Pd
end
section
namespace Go.Pd
open Go.RowKit
def PlcC(P:Program)(gl:Nat→Option D)(k:FuncId)(p:Nat)(ds cs:List D)(len:Nat)(cs':List D)(r:D):Prop:=
 ∀(I:Nat→Prop) (w:World) (b cap n:Nat) (e:TypeId) (c:Array Value) (vs:Array Value),
  (∀b,I b→b<w.heap.size)→Gl gl I w→¬I b→w.heap[b]?=some (.cells c e (0,0))→c.size=cap*n→cap≤maxLen→len≤cap→cs.length=len*n→cs.all D.plain=true→
  (∀(j:Nat) (d:D) (v:Value),cs[j]?=some d→c[j]?=some v→d.toV=some v)→p<ds.length→ds.length=vs.size→vs[p]?=some (.slice (some ⟨b,0,none⟩) len cap)→(∀(j:Nat) (d:D) (v:Value),j≠p→ds[j]?=some d→vs[j]?=some v→RelC I w d v)→
  cs'.all D.plain=true→cs'.length=cs.length→
  Calls P k vs w fun en w'=>∃v c',en= .returned v∧RelC (fun x=>I x∨(w.heap.size≤x∧x<w'.heap.size)) w' r v∧w'.heap[b]?=some (.cells c' e (0,0))∧c'.size=c.size∧(∀(j:Nat) (d:D) (v:Value),cs'[j]?=some d→c'[j]?=some v→d.toV=some v)∧
    w.heap.size≤w'.heap.size∧(∀k,k<w.heap.size→k≠b→w'.heap[k]?=w.heap[k]?)∧w'.os=w.os∧w'.tape=w.tape∧w'.output=w.output
theorem PlcC.canon{P:Program}{gl:Nat→Option D}{k:FuncId}{p:Nat}{ds ds' cs:List D}{len:Nat}{cs':List D}{r:D}(h:PlcC P gl k p ds' cs len cs' r)(hl:ds'.length=ds.length)(he:∀(j:Nat) (d:D),j≠p→ds[j]?=some d→ds'[j]?=some (canon1 d)):PlcC P gl k p ds cs len cs' r:=by
 intro I w b cap n e c vs h1 h2 h3 h4 h5 h6 h7 h8 h9 h10 h11 h12 h13 h14 h15 h16;refine h I w b cap n e c vs h1 h2 h3 h4 h5 h6 h7 h8 h9 h10 (by omega) (by omega) h13 (fun j d v hj hd hv=> ?_) h15 h16;have hlt:j<ds.length:=by rw[←hl];exact(zc1.1 hd).1
 have:=he j _ hj (zd5 hlt);rw[hd] at this;cases this;exact(h14 j _ v hj (zd5 hlt) hv).canon1
theorem IF{P:Program}{gl:Nat→Option D}{k:FuncId}{p:Nat}{g:List D→Option D}(hen:∀vs w,(callFunc k vs).run P w= .ok (.enter k vs) w)(h:∀ds cs len f m cs' r,p<ds.length→g (ds.set p (.slc false len cs))=some (.tup [.slc f m cs',r])→PlcC P gl k p ds cs len cs' r):AU P gl k p g:=
 ⟨hen,fun I w b cap n len m e f c ds cs cs' r vs h1 h2 h3 h4 h5 h6 h7 h8 h9 h10 h11 h12 h13 h14 hg h15 h16=>h ds cs len f m cs' r h11 hg I w b cap n e c vs h1 h2 h3 h4 h5 h6 h7 h8 h9 h10 h11 h12 h13 h14 h15 h16⟩
section
variable {I:Nat→Prop}{w:World}
def AP(p b cap len:Nat)(s g:Nat):Option Gh:=if s=p∧g=0 then some ⟨b,cap,len⟩ else none
theorem lC{p b cap len s g:Nat}{x:Gh}(h:AP p b cap len s g=some x):s=p∧g=0∧x=⟨b,cap,len⟩:=by
 unfold AP at h;split at h
 ·rename_i hh;exact⟨hh.1,hh.2,(Option.some.inj h).symm⟩
 ·cases h
variable {fn:Func}{p:Nat}{e:TypeId}{n len:Nat}{cs args:List D}
theorem w9(hp:p<args.length):p<(cx fn (args.set p (.own p 0 len))).H.length:=by
 show p<(gE ((args.set p (.own p 0 len)).length+_)).length;rw[jw,List.length_set];omega
theorem rq(hp:p<args.length){s g:Nat}{o:Ob}(h:bE (mB fn p e n len cs args).H s g=some o):s=p∧g=0∧o= .arr e n cs false:=by
 unfold mB at h;by_cases hs:s=p
 ·subst hs;rw[bZ (w9 hp)] at h;split at h
  ·rename_i hg;exact⟨rfl,by omega,(Option.some.inj h).symm⟩
  ·cases h
 ·rw[ct (Ne.symm hs)] at h;rw[show(cx fn (args.set p (.own p 0 len))).H=gE ((args.set p (.own p 0 len)).length+(fn.ntmps-(args.set p (.own p 0 len)).length)) from rfl,ju] at h;cases h
theorem pW(hp:p<args.length):bE (mB fn p e n len cs args).H p 0=some (.arr e n cs false):=by
 unfold mB;rw[bZ (w9 hp)];rfl
theorem Dc{b cap:Nat}{c:Array Value}{vs:Array Value}(hp:p<args.length)(hI:∀b,I b→b<w.heap.size)(hbI:¬I b)(hb:w.heap[b]?=some (.cells c e (0,0)))(hcs:c.size=cap*n)(hcap:cap≤maxLen)(hlen:len≤cap)(hcl:cs.length=len*n)
  (hcell:∀(j:Nat) (d:D) (v:Value),cs[j]?=some d→c[j]?=some v→d.toV=some v) (hvl:args.length=vs.size) (hvp:vs[p]?=some (.slice (some ⟨b,0,none⟩) len cap)) (hrr:∀(j:Nat) (d:D) (v:Value),j≠p→args[j]?=some d→vs[j]?=some v→RelC I w d v):
  Inv I (fun x=>x<w.heap.size∧x≠b) I (AP p b cap len) (mB fn p e n len cs args) {tmps:=vs++Array.replicate (fn.ntmps-vs.size) undef,defers:=[]} w:=by
 refine⟨?_,fun t d v hd hv=> ?_,fun s g o ho=> ?_,fun s g x hx=> ?_,fun s g x s' g' x' h1 h2 _=> ?_,hI,fun b hb=> .inl hb,fun b hb=>hb,Marks.nil,.none fun s g o ho=>by obtain⟨_,_,rfl⟩:=rq hp ho;rfl⟩
 ·simp[mB,cx,js,hvl]
 ·have hd:(args.set p (.own p 0 len)++jo (fn.ntmps-(args.set p (.own p 0 len)).length))[t]?=some d:=hd;by_cases ht:t<args.length
  ·rw[zb9 (by simpa using ht)] at hd;rw[Array.getElem?_append_left (by omega)] at hv;by_cases htp:t=p
   ·subst htp;rw[List.getElem?_set_self ht] at hd;cases hd;rw[hvp] at hv;cases hv;have hg:0<bG (mB fn t e n len cs args).H t:=by
     have h0:=pW (fn:=fn) (e:=e) (n:=n) (len:=len) (cs:=cs) hp;rw[liveH_some] at h0;unfold bG;rw[h0];exact Nat.lt_succ_self _
    exact .own t 0 len ⟨b,0,none⟩ cap hg hlen fun x hx=>by
     obtain⟨_,_,rfl⟩:=lC hx;exact⟨rfl,rfl,rfl⟩
   ·rw[List.getElem?_set_ne (Ne.symm htp)] at hd;exact .clo (hrr t d v htp hd hv)
  ·rw[zb8 (by simpa using ht)] at hd;rw[Array.getElem?_append_right (by omega)] at hv;have e1:=jt _ _ _ hd;have e2:v=undef:=by
    rw[Array.getElem?_replicate] at hv;split at hv
    ·simpa using hv.symm
    ·cases hv
   subst e1 e2;exact iD
 ·obtain⟨rfl,rfl,rfl⟩:=rq hp ho;have hrel:∀(j:Nat) (d:D) (v:Value),cs[j]?=some d→c[j]?=some v→RelC I w d v:=fun j d v hd hv=>gF (hcell j d v hd hv);refine⟨⟨b,cap,len⟩,by simp[AP],.inr (fun h=>h.2 rfl),c,hb,hcs,hcap,hlen,hcl,fun j d v hd hv=> .clo (hrel j d v hd hv),⟨(fun h=>by cases h),fun h=>absurd h hbI⟩,fun d hd=> ?_⟩;obtain⟨j,hj,rfl⟩:=List.getElem_of_mem hd;have hjc:j<c.size:=by rw[hcs];have:=Nat.mul_le_mul_right n hlen;omega
  exact(hrel j _ _ (zd5 hj) (Array.getElem?_eq_getElem hjc)).clo
 ·obtain⟨rfl,rfl,rfl⟩:=lC hx;exact⟨_,pW hp⟩
 ·obtain⟨rfl,rfl,_⟩:=lC h1;obtain⟨rfl,rfl,_⟩:=lC h2;exact⟨rfl,rfl⟩
end
def gM(p:Nat)(fn:Func):Bool:=match fn.body with
 |none=>false
 |some c=>(cZ c).all fun t=>t !=p
theorem lD{p:Nat}{v0:Value}:∀(c:Code),(∀t∈cZ c,t≠p)→Fq (fun x:Act=>x.tmps[p]?=some v0) c
 | .region _ ops _,h=>fun i o ho x v hx=>by
  cases hd:o.dst with
  |none=>exact hx
  |some t=>
   have ht:t≠p:=h t (List.mem_filterMap.2 ⟨o,Array.mem_toList_iff.2 (Array.mem_of_getElem? ho),hd⟩);simp[Act.put,Array.getElem?_setIfInBounds_ne ht];exact hx
 | .seq a b,h=>⟨lD a fun t ht=>h t (za9.2 (.inl ht)),lD b fun t ht=>h t (za9.2 (.inr ht))⟩
 | .cond _ a b,h=>⟨lD a fun t ht=>h t (za9.2 (.inl ht)),lD b fun t ht=>h t (za9.2 (.inr ht))⟩
 | .block _ c,h=>lD c h
 | .loop c,h=>lD c h
 | .rangeFunc _ _ _ _,_=>fun _ _ h=>h
 | .skip,_=>trivial
 | .exit _,_=>trivial
 | .ret,_=>trivial
 | .scope c,h=>lD c h
 | .label _,_=>trivial
 | .goto _,_=>trivial
 | .refuse _,_=>trivial
section
variable {E:Env}{I0 KK:Nat→Prop}{w0:World}
theorem n9{F:Fence}{n:Nat}{fn:Func}{σ:St}{R:Ending→World→Prop}{tm:Array Value}(hI0:∀b,I0 b→KK b)
  (hend:∀(I:Nat→Prop) (A:Nat→Nat→Option Gh) (a:Act) (w:World),a.tmps=tm→a.defers=[]→Inv I0 KK I A σ a w→Blw KK w0 w→∃v,(results fn a.tmps).run E.P w= .ok v w∧R (.returned v) w):
  ∀(ds:List Deferred) (I:Nat→Prop) (A:Nat→Nat→Option Gh) (a:Act) (w:World),a.defers=ds→a.tmps=tm→Inv I0 KK I A σ a w→Blw KK w0 w→LeavesInM F n E.P fn a.tmps R ds .returning w
 |[],I,A,a,w,hd,ht,h,hb=>by
  obtain⟨v,r1,r2⟩:=hend I A a w ht hd h hb;exact⟨v,r1,r2⟩
 |dd::ds,I,A,a,w,hd,ht,h,hb=>by
  obtain⟨r,q1,q2,q3,q4⟩:=h.shut (P:=E.P) hI0 hd;refine⟨by simp,.inl ⟨r,_,q1,q2,?_⟩⟩;exact n9 hI0 hend ds _ A {a with defers:=ds} _ rfl ht q4 (hb.trans ⟨rfl,rfl,rfl,by simp[World.putObj],fun k hk=>World.putObj_heap_other (fun e=>q3 (e▸hk))⟩)
theorem Inv.wider{I:Nat→Prop}{A:Nat→Nat→Option Gh}{σ:St}{a:Act}{w:World}{b:Nat}(h:Inv I0 (fun x=>x<w0.heap.size∧x≠b) I A σ a w)(hd:a.defers=[])(hnI:¬I b)(hA:∀s g x,A s g=some x→x.b≠b)(hRb:¬RowB A σ.H w b):Inv I0 (·<w0.heap.size) I A σ a w:=by
 refine⟨h.tl,h.tv,fun s g o ho=> ?_,h.ar,h.inj,h.iw,fun z hz=> ?_,h.ii,by rw[hd];exact Marks.nil,h.rw.sub (fun s g _ _ _ _ _ k1 k2=>⟨s,g,k1,k2⟩) (fun s g _ hz=> .inl ⟨s,g,hz⟩) (fun _ _ _ _ _ _ _ _ _=>rfl) (fun x j c hc=>⟨rfl,(h.rw.sep x j c hc).2.1,fun hlt=>(h.rw.sep x j c hc).2.2.1 ⟨hlt,fun e=>hRb (e▸⟨x,j,hc⟩)⟩⟩) (zb0 _) (fun _ hb=>hb) fun _ _=>rfl⟩
 ·obtain⟨x,hx,hxB,hok⟩:=h.ob s g o ho;exact⟨x,hx,hxB.imp id fun hn hlt=>hn ⟨hlt,hA s g x hx⟩,hok⟩
 ·exact(h.io z hz).imp id fun hn hlt=>hn ⟨hlt,fun e=>hnI (e▸hz)⟩
end
theorem FB{Te:TE}(hm:Te.E.P.follows .mixedOrders=true)(hcall:EnvOK Te.E)(hcst:∀k ds r,Te.cst k ds=some r→Te.E.call k ds=some r)(hit:Te.it=none)(hsq:∀g cs ys,Te.sq g cs=some ys→kK Te.E.P Te.E.gl g cs ys){f:FuncId}{fn:Func}(hf:Te.E.P.funcs[f]?=some fn){ord:fX}{N:bY}(hok:eh Te.E.P ord fn=true){p:Nat}(h0:gM p fn=true)
  {ds cs cs':List D} {len:Nat} {r:D} (he:∀e n,cs.length=len*n→yA Te ord N p e n fn len cs ds=some (.tup [.slc false len cs',r])):PlcC Te.E.P Te.E.gl f p ds cs len cs' r:=by
 intro I w b cap n e c vs hI hgl hbI hb hcs hcap hlen hcl hpl hcell hp hvl hvp hrr hpl' hcl';have he:=he e n hcl;unfold yA at he;split at he
 ·cases he
 ·rename_i cd hbd;simp only[eh,hbd,zc4,Bool.not_eq_true'] at hok;have hk0:∀t∈cZ cd,t≠p:=fun t ht=>by
   unfold gM at h0;rw[hbd] at h0;simpa using zd9.1 h0 t ht
  have hbs:b<w.heap.size:=(zc0.1 hb).1;refine callsIn_wide.1 (callsIn_of_wp_marks (F:=Fence.wide) (n:=0) hf hbd trivial ?_);have hst:=Dc (fn:=fn) (e:=e) (b:=b) (cap:=cap) (n:=n) (len:=len) (cs:=cs) (args:=ds) (c:=c) (vs:=vs) hp hI hbI hb hcs hcap hlen hcl hcell hvl hvp hrr;have hps:p<vs.size:=by omega
  refine gi hm hcall hcst hit hsq cd 1 hok.2 (fun x=>x.tmps[p]?=some (.slice (some ⟨b,0,none⟩) len cap)) (fun x=>x<w.heap.size∧x≠b) I w Fence.wide 0 (.inl rfl) (.inl rfl) hgl (fun x hx=>⟨hI x hx,fun e1=>hbI (e1▸hx)⟩) (fun _ h=>h.1) (lD cd hk0) _ _ _ w _ ⟨I,_,hst,Blw.refl _ _,(Array.getElem?_append_left hps).trans hvp⟩ he fun o σ a' w' hg hk=> ?_;obtain⟨I',A',h,hbel,hfx⟩:=hg;have key:run (C2 Te.E p e n σ fn)=some (.tup [.slc false len cs',r])→LeavesInM Fence.wide 0 Te.E.P fn a'.tmps (fun en w'=>∃v c',en= .returned v∧RelC (fun x=>I x∨(w.heap.size≤x∧x<w'.heap.size)) w' r v∧w'.heap[b]?=some (.cells c' e (0,0))∧c'.size=c.size∧(∀(j:Nat) (d:D) (v:Value),cs'[j]?=some d→c'[j]?=some v→d.toV=some v)∧
    w.heap.size≤w'.heap.size∧(∀k,k<w.heap.size→k≠b→w'.heap[k]?=w.heap[k]?)∧w'.os=w.os∧w'.tape=w.tape∧w'.output=w.output) a'.defers .returning w':=fun hend=>by
   refine n9 (tm:=a'.tmps) (fun x hx=>⟨hI x hx,fun e1=>hbI (e1▸hx)⟩) ?_ _ I' A' a' w' rfl rfl h hbel;intro I2 A2 a2 w2 ht2 hd2 h2 hb2;unfold C2 at hend;split at hend
   ·rename_i s len' hT;split at hend
    ·rename_i hsp;subst hsp;split at hend
     ·rename_i e' n' cs2 hl;split at hend
      ·rename_i d0 hres;obtain⟨q1,z1⟩:=bO hend;obtain⟨q2,z2⟩:=bO z1;obtain⟨q3,z3⟩:=bO z2;obtain⟨q4,z4⟩:=bO z3;have hee:(D.tup [.slc false len' cs2,canon2 d0])= .tup [.slc false len cs',r]:=Option.some.inj z4;clear z1 z2 z3 z4 hend;simp only[zc7] at q1 q2;subst q1 q2;cases hee;obtain⟨x,hx,hxB,cc,o1,o2,o3,o4,o5,o6,o7,o8⟩:=h2.ob s 0 _ hl;have hv0:a2.tmps[s]?=some (.slice (some ⟨b,0,none⟩) len cap):=by rw[ht2];exact hfx
       obtain⟨hvv,_⟩:=(h2.tv s _ _ hT hv0).own_inv hx;have hxb:x.b=b:=by cases hvv;rfl
       have hxc:x.cap=cap:=by cases hvv;rfl
       have hnI2:¬I2 b:=fun hi=>by rw[←hxb] at hi;have:=o7.2 hi;cases this
       obtain⟨A3,h3,hA3,hA3',hR3⟩:=h2.kill s (eJ hl);have h4:Inv I (·<w.heap.size) I2 A3 (σ.setOb s none) a2 w2:=h3.wider (w0:=w) hd2 hnI2 (fun s' g' y hy e=>by
        by_cases es:s'=s
        ·subst es;rw[hA3'] at hy;cases hy
        ·rw[hA3 _ _ es] at hy;exact es (h2.inj _ _ _ _ _ _ hy hx (by rw[e,hxb])).1) fun⟨y,j,hr⟩=>(h2.rw.sep _ _ _ (hr.unkill hA3 hA3')).2.2.2 _ _ _ hx hxb
       obtain⟨v,r1,r2⟩:=Ej h4 hres;refine⟨v,r1,v,cc,rfl,r2.canon2,by rw[←hxb];exact o1,by rw[o2,hcs,hxc],fun j d v hd hv=> ?_,hb2.size,fun k hk1 hk2=>hb2.block k ⟨hk1,hk2⟩,hb2.os,hb2.tape,hb2.output⟩;have hp:=zd9.1 q4 d (List.mem_of_getElem? hd);obtain⟨u,hu⟩:=Option.isSome_iff_exists.1 hp;rw[(o6 j d v hd hv).toV hu];exact hu
      ·cases hend
     ·cases hend
    ·cases hend
   ·cases hend
  cases o with
  |exit i=>cases hk
  |norm=>exact key hk
  |ret=>exact key hk
theorem FC{Te:TE}(hm:Te.E.P.follows .mixedOrders=true)(hcall:EnvOK Te.E)(hcst:∀k ds r,Te.cst k ds=some r→Te.E.call k ds=some r)(hit:Te.it=none)(hsq:∀g cs ys,Te.sq g cs=some ys→kK Te.E.P Te.E.gl g cs ys){f:FuncId}{fn:Func}(hf:Te.E.P.funcs[f]?=some fn){ord:fX}{N:bY}(hok:eh Te.E.P ord fn=true)(h0:qD fn=true)
  {cs rest cs':List D} {len m:Nat} (he:∀e n,cs.length=len*n→yB Te ord N e n fn len cs rest=some (.slc false m cs')):Db Te.E.P Te.E.gl f cs len rest cs' (some m):=by
 intro I w b cap n e c vrest hI hgl hbI hb hcs hcap hlen hcl hpl hcell hrl hrr hpl' hm';have he:=he e n hcl;unfold yB at he;split at he
 ·cases he
 ·rename_i cd hbd;simp only[eh,hbd,zc4,Bool.not_eq_true'] at hok;have hk0:∀t∈cZ cd,t≠0:=fun t ht=>by
   unfold qD at h0;rw[hbd] at h0;simpa using zd9.1 h0 t ht
  have hbs:b<w.heap.size:=(zc0.1 hb).1;refine callsIn_wide.1 (callsIn_of_wp_marks (F:=Fence.wide) (n:=0) hf hbd trivial ?_);have hst:=uY (fn:=fn) (e:=e) (b:=b) (cap:=cap) (n:=n) (len:=len) (cs:=cs) (rest:=rest) (c:=c) (vrest:=vrest) hI hbI hb hcs hcap hlen hcl hcell hrl hrr;refine gi hm hcall hcst hit hsq cd 1 hok.2 (fun x=>x.tmps[0]?=some (.slice (some ⟨b,0,none⟩) len cap)) (fun x=>x<w.heap.size∧x≠b) I w Fence.wide 0 (.inl rfl) (.inl rfl) hgl (fun x hx=>⟨hI x hx,fun e1=>hbI (e1▸hx)⟩) (fun _ h=>h.1) (fO cd hk0) _ _ _ w _ ⟨I,_,hst,Blw.refl _ _,uX _ _ _⟩ he fun o σ a' w' hg hk=> ?_;obtain⟨I',A',h,hbel,hfx⟩:=hg;have key:run (yz Te.E.osl e n σ fn)=some (.slc false m cs')→LeavesInM Fence.wide 0 Te.E.P fn a'.tmps (fun en w'=>en= .returned (.slice (some ⟨b,0,none⟩) m cap)∧∃c',w'.heap[b]?=some (.cells c' e (0,0))∧c'.size=c.size∧(∀(j:Nat) (d:D) (v:Value),cs'[j]?=some d→c'[j]?=some v→d.toVZ=some v)∧
    w.heap.size≤w'.heap.size∧(∀k,k<w.heap.size→k≠b→w'.heap[k]?=w.heap[k]?)∧w'.os=w.os∧w'.tape=w.tape∧w'.output=w.output) a'.defers .returning w':=fun hend=>by
   refine n8 (tm:=a'.tmps) (fun x hx=>⟨hI x hx,fun e1=>hbI (e1▸hx)⟩) ?_ _ I' A' a' w' rfl rfl h hbel;intro I2 A2 a2 w2 ht2 h2 hb2;unfold yz at hend;split at hend
   ·rename_i len' m' hT hml;split at hend
    ·rename_i e' n' cs2 hl;obtain⟨q1,z1⟩:=bO hend;obtain⟨q2,z2⟩:=bO z1;obtain⟨q3,z3⟩:=bO z2;obtain⟨q4,z4⟩:=bO z3;obtain⟨q5,z5⟩:=bO z4;obtain⟨q6,z6⟩:=bO z5;have hee:(D.slc false m' (cs2.take (m'*n)))= .slc false m cs':=Option.some.inj z6;clear z1 z2 z3 z4 z5 z6 hend;simp only[zc7] at q1 q2 q3 q4 q5;subst q1 q2;cases hee;obtain⟨x,hx,hxB,cc,o1,o2,o3,o4,o5,o6,o7,o8⟩:=h2.ob 0 0 _ hl;have hv0:a2.tmps[0]?=some (.slice (some ⟨b,0,none⟩) len cap):=by rw[ht2];exact hfx
     obtain⟨hvv,_⟩:=(h2.tv 0 _ _ hT hv0).own_inv hx;have hxb:x.b=b:=by cases hvv;rfl
     have hxc:x.cap=cap:=by cases hvv;rfl
     have hres:∃t v,fn.results.toList=[.tmp t]∧a2.tmps[t]?=some v∧v= .slice (some ⟨b,0,none⟩) m cap:=by
      unfold Eo at hml;split at hml
      ·rename_i t hr;have hv:∀d,σ.T[t]?=some d→∃v,a2.tmps[t]?=some v:=fun d hd=>by
        have hlt:t<a2.tmps.size:=by rw[←h2.tl];exact(zc1.1 hd).1
        exact⟨a2.tmps[t],by simp⟩
       split at hml
       ·rename_i m1 hd;cases hml;obtain⟨v,hv⟩:=hv _ hd;obtain⟨e1,_⟩:=(h2.tv t _ v hd hv).own_inv hx;exact⟨t,v,hr,hv,by rw[e1,hxb,hxc]⟩
       ·rename_i m1 hd;cases hml;obtain⟨v,hv⟩:=hv _ hd;obtain⟨ad,cap1,rfl,_,hh⟩:=(h2.tv t _ v hd hv).win_inv;obtain⟨k1,k2,_⟩:=hh q3 x hx;refine⟨t,_,hr,hv,by rw[k1,k2 rfl,hxb,hxc]⟩
       ·cases hml
      ·cases hml
     obtain⟨t,v,hr,hv,rfl⟩:=hres;refine⟨_,?_,rfl,cc,by rw[←hxb];exact o1,by rw[o2,hcs,hxc],fun j d v hd hv=> ?_,hb2.size,fun k hk1 hk2=>hb2.block k ⟨hk1,hk2⟩,hb2.os,hb2.tape,hb2.output⟩
     ·have hres':fn.results= #[.tmp t]:=by rw[←Array.toArray_toList (xs:=fn.results),hr]
      rw[lw,hres'];have hlt:t<a2.tmps.size:=(zc0.1 hv).1;have hg:a2.tmps.getD t undef= .slice (some ⟨b,0,none⟩) m cap:=by simp[hlt];have:=Array.getElem?_eq_getElem hlt;rw[hv] at this;exact(Option.some.inj this).symm
      simp[Fs,hg]
     ·rw[List.getElem?_take] at hd;split at hd
      ·have hp:=Hz (zd9.1 q6 d (List.mem_of_getElem? hd));obtain⟨u,hu⟩:=Option.isSome_iff_exists.1 hp;rw[(o6 j d v hd hv).toVZ hu];exact hu
      ·cases hd
    ·cases hend
   ·cases hend
  cases o with
  |exit i=>cases hk
  |norm=>exact key hk
  |ret=>exact key hk
end Go.Pd
end
section
namespace Go.Pd
open Go.RowKit Go.ChangeShapes Go.WideShapes
end Go.Pd
end
section
namespace Go.Pd
open Go.RowKit
section
variable {I:Nat→Prop}{w:World}{fn:Func}{p:Nat}{e:TypeId}{n off len tot:Nat}{ca args:List D}
end
end Go.Pd
end
