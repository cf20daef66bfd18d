import Derived.Test.YtjhoaknnmfifgaaGreatDoorPdFe
import Derived.Deep.Slices
import Derived.ChangeReads
import Derived.ChangeOld
import Derived.OpenShut
import Derived.Carry
import Derived.ProofKit
section
namespace Go.Pd
open Go.RowKit
def KX(ys:List (List D))(J:Nat→(Nat→Prop)→(Nat→Prop)→World→Prop)(Jx:(Nat→Prop)→(Nat→Prop)→World→Prop):Option Nat→(Nat→Prop)→(Nat→Prop)→World→Prop
 |some i,O,Fz,w=>i≤ys.length∧J i O Fz w
 |none,O,Fz,w=>Jx O Fz w
def iy(ys:List (List D)):Option Nat→List (List D)
 |some i=>ys.drop i
 |none=>[]
def AtI(ys:List (List D))(J:Nat→(Nat→Prop)→(Nat→Prop)→World→Prop)(Jx:(Nat→Prop)→(Nat→Prop)→World→Prop)(gl:Nat→Option D)(pos:Option Nat)(σ:St)(a:Act)(w:World):Prop:=
 ∃O Fz w0,KX ys J Jx pos O Fz w0∧Gl gl Fz w0∧(∀b,Fz b→O b)∧(∀b,O b→b<w0.heap.size)∧Good (fun x=>x.defers=[]) O Fz w0 σ a w
def ml(P:Program)(ys:List (List D))(J:Nat→(Nat→Prop)→(Nat→Prop)→World→Prop)(Jx:(Nat→Prop)→(Nat→Prop)→World→Prop)(n l:Nat):Prop:=
 ∀(i:Nat) (y:List D) (O Fz I1:Nat→Prop) (W1:World) (args:Array Value),ys[i]?=some y→J i O Fz W1→(∀b,O b→b<W1.heap.size)→(∀b,I1 b→b<W1.heap.size)→(∀b,I1 b→Fz b∨¬O b)→y.length=args.size→
   (∀(j:Nat) (d:D) (v:Value),y[j]?=some d→args[j]?=some v→RelC I1 W1 d v)→
   YieldAt Fence.wide (n-1) P l args W1 fun e W'=>∃O' Fz',(∀b,O' b→O b∨W1.heap.size≤b∨I1 b)∧(∀b,O' b→b<W'.heap.size)∧(∀b,Fz b∨I1 b→Fz' b)∧(∀b,Fz' b→O' b)∧
    Blw (fun b=>b<W1.heap.size∧(¬O b∨Fz b∨I1 b)) W1 W'∧((e= .returned (.bool true)∧J (i+1) O' Fz' W')∨(e= .returned (.bool false)∧Jx O' Fz' W'))
theorem ge(ops:Array Oper):nC (fun x=>x.defers=[]) ops:=fun i o _ a v h=>by
 cases hd:o.dst with
 |none=>exact h
 |some t=>exact h
theorem sA{ds:List D}{t f:Option (List (List D))}{r:List (List D)}(h:fP ds t f=some r):f=some []∧∃ys,t=some ys∧r=ds::ys:=by
 unfold fP at h;split at h
 ·split at h
  ·cases h;exact⟨rfl,_,rfl,rfl⟩
  ·cases h
 ·cases h
theorem jV{E:Env}{σ:St}{o:Oper}{l:Nat}{ds:List D}{ss:List Nat}(h:oA E σ o=some (l,ds,ss)):
  o.guard=none∧∃k f as,o.op= .call k∧k.callee= .value f∧σ.val E f=some (.fn (.yield l) [] [])∧fa E σ k.args.toList=some as∧cA (bJ σ.H depth) as=some (ds,ss):=by
 unfold oA at h;split at h
 ·rename_i k hg ho;split at h
  ·rename_i f hc;split at h
   ·rename_i l' as hf ha;split at h
    ·rename_i p hs;cases h;exact⟨hg,k,f,as,ho,hc,hf,ha,hs⟩
    ·cases h
   ·cases h
  ·cases h
 ·cases h
section
variable {ys:List (List D)}{J:Nat→(Nat→Prop)→(Nat→Prop)→World→Prop}{Jx:(Nat→Prop)→(Nat→Prop)→World→Prop}{E:Env}{n l:Nat}
theorem vZ(hJ:∀i,xJ (J i))(hY:ml E.P ys J Jx n l){σ:St}{a:Act}{w:World}{i:Nat}(hat:AtI ys J Jx E.gl (some i) σ a w){o:Oper}{ds:List D}{ss:List Nat}{rest:List (List D)}(hy:oA E σ o=some (l,ds,ss))(hrem:ys.drop i=ds::rest)
  {K:Act→World→Prop} {Q:Exit→Act→World→Prop} (hK1:∀a' w',AtI ys J Jx E.gl (some (i+1)) ((σ.freeze ss).put o.dst (.bool true)) a' w'→K a' w')
  (hK2:∀a' w',AtI ys J Jx E.gl none ((σ.freeze ss).put o.dst (.bool false)) a' w'→K a' w'):o.wpIn Fence.wide n E.P a w K Q:=by
 obtain⟨hg,c,f,as,ho,hc,hf,ha,hsn⟩:=jV hy;obtain⟨O,Fz,w0,⟨hil,hj⟩,hgl,hFO,hO,I,A,h,hb,hdf⟩:=hat;have hyi:ys[i]?=some ds:=by
  have:=congrArg (fun l=>l[0]?) hrem;simpa [List.getElem?_drop] using this
 have hlt:i<ys.length:=(zc1.1 hyi).1;have hglw:=pG hgl hFO h hb;obtain⟨vx,vy,hvf,hx,hy',_⟩:=(bN h hglw hf).fn_inv;have ex:vx= #[]:=Array.eq_empty_of_size_eq_zero hx.symm;have ey:vy= #[]:=Array.eq_empty_of_size_eq_zero hy'.symm;subst ex ey;obtain⟨q1,q2⟩:=jO h hglw ha;obtain⟨a1,a2,a3⟩:=dK (I:=I) (A:=A) (w:=w) (cr h depth) _ _ _ hsn;obtain⟨hfz,hRf⟩:=h.freeze ss a2.free;have hOw:∀b,O b→b<w.heap.size:=fun b hb'=>zb2 (hO b hb') hb.size;obtain⟨fn,tmps,assign,body,hrun,hround⟩:=hY i ds O Fz (du I A ss) w (c.args.map a.eval) hyi (hJ i _ _ _ _ hj hb) hOw hfz.iw hfz.io (by simp[a1,q1]) (fun j d v hd hv=>by
  obtain⟨d0,hd0,hr0⟩:=a3 j d hd;exact hr0 v (q2 j d0 v hd0 (by rw[←Array.getElem?_toList,Array.toList_map] at hv;exact hv)))
 refine⟨fun f _=>trivial,?_⟩;have hexec:(execOp a.eval o).run E.P w= .ok (.round l fn tmps assign body) w:=by
  unfold execOp;rw[ho];simp[resolve,hc,hvf,Deferred.ofValue,invoke,hrun]
 rw[Oper.semAt_plain Fence.wide _ _ (fun c e=>by rw[ho] at e;cases e),hexec];refine⟨(fun hs=>by cases hs),hround.mono ?_⟩
 rintro e W' ⟨O',Fz',k1,k2,k3,k4,k5,k6⟩
 have hA:∀s g x,A s g=some x→x.b<w.heap.size∧(du I A ss x.b∨¬O x.b):=fun s g x hx=>by
  refine⟨h.A_lt hx,?_⟩;obtain⟨o',ho'⟩:=hfz.ar s g x hx;obtain⟨x',hx',hB,_⟩:=hfz.ob s g o' ho';rw[hx] at hx';cases hx';exact hB
 have hs1:=hfz.same (w':=W') k5.size (fun b hb'=>k5.block b ⟨hfz.iw b hb',.inr (.inr hb')⟩) (fun s g x hx=>k5.block _ ⟨(hA s g x hx).1,(hA s g x hx).2.elim (fun h1=> .inr (.inr h1)) .inl⟩) (fun b ⟨x,j,hb'⟩=>k5.block b ⟨(hfz.rw.sep x j b hb').1,.inl (hfz.rw.sep x j b hb').2.2.1⟩);have hOx:∀s g x,A s g=some x→O' x.b→du I A ss x.b:=fun s g x hx ho'=>by
  rcases k1 _ ho' with h1|h1|h1
  ·exact(hA s g x hx).2.elim id fun h2=>absurd h1 h2
  ·have:=(hA s g x hx).1;omega
  ·exact h1
 have hOr:∀b,RowB A (σ.freeze ss).H W' b→¬Fz' b∧¬O' b:=fun b hb'=>by
  obtain⟨x,j,hb'⟩:=hb'.back (w:=w) fun s g x hx=>k5.block _ ⟨(hA s g x hx).1,(hA s g x hx).2.elim (fun h1=> .inr (.inr h1)) .inl⟩;obtain⟨q1,q2,q3,_⟩:=hfz.rw.sep x j b hb';have hO':¬O' b:=fun ho'=>by
   rcases k1 _ ho' with h1|h1|h1
   ·exact q3 h1
   ·omega
   ·exact q2 h1
  exact⟨fun hf=>hO' (k4 _ hf),hO'⟩
 have hs2:Inv Fz' O' Fz' A (σ.freeze ss) a W':=by
  refine hs1.re (I0':=Fz') (KK':=O') (I':=Fz') (T':=(σ.freeze ss).T) (a':=a) (fun b hb'=>k3 b (.inr hb')) (fun s g x hx hf'=>hOx s g x hx (k4 _ hf')) (fun b hb'=>k2 b (k4 b hb')) (fun b hb'=> .inl hb') (fun _ hb'=>hb') (fun s g x hx=> ?_) (by rw[hdf];exact Marks.nil) hs1.tl
   (fun t d v hd hv=>(hs1.tv t d v hd hv).mono (fun b hb'=>k3 b (.inr hb')) (fun _ _=>rfl) (fun _=>zb0 _) (fun _ _ _ _ hx=>hx)) (fun b hb'=>hOr b hb')
  by_cases hox:O' x.b
  ·exact .inl (k3 _ (.inr (hOx s g x hx hox)))
  ·exact .inr hox
 have hgl':Gl E.gl Fz' W':=fun g d hg'=>(hgl g d hg').mono (fun b hb'=>k3 b (.inl hb')) (fun b hb'=>(k5.block b ⟨hOw b (hFO b hb'),.inr (.inl hb')⟩).trans (hb.block b (hFO b hb')));have hgood:∀(bb:Bool),Good (fun x=>x.defers=[]) O' Fz' W' ((σ.freeze ss).put o.dst (.bool bb)) (a.put o.dst (.bool bb)) W':=fun bb=>by
  refine⟨Fz',A,hs2.put o.dst (.clo (.bool bb)),Blw.refl _ _,?_⟩;cases hd:o.dst with
  |none=>exact hdf
  |some t=>exact hdf
 rcases k6 with⟨rfl,hj'⟩|⟨rfl,hj'⟩
 ·exact hK1 _ _ ⟨O',Fz',W',⟨hlt,hj'⟩,hgl',k4,k2,hgood true⟩
 ·exact hK2 _ _ ⟨O',Fz',W',hj',hgl',k4,k2,hgood false⟩
theorem AtI.imp{gl:Nat→Option D}{pos:Option Nat}{σ σ':St}{a a':Act}{w w':World}(h:AtI ys J Jx gl pos σ a w)(hg:∀O Fz w0,Good (fun x=>x.defers=[]) O Fz w0 σ a w→Good (fun x=>x.defers=[]) O Fz w0 σ' a' w'):AtI ys J Jx gl pos σ' a' w':=by
 obtain⟨O,Fz,w0,h1,h2,h3,h4,h5⟩:=h;exact⟨O,Fz,w0,h1,h2,h3,h4,hg _ _ _ h5⟩
theorem oC(hcall:EnvOK E){cst:uF}(hcst:∀k ds r,cst k ds=some r→E.call k ds=some r)(hJ:∀i,xJ (J i))(hY:ml E.P ys J Jx n l){ops:Array Oper}{Q:Exit→Act→World→Prop}{c:St→Tree}(hQ:∀pos' σ' a' w',AtI ys J Jx E.gl pos' σ' a' w'→jv (c σ')=some (iy ys pos')→Q .normal a' w'):
  ∀(m:List Nat) (pos:Option Nat) (σ:St) (a:Act) (w:World),AtI ys J Jx E.gl pos σ a w→jv (tI l E cst ops m σ c)=some (iy ys pos)→wpOpsIn Fence.wide n E.P ops Q m a w
 |[],pos,σ,a,w,hat,he=>hQ pos σ a w hat he
 |i::m,pos,σ,a,w,hat,he=>by
  rw[wpOpsIn_cons];simp only[tI] at he;split at he
  ·cases he
  ·rename_i o ho;split at he
   ·rename_i l' ds ss hy;obtain⟨hl,he⟩:=bC he;simp only[zc7] at hl;rw[hl] at hy;rw[vO] at he;obtain⟨h1,ys',h2,h3⟩:=sA he;simp only[gd] at h1 h2;cases pos with
    |none=>cases h3
    |some q=>
     unfold wpOpIn;simp only[ho];have hw:Region.wanted o (yielded ops a.tmps)=true:=by
      unfold Region.wanted;rw[(jV hy).1]
     rw[if_pos hw];refine vZ hJ hY hat hy h3 (fun a' w' hat'=>oC hcall hcst hJ hY hQ m _ _ _ _ hat' ?_) (fun a' w' hat'=>oC hcall hcst hJ hY hQ m _ _ _ _ hat' ?_)
     ·have h4:ys.drop (q+1)=ys':=by
       have:=congrArg (List.drop 1) (show ys.drop q=ds::ys' from h3);simpa [List.drop_drop] using this
      show _=some (ys.drop (q+1));rw[h4];exact h2
     ·exact h1
   ·obtain⟨σ1,h1,h2⟩:=iZ hcst (fun k i hi=>(hcall.inl k i hi).tr) he;rw[gd] at h2;obtain⟨O,Fz,w0,k1,k2,k3,k4,hg⟩:=hat;exact ip (.inl rfl) hcall k2 k3 k4 (ge ops) hg h1 fun a' w' hg'=>oC hcall hcst hJ hY hQ m pos σ1 a' w' ⟨O,Fz,w0,k1,k2,k3,k4,hg'⟩ h2
theorem Ia(hcall:EnvOK E){cst:uF}(hcst:∀k ds r,cst k ds=some r→E.call k ds=some r)(hJ:∀i,xJ (J i))(hY:ml E.P ys J Jx n l){ops:Array Oper}{Q:Exit→Act→World→Prop}{K:Act→World→Prop}{c:St→Tree}{i:Nat}{pos:Option Nat}{σ:St}{a:Act}{w:World}
  (hat:AtI ys J Jx E.gl pos σ a w) (he:jv (tI l E cst ops [i] σ c)=some (iy ys pos)) (hK:∀pos' σ' a' w',AtI ys J Jx E.gl pos' σ' a' w'→jv (c σ')=some (iy ys pos')→K a' w'):wpOpIn Fence.wide n E.P ops Q i K a w:=by
 simp only[tI] at he;split at he
 ·cases he
 ·rename_i o ho;split at he
  ·rename_i l' ds ss hy;obtain⟨hl,he⟩:=bC he;simp only[zc7] at hl;rw[hl] at hy;rw[vO] at he;obtain⟨h1,ys',h2,h3⟩:=sA he;simp only[gd] at h1 h2;cases pos with
   |none=>cases h3
   |some q=>
    unfold wpOpIn;simp only[ho];have hw:Region.wanted o (yielded ops a.tmps)=true:=by
     unfold Region.wanted;rw[(jV hy).1]
    rw[if_pos hw];refine vZ hJ hY hat hy h3 (fun a' w' hat'=>hK _ _ _ _ hat' ?_) (fun a' w' hat'=>hK _ _ _ _ hat' ?_)
    ·have h4:ys.drop (q+1)=ys':=by
      have:=congrArg (List.drop 1) (show ys.drop q=ds::ys' from h3);simpa [List.drop_drop] using this
     show _=some (ys.drop (q+1));rw[h4];exact h2
    ·exact h1
  ·obtain⟨σ1,h1,h2⟩:=iZ hcst (fun k i hi=>(hcall.inl k i hi).tr) he;rw[gd] at h2;obtain⟨O,Fz,w0,k1,k2,k3,k4,hg⟩:=hat;exact ip (.inl rfl) hcall k2 k3 k4 (ge ops) hg h1 fun a' w' hg'=>hK pos σ1 a' w' ⟨O,Fz,w0,k1,k2,k3,k4,hg'⟩ h2
theorem Ib(hm:E.P.follows .mixedOrders=true)(hcall:EnvOK E){cst:uF}(hcst:∀k ds r,cst k ds=some r→E.call k ds=some r)(hJ:∀i,xJ (J i))(hY:ml E.P ys J Jx n l){ops:Array Oper}{id b:Nat}{Q:Exit→Act→World→Prop}{c:St→Tree}{pos:Option Nat}{σ:St}{a:Act}{w:World}
  (hok:eT E.P ops (List.range ops.size) [] []=true) (hb:se ops=some b) (hat:AtI ys J Jx E.gl pos σ a w)
  (he:jv (nW E.still cst ops (List.range b) σ fun σ=>tI l E.still cst ops [b] σ fun σ=>nW E.still cst ops ((List.range ops.size).drop (b+1)) σ c)=some (iy ys pos))
  (hQ:∀pos' σ' a' w',AtI ys J Jx E.gl pos' σ' a' w'→jv (c σ')=some (iy ys pos')→Q .normal a' w'):(Code.region id ops true).wpIn Fence.wide n E.P Q a w:=by
 obtain⟨hbs,hb1,hb2⟩:=sy hb;simp only[eT,zc4,zd7,List.mem_range,zc7] at hok;obtain⟨⟨⟨⟨_,_⟩,h3⟩,_⟩,h5⟩:=hok;have hrs:=nJ hbs;obtain⟨O,Fz,w0,k1,k2,k3,k4,hgd⟩:=hat;obtain⟨σ1,e1,e2⟩:=dX (E:=E.still) hcst (fun _ _ h=>nomatch h) _ _ _ he;have hfil:(List.range b).filter (dR (Array.replicate ops.size false))=List.range b:=List.filter_eq_self.2 fun i hi=>by
  have:i<ops.size:=by have:=List.mem_range.1 hi;omega
  simp[dR,Array.getD,this]
 refine wpIn_region_any hm (pH (E:=E.still) (Q:=Q) (π1:=List.range b) (π2:=(List.range ops.size).drop (b+1)) (b:=b) (R:=Cd ops) (m:=ops.size-b) (.inl rfl) hcall.still (r9 _ _) k2 k3 k4 (ge ops)
  (fun i hi=>by rw[←hrs];simpa using hi) h3 (ks:=[]) rfl (by rw[←hrs];exact h5) hb1 (σf:=σ1) ?_ ops.size _ σ a _ (by simp) (by rw[hfil];simp;omega) ?_ ?_ (fun _ _ _ _ _ _ _ hm=>by cases hm) (by rw[hfil,ff];exact e1) (hgd.drew k4 _))
 ·intro fuel listed a' w' hfu hsz hnil hun hcl hg';have hlist:∀j,j<b→listed.getD j false=true:=fun j hj=>by
   have hn:=List.filter_eq_nil_iff.1 hnil j (by simpa using hj);have hlt:j<listed.size:=by omega
   simp only[dR,Bool.not_eq_true',Bool.not_eq_false] at hn;simp only[Array.getD,hlt,dif_pos] at hn ⊢;exact hn
  obtain⟨fuel,rfl⟩:∃f,fuel=f+1:=⟨fuel-1,by omega⟩;have hRi:∀i,i∈Region.ready .any ops listed→∀j,kL (Cd ops) i j=true→listed.getD j false=true:=fun i hi j hj=>by
   obtain⟨hlt,_,hbef⟩:=ready_iff.1 hi;obtain⟨k,hk,h|h⟩:=ou h3 hlt hj
   ·subst h;exact hbef k hk
   ·exact hcl k (hbef k hk) j h
  have hbl:listed.getD b false=false:=by
   have:=hun b (za4 ..);have hlt:b<listed.size:=by omega
   simp only[dR,Bool.not_eq_true'] at this;simp only[Array.getD,hlt,dif_pos] at this ⊢;exact this
  have hready:b∈Region.ready .any ops listed:=ready_iff.2 ⟨hbs,by
   have:=hun b (za4 ..);simpa [dR] using this,fun k hk=>by
   obtain⟨oi,_,b2,_⟩:=fh (List.range ops.size) [] h5 (List.range b) b _ hrs;rcases b2 k hk with h|h
   ·cases h
   ·exact hlist k (List.mem_range.1 h)⟩
  refine⟨fun hr=>(by rw[hr] at hready;cases hready),fun i hi=> ?_⟩;have hib:i=b:=by
   obtain⟨hlt,hil,_⟩:=ready_iff.1 hi;have hmem:i∈List.range b++b::(List.range ops.size).drop (b+1):=by rw[←hrs];simpa using hlt
   rcases za9.1 hmem with h|h
   ·have h1:=hlist i (List.mem_range.1 h);have hl:i<listed.size:=by omega
    simp only[Array.getD,hl,dif_pos] at h1 hil;rw[hil] at h1;cases h1
   ·rcases List.mem_cons.1 h with h|h
    ·exact h
    ·have h1:=hRi i hi b (hb2 i h);rw[hbl] at h1;cases h1
  subst hib;refine Ia (E:=E.still) hcall.still hcst hJ hY ⟨O,Fz,w0,k1,k2,k3,k4,hg'⟩ e2 fun pos2 σ2 a2 w2 hat2 hr2=> ?_;obtain⟨O2,Fz2,w02,m1,m2,m3,m4,hg2⟩:=hat2;obtain⟨σ3,f1,f2⟩:=dX (E:=E.still) hcst (fun _ _ h=>nomatch h) _ _ _ hr2;have hls:∀k,(listed.setIfInBounds i true).getD k false=true↔k=i∨listed.getD k false=true:=fun k=>by
   simp only[Array.getD_eq_getD_getElem?,Array.getElem?_setIfInBounds];by_cases e:i=k
   ·subst e;simp[hsz,hbs]
   ·simp[e,Ne.symm e]
  have hfil2:(List.range ops.size).filter (dR (listed.setIfInBounds i true))=(List.range ops.size).drop (i+1):=by
   have hu:∀k,k<ops.size→dR (listed.setIfInBounds i true) k= !(listed.setIfInBounds i true).getD k false:=fun k hk=>by
    simp[dR,Array.getD,hsz,hk]
   rw[hrs,List.filter_append,List.filter_cons];rw[List.filter_eq_nil_iff.2 (fun k hk=>by
    have hk':=List.mem_range.1 hk;rw[hu k (by omega),(hls k).2 (.inr (hlist k hk'))];simp),hu i hbs,(hls i).2 (.inl rfl)]
   simp only[Bool.not_true,Bool.false_eq_true,if_false,zb7];have hdd:(List.range i++i::(List.range ops.size).drop (i+1)).drop (i+1)=(List.range ops.size).drop (i+1):=by rw[←hrs]
   rw[hdd];refine List.filter_eq_self.2 fun k hk=> ?_;have h1:=hun k (za5 _ hk);obtain⟨hlt⟩:k<ops.size∧True:=⟨by simpa using List.mem_of_mem_drop hk,trivial⟩;have hne:k≠i:=fun e=>by
    subst e;have:=List.nodup_range (n:=ops.size);rw[hrs] at this;have:=(List.nodup_append.1 this).2.1;exact(List.nodup_cons.1 this).1 hk
   rw[hu k hlt];cases hx:(listed.setIfInBounds i true).getD k false with
   |false=>rfl
   |true=>
    rcases(hls k).1 hx with h|h
    ·exact absurd h hne
    ·simp only[dR,Bool.not_eq_true'] at h1;have hl:k<listed.size:=by omega
     simp only[Array.getD,hl,dif_pos] at h1 h;rw[h1] at h;cases h
  refine lv (E:=E.still) (.inl rfl) hcall.still (hst:=r9 _ _) m2 m3 m4 (ge ops) (π:=List.range ops.size) (ks:=[]) (fs:=[]) (R:=Cd ops) (fun i hi=>by simpa using hi) h3 rfl h5 (fun a3 w3 hg3=>hQ pos2 σ3 a3 w3 ⟨O2,Fz2,w02,m1,m2,m3,m4,hg3⟩ f2)
   fuel _ σ2 a2 w2 (by simp[hsz]) (by rw[hfil2];simp;omega) ?_ (fun _ _ _ _ _ _ hm=>by cases hm) (by rw[hfil2,ff];exact f1) hg2
  intro k hk j hj;rcases(hls k).1 hk with rfl|hk
  ·exact(hls j).2 (.inr (hRi k hi j hj))
  ·exact(hls j).2 (.inr (hcl k hk j hj))
 ·intro k hk;exfalso;simp only[Array.getD,Array.size_replicate] at hk;split at hk<;>simp at hk
 ·intro i hi;have:i<ops.size:=by
   have:i∈List.range ops.size:=by rw[hrs];exact za9.2 (.inr hi)
   simpa using this
  simp[dR,Array.getD,this]
end
theorem ja{Te:TE}{ys:List (List D)}{J:Nat→(Nat→Prop)→(Nat→Prop)→World→Prop}{Jx:(Nat→Prop)→(Nat→Prop)→World→Prop}{n l:Nat}(hm:Te.E.P.follows .mixedOrders=true)(hcall:EnvOK Te.E)(hcst:∀k ds r,Te.cst k ds=some r→Te.E.call k ds=some r)(hit:Te.it=some l)
  (hJ:∀i,xJ (J i)) (hY:ml Te.E.P ys J Jx n l) {ord:hZ} {N:bA}:∀(c:Code) (p:Nat),nD Te.E.P ord c=true→∀(pos:Option Nat) (σ:St) (k:Out→St→Tree) (a:Act) (w:World) (Q:Exit→Act→World→Prop),AtI ys J Jx Te.E.gl pos σ a w→jv (ek Te ord N c p σ k)=some (iy ys pos)→
   (∀r pos' σ' a' w',AtI ys J Jx Te.E.gl pos' σ' a' w'→jv (k r σ')=some (iy ys pos')→Q (AF r) a' w')→c.wpIn Fence.wide n Te.E.P Q a w
 | .skip,p,_,pos,σ,k,a,w,Q,hg,he,hQ=>by
  exact wpIn_skip (hQ .norm pos σ _ _ hg he)
 | .region id ops false,p,_,pos,σ,k,a,w,Q,hg,he,hQ=>by
  simp only[ek,hit] at he;exact wpIn_region (oC hcall hcst hJ hY (fun pos' σ' a' w' hat hr=>hQ .norm pos' σ' a' w' hat hr) _ pos σ a w hg he)
 | .region id ops true,p,hok,pos,σ,k,a,w,Q,hg,he,hQ=>by
  simp only[ek,hit] at he;simp only[nD] at hok;split at he
  ·rename_i ho;simp only[ho] at hok;split at he
   ·obtain⟨O,Fz,w0,k1,k2,k3,k4,hgd⟩:=hg;obtain⟨σ',h1,h2⟩:=dX (E:=Te.E.still) hcst (fun _ _ h=>nomatch h) _ _ _ he;exact ox (.inl rfl) hm hcall k2 k3 k4 (ks:=[]) (fs:=[]) (ge ops) hok hgd ((ff ..).trans h1) fun a' w' hg'=>hQ .norm pos σ' a' w' ⟨O,Fz,w0,k1,k2,k3,k4,hg'⟩ h2
   ·rename_i b hb;exact Ib hm hcall hcst hJ hY hok hb hg he fun pos' σ' a' w' hat hr=>hQ .norm pos' σ' a' w' hat hr
  ·rename_i i ho;simp only[ho] at hok;split at he
   ·cases he
   rename_i hno;simp only[hno] at hok;split at he
   ·cases he
   rename_i hbar;simp only[hbar] at hok;obtain⟨O,Fz,w0,k1,k2,k3,k4,hgd⟩:=hg;obtain⟨σ',h1,h2⟩:=gL (E:=Te.E.stillF _) hcst (fun _ _ h=>nomatch h) _ _ _ _ he;exact ox (.inl rfl) hm hcall k2 k3 k4 (ge ops) hok hgd h1 fun a' w' hg'=>hQ .norm pos σ' a' w' ⟨O,Fz,w0,k1,k2,k3,k4,hg'⟩ h2
 | .seq x y,p,hok,pos,σ,k,a,w,Q,hg,he,hQ=>by
  simp only[nD,zc4] at hok;simp only[ek] at he;refine wpIn_seq (ja hm hcall hcst hit hJ hY x (2*p) hok.1 pos σ _ a w _ hg he fun r pos' σ' a' w' hg' hr=> ?_);cases r with
  |norm=>
   simp only[pO,ET] at hr;split at hr
   ·exact ja hm hcall hcst hit hJ hY y (2*p+1) hok.2 pos' σ' k a' w' Q hg' hr hQ
   ·obtain⟨i',σ1,_,hs,hr⟩:=eI hr;have hr2:jv (ek Te ord N y (2*p+1) σ1 k)=some (iy ys pos'):=by
     cases hC:Te.C (2*p+1) with
     |zero=>rw[hC] at hr;cases hr
     |succ m=>rw[hC] at hr;exact hr
    exact ja hm hcall hcst hit hJ hY y (2*p+1) hok.2 pos' σ1 k a' w' Q (hg'.imp fun _ _ _ h=>h.norm hs) hr2 hQ
  |exit id=>exact hQ (.exit id) pos' σ' a' w' hg' hr
  |ret=>exact hQ .ret pos' σ' a' w' hg' hr
 | .cond c x y,p,hok,pos,σ,k,a,w,Q,hg,he,hQ=>by
  simp only[nD,zc4] at hok;simp only[ek] at he;obtain⟨O,Fz,w0,k1,k2,k3,k4,I,A,h,hb,hfx⟩:=id hg;split at he
  ·rename_i t hc;rcases fX he with⟨ht,he⟩|⟨ht,he⟩
   ·subst ht;rw[fi hc] at he;exact wpIn_cond_true (bN h (pG k2 k3 h hb) hc).bool_inv (ja hm hcall hcst hit hJ hY x (2*p) hok.1 pos σ k a w Q hg he hQ)
   ·subst ht;rw[fi hc] at he;exact wpIn_cond_false (bN h (pG k2 k3 h hb) hc).bool_inv (ja hm hcall hcst hit hJ hY y (2*p+1) hok.2 pos σ k a w Q hg he hQ)
  ·cases he
 | .block id c,p,hok,pos,σ,k,a,w,Q,hg,he,hQ=>by
  simp only[nD] at hok;simp only[ek] at he;refine wpIn_block (ja hm hcall hcst hit hJ hY c (2*p) hok pos σ _ a w _ hg he fun r pos' σ' a' w' hg' hr=> ?_);cases r with
  |norm=>exact hQ .norm pos' σ' a' w' hg' hr
  |ret=>exact hQ .ret pos' σ' a' w' hg' hr
  |exit i=>
   simp only[ES] at hr;simp only[AF,Exit.inBlock];split at hr
   ·rename_i e;rw[if_pos e];exact hQ .norm pos' σ' a' w' hg' hr
   ·rename_i e;rw[if_neg e];exact hQ (.exit i) pos' σ' a' w' hg' hr
 | .loop c,p,hok,pos,σ,k,a,w,Q,hg,he,hQ=>by
  simp only[nD] at hok;simp only[ek] at he;obtain⟨i,σ1,hi,hs,he⟩:=eI he;have key:∀(m:Nat) (pos:Option Nat) (σ:St) (a:Act) (w:World),AtI ys J Jx Te.E.gl pos σ a w→jv (jt (kY (N p) p (ek Te ord N c (2*p)) k) m σ)=some (iy ys pos)→Code.roundsIn Fence.wide n Te.E.P c Q m a w:=by
   intro m
   induction m with
   |zero=>intro pos σ a w _ hl;cases hl
   |succ m ih=>
    intro pos σ a w hg hl;have hl2:jv (ek Te ord N c (2*p) σ (pO (fun σ'=>gF (N p) p σ' (jt (kY (N p) p (ek Te ord N c (2*p)) k) m)) k))=some (iy ys pos):=hl;refine ja hm hcall hcst hit hJ hY c (2*p) hok pos σ _ a w _ hg hl2 fun r pos' σ' a' w' hg' hr=> ?_;cases r with
    |norm=>
     obtain⟨i',σ2,_,hs2,hr⟩:=eI (show bv KE (fun ds c=>fP ds (c true) (c false)) (gF (N p) p σ' (jt (kY (N p) p (ek Te ord N c (2*p)) k) m))=some (iy ys pos') from hr);exact ih pos' σ2 a' w' (hg'.imp fun _ _ _ h=>h.norm hs2) hr
    |exit id=>exact hQ (.exit id) pos' σ' a' w' hg' hr
    |ret=>exact hQ .ret pos' σ' a' w' hg' hr
  exact wpIn_loop_rounds Te.E.L (key Te.E.L pos σ1 a w (hg.imp fun _ _ _ h=>h.norm hs) he)
 | .exit id,p,_,pos,σ,k,a,w,Q,hg,he,hQ=>by
  exact wpIn_exit (hQ (.exit id) pos σ _ _ hg he)
 | .ret,p,_,pos,σ,k,a,w,Q,hg,he,hQ=>by
  exact wpIn_ret (hQ .ret pos σ _ _ hg he)
 | .scope c,p,hok,pos,σ,k,a,w,Q,hg,he,hQ=>by
  simp only[nD] at hok;simp only[ek] at he;refine wpIn_wide.2 (wp_scope_straight (wpIn_wide.1 (ja hm hcall hcst hit hJ hY c (2*p) hok pos σ k a w _ hg he fun r pos' σ' a' w' hg' hr=> ?_)));have:=hQ r pos' σ' a' w' hg' hr;cases r<;>exact this
 | .label l,p,_,pos,σ,k,a,w,Q,hg,he,hQ=>by
  simp only[ek] at he;exact wpIn_label (hQ .norm pos σ _ _ hg he)
 | .rangeFunc ..,_,_,_,_,_,_,_,_,_,he,_=>by
  simp only[ek,hit] at he;cases he
 | .goto _,_,_,_,_,_,_,_,_,_,he,_=>by simp only[ek] at he;cases he
 | .refuse _,_,_,_,_,_,_,_,_,_,he,_=>by simp only[ek] at he;cases he
theorem CD{α:Type}{f:Nat→Option α}{r:α}(h:Cs f=some r)(l:Nat):f l=some r:=by
 unfold Cs at h;split at h
 ·rename_i hc;rw[hc l];exact h
 ·cases h
theorem ya{α:Type}(x:Option α):Cs (fun _=>x)=x:=by simp[Cs]
theorem CE{Te:TE}(hm:Te.E.P.follows .mixedOrders=true)(hcall:EnvOK Te.E)(hcst:∀k ds r,Te.cst k ds=some r→Te.E.call k ds=some r){f:FuncId}{fn:Func}(hf:Te.E.P.funcs[f]?=some fn){ord:hZ}{N:bA}(hok:jQ Te.E.P ord fn=true)(hres:fn.results.toList=[]){caps:List D}{ys:List (List D)}
  (he:Ct Te ord N fn caps=some ys):SeqOK Te.E.P Te.E.gl f caps ys:=by
 unfold Ct at he;split at he
 ·cases he
 ·rename_i c hb;simp only[jQ,hb,zc4,Bool.not_eq_true'] at hok;refine⟨fun vs w=> ?_,fun n l I w vcaps O Fz J Jx hIF hFO hO hgl hl hr hJ hJx hY h0=> ?_⟩
  ·unfold callFunc;have hne:¬fn.name= "runtime.NumGoroutine":=by simpa using hok.1
   simp[hf,hne,hb]
  ·have he':=CD he l;refine callsIn_of_wp_marks (F:=Fence.wide) (n:=n) hf hb trivial ?_;have hres':fn.results= #[]:=by rw[←Array.toArray_toList (xs:=fn.results),hres]
   obtain⟨vs0,hvs0⟩:∃vs0:Array Value,vs0= #[Value.func (.yield l) #[] #[]]++vcaps:=⟨_,rfl⟩;rw[←hvs0];have hstart:Inv Fz O Fz (fun _ _=>none) (cz fn (.fn (.yield l) [] []::caps)) {tmps:=vs0++Array.replicate (fn.ntmps-vs0.size) undef,defers:=[]} w:=by
    refine sk (fun b hb'=>hO b (hFO b hb')) (by rw[hvs0];simp[hl];omega) (fun j d v hd hv=> ?_);rw[hvs0] at hv;cases j with
    |zero=>
     simp at hd;rw[Array.getElem?_append_left (by simp)] at hv;simp at hv;subst hd hv;exact .fn _ [] [] #[] #[] rfl rfl (fun j d v hd=>by simp at hd) (fun j d v hd=>by simp at hd)
    |succ j=>
     simp at hd;rw[Array.getElem?_append_right (by simp)] at hv;exact(hr j d v hd (by simpa using hv)).mono hIF (fun _ _=>rfl)
   have hat:AtI ys J Jx Te.E.gl (some 0) (cz fn (.fn (.yield l) [] []::caps)) {tmps:=vs0++Array.replicate (fn.ntmps-vs0.size) undef,defers:=[]} w:=
    ⟨O,Fz,w,⟨Nat.zero_le _,h0⟩,fun g d hg=>(hgl g d hg).mono hIF (fun _ _=>rfl),hFO,hO,Fz,_,hstart,Blw.refl _ _,rfl⟩
   refine ja (Te:={Te with it:=some l}) hm hcall hcst rfl hJ (fun i y O Fz I1 W1 args a1 a2 a3 a4 a5 a6 a7=>hY i y O Fz I1 W1 args a1 a2 a3 a4 a5 a6 a7) c 1 hok.2 (some 0) _ _ _ w _ hat he' fun o pos σ a' w' hat' hk=> ?_;obtain⟨O',Fz',w0',hp,_,_,_,I',A',hi',hb',hd'⟩:=hat';have key:LeavesInM Fence.wide n Te.E.P fn a'.tmps (fun e w'=>(∃v,e= .returned v)∧((∃O' Fz',J ys.length O' Fz' w')∨(∃O' Fz',Jx O' Fz' w'))) a'.defers .returning w':=by
    rw[hd'];refine⟨.tuple #[],?_,⟨_,rfl⟩,?_⟩
    ·rw[iR,hres'];simp
    ·have hrem:iy ys pos=[]:=by
      cases o with
      |exit i=>cases hk
      |norm=>
       simp only[jw] at hk;split at hk
       ·rename_i d0 _;have:jv (.leaf (some d0))=some []:=rfl;rw[this] at hk;exact(Option.some.inj hk).symm
       ·cases hk
      |ret=>
       simp only[jw] at hk;split at hk
       ·rename_i d0 _;have:jv (.leaf (some d0))=some []:=rfl;rw[this] at hk;exact(Option.some.inj hk).symm
       ·cases hk
     cases pos with
     |none=>exact .inr ⟨O',Fz',hJx _ _ _ _ hp hb'⟩
     |some i=>
      have hi:i=ys.length:=by
       have h1:=hp.1;have h2:=congrArg List.length (show ys.drop i=[] from hrem);simp at h2;omega
      subst hi;exact .inl ⟨O',Fz',hJ _ _ _ _ _ hp.2 hb'⟩
   cases o with
   |norm=>exact key
   |ret=>exact key
   |exit i=>cases hk
def KY(P:Program)(gl:Nat→Option D)(k:FuncId)(ds:List D)(r:D):Prop:=
 (∀vs w,(callFunc k vs).run P w= .ok (.enter k vs) w)∧
 ∀(I:Nat→Prop) (w:World) (vs:Array Value),(∀b,I b→b<w.heap.size)→Gl gl I w→ds.length=vs.size→(∀(j:Nat) (d:D) (v:Value),ds[j]?=some d→vs[j]?=some v→RelC I w d v)→
  Calls P k vs w fun en w'=>Blw (·<w.heap.size) w w'∧((r= .nils∧en= .returned (.slice none 0 0))∨∃(e n:Nat) (len:Nat) (cs:List D) (b cap:Nat) (c:Array Value),r= .tup [.int .u64 e,.int .u64 n,.slc false len cs]∧en= .returned (.slice (some ⟨b,0,none⟩) len cap)∧
   w.heap.size≤b∧w'.heap[b]?=some (.cells c e (0,0))∧c.size=cap*n∧cap≤maxLen∧len≤cap∧cs.length=len*n∧∀(j:Nat) (d:D) (v:Value),cs[j]?=some d→c[j]?=some v→d.toV=some v)
section
variable {E:Env}{I0:Nat→Prop}{w0:World}
theorem pQ{F:Fence}{n:Nat}{fn:Func}{σ:St}{R:Ending→World→Prop}(hI0:∀b,I0 b→b<w0.heap.size)
  (hend:∀(I:Nat→Prop) (A:Nat→Nat→Option Gh) (a:Act) (w:World),Inv I0 (·<w0.heap.size) I A σ a w→Blw (·<w0.heap.size) w0 w→∃v,(results fn a.tmps).run E.P w= .ok v w∧R (.returned v) w):
  ∀(ds:List Deferred) (I:Nat→Prop) (A:Nat→Nat→Option Gh) (a:Act) (w:World),a.defers=ds→Inv I0 (·<w0.heap.size) I A σ a w→Blw (·<w0.heap.size) w0 w→LeavesInM F n E.P fn a.tmps R ds .returning w
 |[],I,A,a,w,_,h,hb=>by
  obtain⟨v,r1,r2⟩:=hend I A a w h hb;exact⟨v,r1,r2⟩
 |dd::ds,I,A,a,w,hd,h,hb=>by
  obtain⟨r,q1,q2,q3,q4⟩:=h.shut (P:=E.P) (fun b hb=>hI0 b hb) hd;refine⟨by simp,.inl ⟨r,_,q1,q2,?_⟩⟩;exact pQ hI0 hend ds _ A {a with defers:=ds} _ rfl q4 (hb.trans ⟨rfl,rfl,rfl,by simp[World.putObj],fun k hk=>World.putObj_heap_other (fun e=>q3 (e▸hk))⟩)
end
theorem AJ{Te:TE}(hm:Te.E.P.follows .mixedOrders=true)(hcall:EnvOK Te.E)(hcst:∀k ds r,Te.cst k ds=some r→Te.E.call k ds=some r)(hit:Te.it=none)(hsq:∀g cs ys,Te.sq g cs=some ys→SeqOK Te.E.P Te.E.gl g cs ys){f:FuncId}{fn:Func}(hf:Te.E.P.funcs[f]?=some fn){ord:hZ}{N:bA}(hok:jQ Te.E.P ord fn=true){ds:List D}{r:D}
  (he:bF Te ord N .own fn ds=some r):KY Te.E.P Te.E.gl f ds r:=by
 unfold bF at he;split at he
 ·cases he
 ·rename_i c hb;simp only[jQ,hb,zc4,Bool.not_eq_true'] at hok;refine⟨fun vs w=> ?_,fun I w vs hI hgl hl hr=> ?_⟩
  ·unfold callFunc;have hne:¬fn.name= "runtime.NumGoroutine":=by simpa using hok.1
   simp[hf,hne,hb]
  ·refine callsIn_wide.1 (callsIn_of_wp_marks (F:=Fence.wide) (n:=0) hf hb trivial ?_);refine eX hm hcall hcst hit hsq c 1 hok.2 (fun _=>True) (fun x=>x<w.heap.size) I w Fence.wide 0 (.inl rfl) (.inl rfl) hgl hI (fun _ h=>h) (eU c) _ _ _ w _ (vF hI hl hr) he fun o σ a' w' hg hk0=> ?_;obtain⟨I',A',h,hbel,_⟩:=hg;have key:run (xS σ fn)=some r→LeavesInM Fence.wide 0 Te.E.P fn a'.tmps (fun en w'=>Blw (·<w.heap.size) w w'∧((r= .nils∧en= .returned (.slice none 0 0))∨∃(e n:Nat) (len:Nat) (cs:List D) (b cap:Nat) (c:Array Value),r= .tup [.int .u64 e,.int .u64 n,.slc false len cs]∧en= .returned (.slice (some ⟨b,0,none⟩) len cap)∧
     w.heap.size≤b∧w'.heap[b]?=some (.cells c e (0,0))∧c.size=cap*n∧cap≤maxLen∧len≤cap∧cs.length=len*n∧∀(j:Nat) (d:D) (v:Value),cs[j]?=some d→c[j]?=some v→d.toV=some v)) a'.defers .returning w':=fun hend=>by
    refine pQ hI ?_ _ I' A' a' w' rfl h hbel;intro I2 A2 a2 w2 h2 hb2;unfold xS at hend;split at hend
    ·rename_i t hres;have hval:∀d,σ.T[t]?=some d→∃v,(results fn a2.tmps).run Te.E.P w2= .ok v w2∧RelV I2 A2 (bl σ.H) w2 d v:=fun d hd=>by
      have hlt:t<a2.tmps.size:=by rw[←h2.tl];exact(zc1.1 hd).1
      refine⟨a2.tmps[t],?_,h2.tv t d _ hd (Array.getElem?_eq_getElem hlt)⟩;have hres':fn.results= #[.tmp t]:=by rw[←Array.toArray_toList (xs:=fn.results),hres]
      rw[iR,hres'];simp[AG,hlt]
     split at hend
     ·rename_i hd;obtain⟨v,r1,r2⟩:=hval _ hd;refine⟨v,r1,hb2,.inl ⟨(Option.some.inj hend).symm,?_⟩⟩;cases r2 with
      |clo h=>cases h;rfl
     ·rename_i s g len hd;obtain⟨v,r1,r2⟩:=hval _ hd;split at hend
      ·rename_i e n cs ho;obtain⟨hc1,hend⟩:=bC hend;obtain⟨hc2,hend⟩:=bC hend;simp only[zc7] at hc1;obtain⟨x,hx,hxB,cc,o1,o2,o3,o4,o5,o6,o7,o8⟩:=h2.ob s g _ ho;refine⟨v,r1,hb2,.inr ?_⟩;cases r2 with
       |clo h=>cases h
       |own _ _ _ ad cap hgs hlc hxx=>
        obtain⟨rfl,rfl,rfl⟩:=hxx x hx;refine⟨e,n,x.len,cs,x.b,x.cap,cc,(Option.some.inj hend).symm,rfl,?_,o1,o2,o3,o4,hc1,fun j d v hd hv=> ?_⟩
        ·have hnI:¬I2 x.b:=fun hi=>by have:=o7.2 hi;cases this
         have:=hxB.resolve_left hnI;omega
        ·have hp:=zd7.1 hc2 d (List.mem_of_getElem? hd);obtain⟨u,hu⟩:=Option.isSome_iff_exists.1 hp;rw[(o6 j d v hd hv).toV hu];exact hu
      ·cases hend
     ·cases hend
    ·cases hend
   cases o with
   |exit i=>cases hk0
   |norm=>exact key hk0
   |ret=>exact key hk0
end Go.Pd
end
section
namespace Go.Pd
section
variable {α:Type}{r:α}
@[simp] theorem be(t e:α):bo true t e=t:=rfl
@[simp] theorem ba(t e:α):bo false t e=e:=rfl
@[simp] theorem bh(t:Option α):bu true t=t:=rfl
@[simp] theorem Id(t:Option α):bu false t=none:=rfl
@[simp] theorem bf{β:Type}(x:β)(c:β→Option α):bn (some x) c=c x:=rfl
@[simp] theorem Kx{β:Type}(c:β→Option α):bn none c=none:=rfl
@[simp] theorem bp(k:IntKind)(n:Int)(c:Int→Option α):bw k (.int k n) c=c n:=by simp[bw]
@[simp] theorem bD(b:Bool)(c:Bool→Option α):bM (.bool b) c=c b:=rfl
@[simp] theorem bE(b:ByteArray)(c:ByteArray→Option α):bH (.str b) c=c b:=rfl
@[simp] theorem cW(f:Bool)(n:Nat)(cs:List D)(c:Bool→Nat→List D→Option α):cP (.slc f n cs) c=c f n cs:=rfl
@[simp] theorem KZ(n:Nat)(cs:List D)(c:List D→Option α):fK (.agg cs) n c=if cs.length=n then c cs else none:=rfl
@[simp] theorem K0(n:Nat)(cs:List D)(c:List D→Option α):cJ (.tup cs) n c=if cs.length=n then c cs else none:=rfl
theorem yb{cs:List D}{i:Nat}{d:D}(h:cs[i]?=some d)(c:D→Option α):bc cs i c=c d:=by simp[bc,h]
end
end Go.Pd
end
section
namespace Go.Pd
open Go.RowKit Go.ChangeShapes
def pR(P:Program)(fl:TypeId→Bool):List Field→Nat→Option Nat
 |[],off=>some off
 |f::fs,off=>if f.offset=off∧fl f.type=true then pR P fl fs (off+P.cellsOf f.type) else none
def k9(P:Program):Nat→TypeId→Bool
 |0,_=>false
 |n+1,t=>match P.underlying t with
  |some .bool=>P.cellsOf t==1
  |some (.int _)=>P.cellsOf t==1
  |some .string=>P.cellsOf t==1
  |some (.slice e)=>P.cellsOf t==1&&k9 P n e
  |some (.struct fs)=>pR P (k9 P n) fs.toList 0==some (P.cellsOf t)
  |some (.array m e)=>k9 P n e&&P.cellsOf t==m*P.cellsOf e
  |_=>false
def Ty(P:Program):Nat→TypeId→List D→Prop
 |0,_,_=>False
 |n+1,t,ds=>match P.underlying t with
  |some .bool=>∃b,ds=[.bool b]
  |some (.int k)=>∃x,ds=[.int k x]∧(Lit.int k x).wf=true
  |some .string=>∃s,ds=[.str s]∧s.size≤maxLen
  |some (.slice e)=>∃gs:List (List D),ds=[.slc false gs.length gs.flatten]∧gs.length≤maxLen∧∀g∈gs,Ty P n e g
  |some (.struct fs)=>∃gs:List (List D),ds=gs.flatten∧gs.length=fs.size∧∀(i:Nat) (f:Field) (g:List D),fs.toList[i]?=some f→gs[i]?=some g→Ty P n f.type g
  |some (.array m e)=>∃gs:List (List D),ds=gs.flatten∧gs.length=m∧∀g∈gs,Ty P n e g
  |_=>False
def RowRel(I:Nat→Prop)(w:World)(ds:List D)(cs:List Value):Prop:=
 ds.length=cs.length∧∀(j:Nat) (d:D) (v:Value),ds[j]?=some d→cs[j]?=some v→RelC I w d v
section
variable {I:Nat→Prop}{w:World}{P:Program}
theorem RowRel.one{d:D}{v:Value}(h:RelC I w d v):RowRel I w [d] [v]:=
 ⟨rfl,fun j d' v' hd hv=>by cases j with|zero=>simp at hd hv;subst hd hv;exact h|succ j=>simp at hd⟩
theorem RowRel.append{a b:List D}{x y:List Value}(h1:RowRel I w a x)(h2:RowRel I w b y):RowRel I w (a++b) (x++y):=by
 refine⟨by simp[h1.1,h2.1],fun j d v hd hv=> ?_⟩;by_cases hj:j<a.length
 ·rw[zb9 hj] at hd;rw[zb9 (by rw[←h1.1];exact hj)] at hv;exact h1.2 j d v hd hv
 ·rw[zb8 (by omega)] at hd;rw[zb8 (by rw[←h1.1];omega),←h1.1] at hv;exact h2.2 _ d v hd hv
theorem RowRel.nil:RowRel I w [] []:=⟨rfl,fun j d v h=>by simp at h⟩
theorem pS{fl:TypeId→Bool}{T:TypeId→List D→Prop}{cs:List Value}:∀(fs:List Field) (off total:Nat),pR P fl fs off=some total→total≤cs.length→
  (∀f∈fs,fl f.type=true→((cs.drop f.offset).take (P.cellsOf f.type)).length=P.cellsOf f.type→∃ds,T f.type ds∧RowRel I w ds ((cs.drop f.offset).take (P.cellsOf f.type)))→
  off≤total∧∃gs:List (List D),gs.length=fs.length∧(∀(i:Nat) (f:Field) (g:List D),fs[i]?=some f→gs[i]?=some g→T f.type g)∧RowRel I w gs.flatten ((cs.drop off).take (total-off))
 |[],off,total,h,hl,_=>by
  simp only[pR,za0] at h;subst h;exact⟨zb0 _,[],rfl,(fun i f g hf=>by simp at hf),by simp[RowRel.nil]⟩
 |f::fs,off,total,h,hl,hx=>by
  simp only[pR] at h;split at h
  ·rename_i hc;obtain⟨ho,hfl⟩:=hc;obtain⟨h1,gs,h2,h3,h4⟩:=pS fs (off+P.cellsOf f.type) total h hl (fun f' hf'=>hx f' (za5 _ hf'));obtain⟨ds,h5,h6⟩:=hx f (by simp) hfl (by rw[ze2,ze1];omega);refine⟨by omega,ds::gs,by simp[h2],fun i f' g hf hg=> ?_,?_⟩
   ·cases i with
    |zero=>simp at hf hg;subst hf hg;exact h5
    |succ i=>simp at hf hg;exact h3 i f' g hf hg
   ·rw[List.flatten_cons];have e:total-off=P.cellsOf f.type+(total-(off+P.cellsOf f.type)):=by omega
    rw[e,List.take_add,List.drop_drop];rw[ho] at h6;exact h6.append h4
  ·cases h
theorem nK{s:Nat}:∀(gs:List (List D)),(∀g∈gs,g.length=s)→∀(j:Nat) (d:D),gs.flatten[j]?=some d→∃(i r:Nat) (g:List D),gs[i]?=some g∧g[r]?=some d∧j=i*s+r
 |[],_,j,d,h=>by simp at h
 |g::gs,hs,j,d,h=>by
  rw[List.flatten_cons] at h;by_cases hj:j<g.length
  ·rw[zb9 hj] at h;exact⟨0,j,g,rfl,h,by simp⟩
  ·rw[zb8 (by omega)] at h;obtain⟨i,r,g',h1,h2,h3⟩:=nK gs (fun g hg=>hs g (za5 _ hg)) _ d h;refine⟨i+1,r,g',by simpa using h1,h2,?_⟩;have:=hs g (by simp);rw[Nat.add_mul];omega
theorem pT{α:Type}{p:Nat→α→Prop}:∀(n:Nat),(∀i,i<n→∃x,p i x)→∃l:List α,l.length=n∧∀i x,l[i]?=some x→p i x
 |0,_=>⟨[],rfl,fun i x h=>by simp at h⟩
 |n+1,h=>by
  obtain⟨l,h1,h2⟩:=pT n (fun i hi=>h i (by omega));obtain⟨x,hx⟩:=h n (by omega);refine⟨l++[x],by simp[h1],fun i y hy=> ?_⟩;by_cases hi:i<l.length
  ·rw[zb9 hi] at hy;exact h2 i y hy
  ·rw[zb8 (by omega)] at hy;have:i-l.length=0:=by
    have:=(zc1.1 hy).1;simp at this;omega
   rw[this] at hy;simp at hy;subst hy;have:i=n:=by omega
   subst this;exact hx
theorem oD{H:Type}{enc:TypeId×Value→H}{base:Nat}{spare:Nat→Bool}{held:Bool}(hI:∀b,b<w.heap.size→I b):∀(n:Nat) (m:Nat) (t:TypeId) (cs:List Value) (x:DataW H×List MemPlace),k9 P n t=true→
  DataW.trod enc P w base spare held m t cs=some x→∃ds,Ty P n t ds∧RowRel I w ds cs∧ds.length=P.cellsOf t
 |0,_,_,_,_,h,_=>by cases h
 |n+1,m,t,cs,x,hf,h=>by
  unfold k9 at hf;unfold Ty;split at hf
  ·rename_i hu;obtain⟨b,rfl,_⟩:=DataW.trod_bool hu h;exact⟨[.bool b],⟨b,rfl⟩,.one (.bool b),(ze4.1 hf).symm⟩
  ·rename_i k hu;obtain⟨x',rfl,_,hw⟩:=DataW.trod_int hu h;exact⟨[.int k x'],⟨x',rfl,hw⟩,.one (.int k x'),(ze4.1 hf).symm⟩
  ·rename_i hu;obtain⟨s,rfl,_,hw⟩:=DataW.trod_string hu h;exact⟨[.str s],⟨s,rfl,hw⟩,.one (.str s),(ze4.1 hf).symm⟩
  ·rename_i e hu;simp only[zc4,ze4] at hf;rcases Deep.open_slice hu h with⟨rfl,_⟩|⟨a,len,cap,m',n',Dd,Pl,rfl,hb,hl,hm,hmm,_,hx⟩
   ·exact⟨[.slc false 0 []],⟨[],rfl,Nat.zero_le _,fun g hg=>by cases hg⟩,.one (.slcn false),by simpa using hf.1.symm⟩
   ·have hlm:len≤m':=by rw[hmm];split<;>omega
    obtain⟨gs,g1,g2⟩:=pT (p:=fun i (g:List D)=>Ty P n e g∧g.length=P.cellsOf e∧∀(r:Nat) (d:D),g[r]?=some d→∃v,w.cell? (a.add (i*P.cellsOf e+r))=some v∧RelC I w d v) len (fun i hi=>by
     obtain⟨cs',c1,c2⟩:=hx i (by omega);obtain⟨ds,d1,d2,d3⟩:=oD hI n n' e cs' _ hf.2 c2;obtain⟨_,e1,e2⟩:=World.cells?_some c1;refine⟨ds,d1,d3,fun r d hd=> ?_⟩;have hr:r<cs'.length:=by rw[←d2.1];exact(zc1.1 hd).1
     have:=e2 r (by omega);rw[kk] at this;refine⟨cs'[r],?_,d2.2 r d _ hd (zd2 hr)⟩;rw[this,zd2 hr])
    have hlen:∀g∈gs,g.length=P.cellsOf e:=fun g hg=>by
     obtain⟨i,hi,rfl⟩:=List.getElem_of_mem hg;exact(g2 i _ (zd2 hi)).2.1
    have key:∀(j:Nat) (d:D),gs.flatten[j]?=some d→∃v,w.cell? (a.add j)=some v∧RelC I w d v:=fun j d hd=>by
     obtain⟨i,r,g,q1,q2,rfl⟩:=nK gs hlen j d hd;exact(g2 i g q1).2.2 r d q2
    refine⟨[.slc false gs.length gs.flatten],⟨gs,rfl,by omega,fun g hg=> ?_⟩,.one ?_,by simpa using hf.1.symm⟩
    ·obtain⟨i,hi,rfl⟩:=List.getElem_of_mem hg;exact(g2 i _ (zd2 hi)).1
    ·rw[g1];refine .slc false len gs.flatten a cap (fun j=>(w.cell? (a.add j)).getD undef) (fun hp=> ?_) (fun h=>by cases h) hl (fun j d hd=> ?_) (fun j d hd=> ?_)
     ·obtain⟨v,hv,_⟩:=key 0 _ (zd2 hp);refine hI _ ?_;unfold World.cell? at hv;rw[eG] at hv;cases hq:w.heap[a.block]? with
      |none=>simp[hq] at hv
      |some o=>exact(zc0.1 hq).1
     ·obtain⟨v,hv,_⟩:=key j d hd;simp[hv]
     ·obtain⟨v,hv,hr⟩:=key j d hd;simp only[hv,Option.getD_some];exact hr
  ·rename_i fs hu;simp only[ze4] at hf;obtain⟨xs,n',_,_,hl,hxl,hx⟩:=DataW.trod_struct hu h;obtain⟨_,gs,g1,g2,g3⟩:=pS (T:=Ty P n) (cs:=cs) fs.toList 0 _ hf (by omega) (fun f hff hfl hlen=>by
    obtain⟨i,hi,hfi⟩:=List.getElem_of_mem hff;have hi':i<fs.size:=by simpa using hi
    have h1:=hx i f (by rw[←hfi];simp[hi']);rw[zd2 (by omega)] at h1;obtain⟨ds,d1,d2,_⟩:=oD hI n n' f.type _ _ hfl h1;exact⟨ds,d1,d2⟩)
   have e:(cs.drop 0).take (P.cellsOf t-0)=cs:=by
    rw[Nat.sub_zero,List.drop_zero,←hl,List.take_length]
   rw[e] at g3;exact⟨gs.flatten,⟨gs,rfl,by simpa using g1,g2⟩,g3,by rw[g3.1,hl]⟩
  ·rename_i m' e hu;simp only[zc4,ze4] at hf;obtain⟨xs,n',_,_,hl,hxl,hx⟩:=DataW.trod_array hu h;obtain⟨gs,g1,g2⟩:=pT (p:=fun i (g:List D)=>Ty P n e g∧g.length=P.cellsOf e∧RowRel I w g ((cs.drop (i*P.cellsOf e)).take (P.cellsOf e))) m' (fun i hi=>by
    have h1:=hx i hi;rw[zd2 (by omega)] at h1;obtain⟨ds,d1,d2,d3⟩:=oD hI n n' e _ _ hf.1 h1;exact⟨ds,d1,d3,d2⟩)
   have key:∀(gs:List (List D)) (k:Nat),(∀(i:Nat) (g:List D),gs[i]?=some g→RowRel I w g ((cs.drop ((k+i)*P.cellsOf e)).take (P.cellsOf e)))→(∀g∈gs,g.length=P.cellsOf e)→(k+gs.length)*P.cellsOf e≤cs.length→
     RowRel I w gs.flatten ((cs.drop (k*P.cellsOf e)).take (gs.length*P.cellsOf e)):=by
    intro gs
    induction gs with
    |nil=>intro k _ _ _;simp[RowRel.nil]
    |cons g gs ih=>
     intro k hg hgl hk;have h1:=hg 0 g rfl;have h2:=ih (k+1) (fun i g' hg'=>by
      have:=hg (i+1) g' (by simpa using hg')
      rwa [show k+1+i=k+(i+1) by omega]) (fun g hg=>hgl g (za5 _ hg)) (by rw[show k+1+gs.length=k+(g::gs).length by simp;omega];exact hk)
     rw[List.flatten_cons,za7,Nat.add_mul,Nat.one_mul,Nat.add_comm (gs.length*P.cellsOf e),List.take_add,List.drop_drop];rw[Nat.add_zero] at h1;rw[Nat.add_mul,Nat.one_mul] at h2;exact h1.append h2
   have hgl:∀g∈gs,g.length=P.cellsOf e:=fun g hg=>by
    obtain⟨i,hi,rfl⟩:=List.getElem_of_mem hg;exact(g2 i _ (zd2 hi)).2.1
   have h3:=key gs 0 (fun i g hg=>by simpa using (g2 i g hg).2.2) hgl (by rw[Nat.zero_add,g1,hl,hf.2];exact zb0 _);have e:(cs.drop (0*P.cellsOf e)).take (gs.length*P.cellsOf e)=cs:=by
    rw[Nat.zero_mul,List.drop_zero,g1,←hf.2,←hl,List.take_length]
   rw[e] at h3;exact⟨gs.flatten,⟨gs,rfl,g1,fun g hg=>by
    obtain⟨i,hi,rfl⟩:=List.getElem_of_mem hg;exact(g2 i _ (zd2 hi)).1⟩,h3,by rw[h3.1,hl]⟩
  ·cases hf
end
end Go.Pd
end
section
namespace Go.Pd
open Go.RowKit Go.ChangeShapes Go.WideShapes
def mm(P:Program)(t:TypeId)(ds:List D):D:=match c5 P t with
 |some true=> .agg ds
 |_=>ds.headD .junk
def v6(P:Program)(n:Nat):List TypeId→List (List D)→Prop
 |[],[]=>True
 |t::ts,c::cs=>Ty P n t c∧v6 P n ts cs
 |_,_=>False
def fN(P:Program):List TypeId→List (List D)→List D
 |t::ts,c::cs=>mm P t c::fN P ts cs
 |_,_=>[]
def pU(P:Program)(t:TypeId):Bool:=P.readableRec t&&decide (t<P.types.size)&&k9 P 12 t
section
variable {I:Nat→Prop}{w:World}{P:Program}{H:Type}{enc:TypeId×Value→H}
theorem Ie{base b0:Nat}{r:Reach}{spare:Nat→Bool}{held:Bool}{n:Nat}(hI:∀b,b<w.heap.size→I b){t:TypeId}{v:Value}{d:DataW H}{ps:List MemPlace}(hf:k9 P n t=true)(hv:Value.okWide P w r b0 t v)
  (h:DataW.Trod enc P w base spare held t v d ps):∃c,Ty P n t c∧RelC I w (mm P t c) v:=by
 obtain⟨m,hm⟩:=h;obtain⟨c,c1,c2,c3⟩:=oD hI n m t _ _ hf hm;refine⟨c,c1,?_⟩;cases n with
 |zero=>cases hf
 |succ n=>
  have one:∀{u:Value},v=u→u.cells= #[u]→c5 P t≠some true→RelC I w (mm P t c) v:=fun {u} e1 e2 hag=>by
   subst e1;rw[e2] at c2;obtain⟨l,rr⟩:=c2;have:mm P t c=c.headD .junk:=by
    unfold mm;split
    ·rename_i h;exact absurd h hag
    ·rfl
   rw[this]
   match c,l with
   |[x],_=>exact rr 0 x _ rfl rfl
  have many:∀{vs:Array Value},v= .agg vs→c5 P t=some true→RelC I w (mm P t c) v:=fun {vs} e hag=>by
   subst e;have:mm P t c= .agg c:=by unfold mm;rw[hag]
   rw[this];exact .agg c vs (by simpa [Value.cells] using c2.1) fun j d u hd hu=>c2.2 j d u hd (by simpa [Value.cells] using hu)
  have hf':=hf;unfold k9 at hf';split at hf'
  ·rename_i hu;obtain⟨b,rfl⟩:=okWide_bool hu hv;exact one rfl rfl (by simp[c5,hu])
  ·rename_i k hu;obtain⟨x,rfl⟩:=okWide_int hu hv;exact one rfl rfl (by simp[c5,hu])
  ·rename_i hu;obtain⟨s,rfl⟩:=okWide_string hu hv;exact one rfl rfl (by simp[c5,hu])
  ·rename_i e hu;obtain⟨a,len,cap,rfl⟩:=okWide_slice hu hv;exact one rfl rfl (by simp[c5,hu])
  ·rename_i fs hu;obtain⟨cs,rfl,_⟩:=okWide_struct hu hv;exact many rfl (by simp[c5,hu])
  ·rename_i m' e hu;have:∃cs,v= .agg cs:=by
    unfold Value.okWide at hv;rw[hu] at hv;obtain⟨cs,rfl,_⟩:=hv;exact⟨cs,rfl⟩
   obtain⟨cs,rfl⟩:=this;exact many rfl (by simp[c5,hu])
  ·cases hf'
theorem zk{base b0:Nat}{r:Reach}{spare:Nat→Bool}{held:Bool}{n:Nat}(hI:∀b,b<w.heap.size→I b):∀(ts:List TypeId) (vs:List Value) (ds:List (DataW H)) (ps:List MemPlace),(∀t∈ts,k9 P n t=true)→
  (∀(j:Nat) t v,ts[j]?=some t→vs[j]?=some v→Value.okWide P w r b0 t v)→DataW.TrodAll enc P w base spare held ts vs ds ps→
  ∃cs,v6 P n ts cs∧(fN P ts cs).length=vs.length∧∀(j:Nat) (d:D) (v:Value),(fN P ts cs)[j]?=some d→vs[j]?=some v→RelC I w d v
 |[],vs,ds,ps,_,_,h=>by
  obtain⟨rfl,rfl,rfl⟩:=trodAll_nil h;exact⟨[],trivial,rfl,fun j d v h=>by simp[fN] at h⟩
 |t::ts,vs,ds,ps,hf,hv,h=>by
  obtain⟨v,vs1,d,ds1,p,q,rfl,rfl,rfl,h1,h2⟩:=trodAll_cons h;obtain⟨c,c1,c2⟩:=Ie hI (hf t (by simp)) (hv 0 t v rfl rfl) h1;obtain⟨cs,e1,e2,e3⟩:=zk hI ts vs1 ds1 q (fun t ht=>hf t (za5 _ ht)) (fun j t v ht hvv=>hv (j+1) t v (by simpa using ht) (by simpa using hvv)) h2;refine⟨c::cs,⟨c1,e1⟩,by simp[fN,e2],fun j d u hd hu=> ?_⟩;cases j with
  |zero=>simp[fN] at hd hu;subst hd hu;exact c2
  |succ j=>simp[fN] at hd hu;exact e3 j d u hd hu
theorem la(hl:laidOutB P=true){W W':World}(hb:Below W.heap.size W W'):∀(ts:List TypeId) (vs:List Value) (ds:List (DataW H)) (ps:List MemPlace),(∀t∈ts,pU P t=true)→
  DataW.TrodAll enc P W 0 (fun _=>true) true ts vs ds ps→(∀x∈ps,x.block<W.heap.size)→DataW.TrodAll enc P W' 0 (fun b=>decide (b<W.heap.size)) true ts vs ds ps
 |[],vs,ds,ps,_,h,_=>by
  obtain⟨rfl,rfl,rfl⟩:=trodAll_nil h;exact trodAll_mk0
 |t::ts,vs,ds,ps,hc,h,hlt=>by
  obtain⟨v,vs1,d,ds1,p,q,rfl,rfl,rfl,h1,h2⟩:=trodAll_cons h;have h3:=hc t (by simp);simp only[pU,zc4,zc7] at h3;exact⟨p,q,Below.trod hl h3.1.1 h3.1.2 h1 hb (fun x hx=>hlt x (List.mem_append_left _ hx)),
   la hl hb ts vs1 ds1 q (fun t ht=>hc t (za5 _ ht)) h2 (fun x hx=>hlt x (List.mem_append_right _ hx)),rfl⟩
end
end Go.Pd
end
section
namespace Go.Pd
open Go.RowKit
def K1(P:Program)(gl:Nat→Option D)(k:FuncId)(cs:List D)(len:Nat)(rest cs':List D)(m:Option Nat):Prop:=
 ∀(I:Nat→Prop) (w:World) (b cap n:Nat) (e:TypeId) (c:Array Value) (vrest:Array Value),
  (∀b,I b→b<w.heap.size)→Gl gl I w→¬I b→w.heap[b]?=some (.cells c e (0,0))→c.size=cap*n→cap≤maxLen→len≤cap→cs.length=len*n→cs.all D.plainZ=true→
  (∀(j:Nat) (d:D) (v:Value),cs[j]?=some d→c[j]?=some v→d.toVZ=some v)→rest.length=vrest.size→(∀(j:Nat) (d:D) (v:Value),rest[j]?=some d→vrest[j]?=some v→RelC I w d v)→
  cs'.all D.plainZ=true→(match m with|none=>cs'.length=cs.length|some m=>cs'.length=m*n∧m≤len)→
  Calls P k (#[.slice (some ⟨b,0,none⟩) len cap]++vrest) w fun en w'=>en= .returned (match m with|none=> .tuple #[]|some m=> .slice (some ⟨b,0,none⟩) m cap)∧
   ∃c',w'.heap[b]?=some (.cells c' e (0,0))∧c'.size=c.size∧(∀(j:Nat) (d:D) (v:Value),cs'[j]?=some d→c'[j]?=some v→d.toVZ=some v)∧
    w.heap.size≤w'.heap.size∧(∀k,k<w.heap.size→k≠b→w'.heap[k]?=w.heap[k]?)∧w'.os=w.os∧w'.tape=w.tape∧w'.output=w.output
theorem v7{P:Program}{gl:Nat→Option D}{k:FuncId}{g:lM}(hen:∀vs w,(callFunc k vs).run P w= .ok (.enter k vs) w)(h:∀cs len rest cs' m,g cs len rest=some (cs',m)→K1 P gl k cs len rest cs' m):y3 P gl k g:=
 ⟨hen,fun I w b cap n len e c cs rest cs' m vrest h1 h2 h3 h4 h5 h6 h7 h8 h9 h10 h11 h12 hg h13 h14=>h cs len rest cs' m hg I w b cap n e c vrest h1 h2 h3 h4 h5 h6 h7 h8 h9 h10 h11 h12 h13 h14⟩
section
variable {I:Nat→Prop}{w:World}
def A0(b cap len:Nat)(s g:Nat):Option Gh:=if s=0∧g=0 then some ⟨b,cap,len⟩ else none
theorem tT{b cap len s g:Nat}{x:Gh}(h:A0 b cap len s g=some x):s=0∧g=0∧x=⟨b,cap,len⟩:=by
 unfold A0 at h;split at h
 ·rename_i hh;exact⟨hh.1,hh.2,(Option.some.inj h).symm⟩
 ·cases h
theorem jb:∀k,(fB k).length=k
 |0=>rfl
 |k+1=>by simp[fB,jb k]
theorem v8(v:Value)(x y:Array Value):((#[v]++x)++y)[0]?=some v:=by
 rw[Array.append_assoc,Array.getElem?_append_left (by simp)];rfl
theorem nL{fn:Func}{e:TypeId}{n len:Nat}{cs rest:List D}{s g:Nat}{o:Ob}(h:bi (iX fn e n len cs rest).H s g=some o):s=0∧g=0∧o= .arr e n cs false:=by
 by_cases hs:s=0
 ·subst hs;have h0:(0:Nat)<(cz fn (.own 0 0 len::rest)).H.length:=by
   show 0<(fB ((rest.length+1)+_)).length;rw[jb];omega
  unfold iX at h;rw[bQ h0] at h;split at h
  ·rename_i hg;exact⟨rfl,by omega,(Option.some.inj h).symm⟩
  ·cases h
 ·unfold iX at h;rw[bO (Ne.symm hs)] at h;rw[show(cz fn (.own 0 0 len::rest)).H=fB ((D.own 0 0 len::rest).length+(fn.ntmps-(D.own 0 0 len::rest).length)) from rfl,iU] at h;cases h
theorem mn{fn:Func}{e:TypeId}{n len:Nat}{cs rest:List D}:bi (iX fn e n len cs rest).H 0 0=some (.arr e n cs false):=by
 have h0:(0:Nat)<(cz fn (.own 0 0 len::rest)).H.length:=by
  show 0<(fB ((rest.length+1)+_)).length;rw[jb];omega
 unfold iX;rw[bQ h0];rfl
theorem yc{fn:Func}{e:TypeId}{b cap n len:Nat}{cs rest:List D}{c:Array Value}{vrest:Array Value}(hI:∀b,I b→b<w.heap.size)(hbI:¬I b)(hb:w.heap[b]?=some (.cells c e (0,0)))(hcs:c.size=cap*n)(hcap:cap≤maxLen)(hlen:len≤cap)(hcl:cs.length=len*n)
  (hcell:∀(j:Nat) (d:D) (v:Value),cs[j]?=some d→c[j]?=some v→d.toVZ=some v) (hrl:rest.length=vrest.size) (hrr:∀(j:Nat) (d:D) (v:Value),rest[j]?=some d→vrest[j]?=some v→RelC I w d v):
  Inv I (fun x=>x<w.heap.size∧x≠b) I (A0 b cap len) (iX fn e n len cs rest) {tmps:=(#[.slice (some ⟨b,0,none⟩) len cap]++vrest)++Array.replicate (fn.ntmps-(#[Value.slice (some ⟨b,0,none⟩) len cap]++vrest).size) undef,defers:=[]} w:=by
 refine⟨?_,fun t d v hd hv=> ?_,fun s g o ho=> ?_,fun s g x hx=> ?_,fun s g x s' g' x' h1 h2 _=> ?_,hI,fun b hb=> .inl hb,fun b hb=>hb,Marks.nil,.none fun s g o ho=>by obtain⟨_,_,rfl⟩:=nL ho;rfl⟩
 ·simp[iX,cz,iS,hrl];omega
 ·have hd:((D.own 0 0 len::rest)++gS (fn.ntmps-(D.own 0 0 len::rest).length))[t]?=some d:=hd;cases t with
  |zero=>
   simp at hd;subst hd;rw[v8] at hv;have hv:Value.slice (some ⟨b,0,none⟩) len cap=v:=Option.some.inj hv;subst hv;have hg:0<bl (iX fn e n len cs rest).H 0:=by
    have h0:=mn (fn:=fn) (e:=e) (n:=n) (len:=len) (cs:=cs) (rest:=rest);rw[liveH_some] at h0;unfold bl;rw[h0];exact Nat.lt_succ_self _
   exact .own 0 0 len ⟨b,0,none⟩ cap hg hlen fun x hx=>by
    obtain⟨_,_,rfl⟩:=tT hx;exact⟨rfl,rfl,rfl⟩
  |succ t=>
   by_cases ht:t<rest.length
   ·rw[List.cons_append,List.getElem?_cons_succ,zb9 ht] at hd;have hv:vrest[t]?=some v:=by
     rw[Array.getElem?_append_left (by simp;omega),Array.getElem?_append_right (by simp)] at hv;simpa using hv
    exact .clo (hrr t d v hd hv)
   ·rw[List.cons_append,List.getElem?_cons_succ,zb8 (by omega)] at hd;rw[Array.getElem?_append_right (by simp;omega)] at hv;have e1:=iT _ _ _ hd;have e2:v=undef:=by
     rw[Array.getElem?_replicate] at hv;split at hv
     ·simpa using hv.symm
     ·cases hv
    subst e1 e2;exact fL
 ·obtain⟨rfl,rfl,rfl⟩:=nL ho;have hrel:∀(j:Nat) (d:D) (v:Value),cs[j]?=some d→c[j]?=some v→RelC I w d v:=fun j d v hd hv=>lV (hcell j d v hd hv);refine⟨⟨b,cap,len⟩,by simp[A0],.inr (fun h=>h.2 rfl),c,hb,hcs,hcap,hlen,hcl,fun j d v hd hv=> .clo (hrel j d v hd hv),⟨(fun h=>by cases h),fun h=>absurd h hbI⟩,fun d hd=> ?_⟩;obtain⟨j,hj,rfl⟩:=List.getElem_of_mem hd;have hjc:j<c.size:=by rw[hcs];have:=Nat.mul_le_mul_right n hlen;omega
  exact(hrel j _ _ (zd2 hj) (Array.getElem?_eq_getElem hjc)).clo
 ·obtain⟨rfl,rfl,rfl⟩:=tT hx;exact⟨_,mn⟩
 ·obtain⟨rfl,rfl,_⟩:=tT h1;obtain⟨rfl,rfl,_⟩:=tT h2;exact⟨rfl,rfl⟩
end
def yd(fn:Func):Bool:=match fn.body with
 |none=>false
 |some c=>(cG c).all fun t=>t !=0
theorem eJ{v0:Value}:∀(c:Code),(∀t∈cG c,t≠0)→BB (fun x:Act=>x.tmps[0]?=some v0) c
 | .region _ ops _,h=>fun i o ho x v hx=>by
  cases hd:o.dst with
  |none=>exact hx
  |some t=>
   have ht:t≠0:=h t (List.mem_filterMap.2 ⟨o,Array.mem_toList_iff.2 (Array.mem_of_getElem? ho),hd⟩);simp[Act.put,Array.getElem?_setIfInBounds_ne ht];exact hx
 | .seq a b,h=>⟨eJ a fun t ht=>h t (za9.2 (.inl ht)),eJ b fun t ht=>h t (za9.2 (.inr ht))⟩
 | .cond _ a b,h=>⟨eJ a fun t ht=>h t (za9.2 (.inl ht)),eJ b fun t ht=>h t (za9.2 (.inr ht))⟩
 | .block _ c,h=>eJ c h
 | .loop c,h=>eJ c h
 | .rangeFunc _ _ _ _,_=>fun _ _ h=>h
 | .skip,_=>trivial
 | .exit _,_=>trivial
 | .ret,_=>trivial
 | .scope c,h=>eJ c h
 | .label _,_=>trivial
 | .goto _,_=>trivial
 | .refuse _,_=>trivial
section
variable {E:Env}{I0 KK:Nat→Prop}{w0:World}
theorem pV{F:Fence}{n:Nat}{fn:Func}{σ:St}{R:Ending→World→Prop}{tm:Array Value}(hI0:∀b,I0 b→KK b)
  (hend:∀(I:Nat→Prop) (A:Nat→Nat→Option Gh) (a:Act) (w:World),a.tmps=tm→Inv I0 KK I A σ a w→Blw KK w0 w→∃v,(results fn a.tmps).run E.P w= .ok v w∧R (.returned v) w):
  ∀(ds:List Deferred) (I:Nat→Prop) (A:Nat→Nat→Option Gh) (a:Act) (w:World),a.defers=ds→a.tmps=tm→Inv I0 KK I A σ a w→Blw KK w0 w→LeavesInM F n E.P fn a.tmps R ds .returning w
 |[],I,A,a,w,_,ht,h,hb=>by
  obtain⟨v,r1,r2⟩:=hend I A a w ht h hb;exact⟨v,r1,r2⟩
 |dd::ds,I,A,a,w,hd,ht,h,hb=>by
  obtain⟨r,q1,q2,q3,q4⟩:=h.shut (P:=E.P) hI0 hd;refine⟨by simp,.inl ⟨r,_,q1,q2,?_⟩⟩;exact pV hI0 hend ds _ A {a with defers:=ds} _ rfl ht q4 (hb.trans ⟨rfl,rfl,rfl,by simp[World.putObj],fun k hk=>World.putObj_heap_other (fun e=>q3 (e▸hk))⟩)
end
theorem AK{Te:TE}(hm:Te.E.P.follows .mixedOrders=true)(hcall:EnvOK Te.E)(hcst:∀k ds r,Te.cst k ds=some r→Te.E.call k ds=some r)(hit:Te.it=none)(hsq:∀g cs ys,Te.sq g cs=some ys→SeqOK Te.E.P Te.E.gl g cs ys){f:FuncId}{fn:Func}(hf:Te.E.P.funcs[f]?=some fn){ord:hZ}{N:bA}(hok:jQ Te.E.P ord fn=true)(h0:yd fn=true)
  {cs rest cs':List D} {len:Nat} (he:∀e n,cs.length=len*n→m5 Te ord N e n fn len cs rest=some (.slc false len cs')):K1 Te.E.P Te.E.gl f cs len rest cs' none:=by
 intro I w b cap n e c vrest hI hgl hbI hb hcs hcap hlen hcl hpl hcell hrl hrr hpl' hm';have he:=he e n hcl;unfold m5 at he;split at he
 ·cases he
 ·rename_i cd hbd;simp only[jQ,hbd,zc4,Bool.not_eq_true'] at hok;have hk0:∀t∈cG cd,t≠0:=fun t ht=>by
   unfold yd at h0;rw[hbd] at h0;simpa using zd7.1 h0 t ht
  have hbs:b<w.heap.size:=(zc0.1 hb).1;refine callsIn_wide.1 (callsIn_of_wp_marks (F:=Fence.wide) (n:=0) hf hbd trivial ?_);have hst:=yc (fn:=fn) (e:=e) (b:=b) (cap:=cap) (n:=n) (len:=len) (cs:=cs) (rest:=rest) (c:=c) (vrest:=vrest) hI hbI hb hcs hcap hlen hcl hcell hrl hrr;refine eX hm hcall hcst hit hsq cd 1 hok.2 (fun x=>x.tmps[0]?=some (.slice (some ⟨b,0,none⟩) len cap)) (fun x=>x<w.heap.size∧x≠b) I w Fence.wide 0 (.inl rfl) (.inl rfl) hgl (fun x hx=>⟨hI x hx,fun e1=>hbI (e1▸hx)⟩) (fun _ h=>h.1) (eJ cd hk0) _ _ _ w _ ⟨I,_,hst,Blw.refl _ _,v8 _ _ _⟩ he fun o σ a' w' hg hk=> ?_;obtain⟨I',A',h,hbel,hfx⟩:=hg;have key:run (xT Te.E.osl e n σ fn)=some (.slc false len cs')→LeavesInM Fence.wide 0 Te.E.P fn a'.tmps (fun en w'=>en= .returned (.tuple #[])∧∃c',w'.heap[b]?=some (.cells c' e (0,0))∧c'.size=c.size∧(∀(j:Nat) (d:D) (v:Value),cs'[j]?=some d→c'[j]?=some v→d.toVZ=some v)∧
    w.heap.size≤w'.heap.size∧(∀k,k<w.heap.size→k≠b→w'.heap[k]?=w.heap[k]?)∧w'.os=w.os∧w'.tape=w.tape∧w'.output=w.output) a'.defers .returning w':=fun hend=>by
   refine pV (tm:=a'.tmps) (fun x hx=>⟨hI x hx,fun e1=>hbI (e1▸hx)⟩) ?_ _ I' A' a' w' rfl rfl h hbel;intro I2 A2 a2 w2 ht2 h2 hb2;have fin:∀(len':Nat) (e':TypeId) (n':Nat) (cs2:List D),fn.results.toList=[]→σ.T[(0:Nat)]?=some (.own 0 0 len')→bi σ.H 0 0=some (.arr e' n' cs2 false)→run (.chk (decide (e'=e)) (.chk (decide (n'=n)) (.chk (decide (cs2.length=len'*n)) (.chk (cs2.all (Bz Te.E.osl)) (.leaf (some (.slc false len' cs2)))))))=some (.slc false len cs')→
     ∃v,(results fn a2.tmps).run Te.E.P w2= .ok v w2∧(Ending.returned v= .returned (.tuple #[])∧∃c',w2.heap[b]?=some (.cells c' e (0,0))∧c'.size=c.size∧(∀(j:Nat) (d:D) (v:Value),cs'[j]?=some d→c'[j]?=some v→d.toVZ=some v)∧
      w.heap.size≤w2.heap.size∧(∀k,k<w.heap.size→k≠b→w2.heap[k]?=w.heap[k]?)∧w2.os=w.os∧w2.tape=w.tape∧w2.output=w.output):=by
    intro len' e' n' cs2 hres hT hl hend;obtain⟨q1,z1⟩:=bC hend;obtain⟨q2,z2⟩:=bC z1;obtain⟨q3,z3⟩:=bC z2;obtain⟨q4,z4⟩:=bC z3;have hee:(D.slc false len' cs2)= .slc false len cs':=Option.some.inj z4;clear z1 z2 z3 z4 hend;simp only[zc7] at q1 q2;subst q1 q2;cases hee;obtain⟨x,hx,hxB,cc,o1,o2,o3,o4,o5,o6,o7,o8⟩:=h2.ob 0 0 _ hl;have hv0:a2.tmps[0]?=some (.slice (some ⟨b,0,none⟩) len cap):=by rw[ht2];exact hfx
    obtain⟨hvv,_⟩:=(h2.tv 0 _ _ hT hv0).own_inv hx;have hxb:x.b=b:=by cases hvv;rfl
    have hxc:x.cap=cap:=by cases hvv;rfl
    refine⟨.tuple #[],?_,rfl,cc,by rw[←hxb];exact o1,by rw[o2,hcs,hxc],fun j d v hd hv=> ?_,hb2.size,fun k hk1 hk2=>hb2.block k ⟨hk1,hk2⟩,hb2.os,hb2.tape,hb2.output⟩
    ·have hres':fn.results= #[]:=by rw[←Array.toArray_toList (xs:=fn.results),hres]
     rw[iR,hres'];simp
    ·have hp:=GY (zd7.1 q4 d (List.mem_of_getElem? hd));obtain⟨u,hu⟩:=Option.isSome_iff_exists.1 hp;rw[(o6 j d v hd hv).toVZ hu];exact hu
   unfold xT at hend;split at hend
   ·rename_i hres;split at hend
    ·rename_i len' hT;split at hend
     ·rename_i e' n' cs2 hl;exact fin len' e' n' cs2 hres hT hl hend
     ·cases hend
    ·cases hend
   ·cases hend
  cases o with
  |exit i=>cases hk
  |norm=>exact key hk
  |ret=>exact key hk
end Go.Pd
end
section
namespace Go.Pd
end Go.Pd
end
section
namespace Go.Pd
open Go.RowKit
def PlcC(P:Program)(gl:Nat→Option D)(k:FuncId)(p:Nat)(ds cs:List D)(len:Nat)(cs':List D)(r:D):Prop:=
 ∀(I:Nat→Prop) (w:World) (b cap n:Nat) (e:TypeId) (c:Array Value) (vs:Array Value),
  (∀b,I b→b<w.heap.size)→Gl gl I w→¬I b→w.heap[b]?=some (.cells c e (0,0))→c.size=cap*n→cap≤maxLen→len≤cap→cs.length=len*n→cs.all D.plain=true→
  (∀(j:Nat) (d:D) (v:Value),cs[j]?=some d→c[j]?=some v→d.toV=some v)→p<ds.length→ds.length=vs.size→vs[p]?=some (.slice (some ⟨b,0,none⟩) len cap)→(∀(j:Nat) (d:D) (v:Value),j≠p→ds[j]?=some d→vs[j]?=some v→RelC I w d v)→
  cs'.all D.plain=true→cs'.length=cs.length→
  Calls P k vs w fun en w'=>∃v c',en= .returned v∧RelC (fun x=>I x∨(w.heap.size≤x∧x<w'.heap.size)) w' r v∧w'.heap[b]?=some (.cells c' e (0,0))∧c'.size=c.size∧(∀(j:Nat) (d:D) (v:Value),cs'[j]?=some d→c'[j]?=some v→d.toV=some v)∧
    w.heap.size≤w'.heap.size∧(∀k,k<w.heap.size→k≠b→w'.heap[k]?=w.heap[k]?)∧w'.os=w.os∧w'.tape=w.tape∧w'.output=w.output
theorem PlcC.canon{P:Program}{gl:Nat→Option D}{k:FuncId}{p:Nat}{ds ds' cs:List D}{len:Nat}{cs':List D}{r:D}(h:PlcC P gl k p ds' cs len cs' r)(hl:ds'.length=ds.length)(he:∀(j:Nat) (d:D),j≠p→ds[j]?=some d→ds'[j]?=some (canon1 d)):PlcC P gl k p ds cs len cs' r:=by
 intro I w b cap n e c vs h1 h2 h3 h4 h5 h6 h7 h8 h9 h10 h11 h12 h13 h14 h15 h16;refine h I w b cap n e c vs h1 h2 h3 h4 h5 h6 h7 h8 h9 h10 (by omega) (by omega) h13 (fun j d v hj hd hv=> ?_) h15 h16;have hlt:j<ds.length:=by rw[←hl];exact(zc1.1 hd).1
 have:=he j _ hj (zd2 hlt);rw[hd] at this;cases this;exact(h14 j _ v hj (zd2 hlt) hv).canon1
section
variable {I:Nat→Prop}{w:World}
def AP(p b cap len:Nat)(s g:Nat):Option Gh:=if s=p∧g=0 then some ⟨b,cap,len⟩ else none
theorem pW{p b cap len s g:Nat}{x:Gh}(h:AP p b cap len s g=some x):s=p∧g=0∧x=⟨b,cap,len⟩:=by
 unfold AP at h;split at h
 ·rename_i hh;exact⟨hh.1,hh.2,(Option.some.inj h).symm⟩
 ·cases h
variable {fn:Func}{p:Nat}{e:TypeId}{n len:Nat}{cs args:List D}
end
def tU(p:Nat)(fn:Func):Bool:=match fn.body with
 |none=>false
 |some c=>(cG c).all fun t=>t !=p
theorem jW{p:Nat}{v0:Value}:∀(c:Code),(∀t∈cG c,t≠p)→BB (fun x:Act=>x.tmps[p]?=some v0) c
 | .region _ ops _,h=>fun i o ho x v hx=>by
  cases hd:o.dst with
  |none=>exact hx
  |some t=>
   have ht:t≠p:=h t (List.mem_filterMap.2 ⟨o,Array.mem_toList_iff.2 (Array.mem_of_getElem? ho),hd⟩);simp[Act.put,Array.getElem?_setIfInBounds_ne ht];exact hx
 | .seq a b,h=>⟨jW a fun t ht=>h t (za9.2 (.inl ht)),jW b fun t ht=>h t (za9.2 (.inr ht))⟩
 | .cond _ a b,h=>⟨jW a fun t ht=>h t (za9.2 (.inl ht)),jW b fun t ht=>h t (za9.2 (.inr ht))⟩
 | .block _ c,h=>jW c h
 | .loop c,h=>jW c h
 | .rangeFunc _ _ _ _,_=>fun _ _ h=>h
 | .skip,_=>trivial
 | .exit _,_=>trivial
 | .ret,_=>trivial
 | .scope c,h=>jW c h
 | .label _,_=>trivial
 | .goto _,_=>trivial
 | .refuse _,_=>trivial
section
variable {E:Env}{I0 KK:Nat→Prop}{w0:World}
theorem pX{F:Fence}{n:Nat}{fn:Func}{σ:St}{R:Ending→World→Prop}{tm:Array Value}(hI0:∀b,I0 b→KK b)
  (hend:∀(I:Nat→Prop) (A:Nat→Nat→Option Gh) (a:Act) (w:World),a.tmps=tm→a.defers=[]→Inv I0 KK I A σ a w→Blw KK w0 w→∃v,(results fn a.tmps).run E.P w= .ok v w∧R (.returned v) w):
  ∀(ds:List Deferred) (I:Nat→Prop) (A:Nat→Nat→Option Gh) (a:Act) (w:World),a.defers=ds→a.tmps=tm→Inv I0 KK I A σ a w→Blw KK w0 w→LeavesInM F n E.P fn a.tmps R ds .returning w
 |[],I,A,a,w,hd,ht,h,hb=>by
  obtain⟨v,r1,r2⟩:=hend I A a w ht hd h hb;exact⟨v,r1,r2⟩
 |dd::ds,I,A,a,w,hd,ht,h,hb=>by
  obtain⟨r,q1,q2,q3,q4⟩:=h.shut (P:=E.P) hI0 hd;refine⟨by simp,.inl ⟨r,_,q1,q2,?_⟩⟩;exact pX hI0 hend ds _ A {a with defers:=ds} _ rfl ht q4 (hb.trans ⟨rfl,rfl,rfl,by simp[World.putObj],fun k hk=>World.putObj_heap_other (fun e=>q3 (e▸hk))⟩)
end
end Go.Pd
end
section
namespace Go.Pd
open Go.RowKit Go.ChangeShapes Go.WideShapes
end Go.Pd
end
section
namespace Go.Pd
open Go.RowKit
section
variable {I:Nat→Prop}{w:World}{fn:Func}{p:Nat}{e:TypeId}{n off len tot:Nat}{ca args:List D}
end
def cU(H:List (Nat×Option Ob))(s g:Nat):List PK→List D→List Nat→Option (List D×List (Nat×Ob))
 |[],[],_=>some ([],[])
 | .cl::ks,d::ds,st=>(match cU H s g ks ds st with
  |some q=>some (d::q.1,q.2)
  |none=>none)
 | .slf::ks,.nilp::ds,st=>(match cU H s g ks ds st with
  |some q=>some (.nilp::q.1,q.2)
  |none=>none)
 | .slf::ks,.tup []::ds,st=>(match cU H s g ks ds st with
  |some q=>some (.loc s g 0::q.1,q.2)
  |none=>none)
 | .own _ _::ks,.nils::ds,_::st=>(match cU H s g ks ds st with
  |some q=>some (.nils::q.1,q.2)
  |none=>none)
 | .own e n::ks,.slc false len cs::ds,t::st=>(match cU H s g ks ds st with
  |some q=>some (.own t (bl H t) len::q.1,(t,.arr e n cs false)::q.2)
  |none=>none)
 |_,_,_=>none
def ec(H:List (Nat×Option Ob)):List (Nat×Ob)→List (Nat×Option Ob)
 |[]=>H
 |p::ps=>ec (H.set p.1 (bl H p.1+1,some p.2)) ps
def ye(c:Array Value):Bool:=match c.toList with
 |[.pointer none,.slice none 0 0]=>true
 |_=>false
theorem AL{c:Array Value}(h:ye c=true):c=BG:=by
 unfold ye at h;split at h
 ·rename_i he;rw[←Array.toArray_toList (xs:=c),he];rfl
 ·cases h
def CF(H:List (Nat×Option Ob))(s g:Nat)(T:TypeId)(ks:List PK):Ob→Option (List D×List Nat×List Nat)
 | .box cs false=>if ks.isEmpty then none else uG H s g ks cs
 | .raw c e=>if ye c&&e==T then some ([],[],[]) else none
 |_=>none
def wa(T:TypeId)(ks ks':List PK)(st:List Nat)(p:Nat)(g:List D→Option D)(H:List (Nat×Option Ob))(args:List D):Option (D×List (Nat×Option Ob)):=match args[p]? with
 |some (.loc s g0 0)=>(match bi H s g0 with
  |some o=>(match CF H s g0 T ks o,cA (bJ H depth) (args.set p .nils) with
   |some (cells,os,ss2),some (ds,ss)=>
    if(!(ss++ss2).contains s&&os.all (fun q=> !(ss++ss2).contains q))&&(decide os.Nodup&&(decide st.Nodup&&(!st.contains s&&st.all (fun q=>decide (q<H.length))))) then
     (match g (ds.set p (.agg cells)) with
      |some (.tup [.agg cells',r])=>(match cU (c6 (br H (ss++ss2)) os) s g0 ks' cells' st with
       |some (refs,obs)=>some (r,(ec (c6 (br H (ss++ss2)) os) obs).set s (g0+1,some (.box refs false)))
       |none=>none)
      |_=>none)
    else none
   |_,_=>none)
  |_=>none)
 |_=>none
def CellR(I:Nat→Prop)(w:World)(b:Nat):PK→Option Gh→D→Value→Prop
 | .cl,o,d,v=>o=none∧RelC I w d v
 | .slf,o,d,v=>o=none∧((d= .nilp∧v= .pointer none)∨(d= .tup []∧v= .pointer (some ⟨b,0,none⟩)))
 | .own _ _,none,d,v=>d= .nils∧v= .slice none 0 0
 | .own e n,some x,d,v=>∃cs c,d= .slc false x.len cs∧v= .slice (some ⟨x.b,0,none⟩) x.len x.cap∧w.heap[x.b]?=some (.cells c e (0,0))∧c.size=x.cap*n∧x.cap≤maxLen∧x.len≤x.cap∧cs.length=x.len*n∧
   ∀(j:Nat) (d:D) (v:Value),cs[j]?=some d→c[j]?=some v→RelC I w d v
theorem CellR.mono{I I':Nat→Prop}{w:World}{b:Nat}{κ:PK}{o:Option Gh}{d:D}{v:Value}(h:CellR I w b κ o d v)(hI:∀b,I b→I' b):CellR I' w b κ o d v:=by
 cases κ with
 |cl=>exact⟨h.1,h.2.mono hI fun _ _=>rfl⟩
 |slf=>exact h
 |own e n=>
  cases o with
  |none=>exact h
  |some x=>
   obtain⟨cs,c,h1,h2,h3,h4,h5,h6,h7,h8⟩:=h;exact⟨cs,c,h1,h2,h3,h4,h5,h6,h7,fun j d v hd hv=>(h8 j d v hd hv).mono hI fun _ _=>rfl⟩
structure PbxE(I:Nat→Prop)(w:World)(b:Nat)(c:Array Value)(ow:List (Option Gh))(ks':List PK)(cells':List D)(r:D)(w':World)(v:Value)(c':Array Value)(e:TypeId)(I':Nat→Prop)(ow':List (Option Gh)):Prop where
 grow:∀x,I x→I' x
 lt:∀x,I' x→x<w'.heap.size
 new:∀x,I' x→I x∨w.heap.size≤x∨∃y,some y∈ow∧y.b=x
 res:RelC I' w' r v
 blk:w'.heap[b]?=some (.cells c' e (0,0))
 siz:c'.size=c.size
 len:cells'.length=c.size
 owl:ow'.length=c.size
 cell:∀(j:Nat) κ o d v,ks'[j]?=some κ→ow'[j]?=some o→cells'[j]?=some d→c'[j]?=some v→CellR I' w' b κ o d v
 own:∀x,some x∈ow'→¬I' x.b∧x.b≠b∧(w.heap.size≤x.b∨∃y,some y∈ow∧y.b=x.b)
 inj:∀(i j:Nat) (x y:Gh),ow'[i]?=some (some x)→ow'[j]?=some (some y)→x.b=y.b→i=j
 size:w.heap.size≤w'.heap.size
 rest:∀z,z<w.heap.size→z≠b→(∀y,some y∈ow→y.b≠z)→w'.heap[z]?=w.heap[z]?
 os:w'.os=w.os
 tape:w'.tape=w.tape
 output:w'.output=w.output
def PbxC(P:Program)(gl:Nat→Option D)(k:FuncId)(p:Nat)(ks ks':List PK)(ds cells cells':List D)(r:D):Prop:=
 ∀(I:Nat→Prop) (w:World) (b:Nat) (c:Array Value) (e:TypeId) (vs:Array Value) (ow:List (Option Gh)),
  (∀x,I x→x<w.heap.size)→Gl gl I w→¬I b→w.heap[b]?=some (.cells c e (0,0))→cells.length=c.size→ks.length=c.size→ow.length=c.size→
  (∀(j:Nat) κ o d v,ks[j]?=some κ→ow[j]?=some o→cells[j]?=some d→c[j]?=some v→CellR I w b κ o d v)→
  (∀x,some x∈ow→x.b<w.heap.size∧¬I x.b∧x.b≠b)→(∀(i j:Nat) (x y:Gh),ow[i]?=some (some x)→ow[j]?=some (some y)→x.b=y.b→i=j)→
  p<ds.length→ds.length=vs.size→vs[p]?=some (.pointer (some ⟨b,0,none⟩))→(∀(j:Nat) (d:D) (v:Value),j≠p→ds[j]?=some d→vs[j]?=some v→RelC I w d v)→
  Calls P k vs w fun en w'=>∃v c' e' I' ow',en= .returned v∧PbxE I w b c ow ks' cells' r w' v c' e' I' ow'
def K2(P:Program)(gl:Nat→Option D)(k:FuncId)(p:Nat)(T:TypeId)(ks':List PK)(ds cells':List D)(r:D):Prop:=
 ∀(I:Nat→Prop) (w:World) (b:Nat) (vs:Array Value),
  (∀x,I x→x<w.heap.size)→Gl gl I w→¬I b→w.heap[b]?=some (.cells BG T (0,0))→
  p<ds.length→ds.length=vs.size→vs[p]?=some (.pointer (some ⟨b,0,none⟩))→(∀(j:Nat) (d:D) (v:Value),j≠p→ds[j]?=some d→vs[j]?=some v→RelC I w d v)→
  Calls P k vs w fun en w'=>∃v c' e' I' ow',en= .returned v∧PbxE I w b BG [] ks' cells' r w' v c' e' I' ow'
def E7(P:Program)(gl:Nat→Option D)(k:FuncId)(p:Nat)(T:TypeId)(ks ks':List PK)(ds cells cells':List D)(r:D):Prop:=match cells with
 |[]=>K2 P gl k p T ks' ds cells' r
 |_=>PbxC P gl k p ks ks' ds cells cells' r
section
variable {E:Env}{I0:Nat→Prop}{B:Nat→Prop}{I:Nat→Prop}{A:Nat→Nat→Option Gh}{σ:St}{a:Act}{w:World}
theorem Inv.turn(h:Inv I0 B I A σ a w){w':World}{I':Nat→Prop}(hsz:w.heap.size≤w'.heap.size)(hI:∀b,I b→w'.heap[b]?=w.heap[b]?)(hA:∀s g x,A s g=some x→w'.heap[x.b]?=w.heap[x.b]?)(hR:∀b,RowB A σ.H w b→w'.heap[b]?=w.heap[b]?)
  (hII:∀b,I b→I' b) (hI':∀b,I' b→I b∨(¬B b∧(∀s g x,A s g=some x→x.b≠b)∧¬RowB A σ.H w b)) (hlt:∀b,I' b→b<w'.heap.size):Inv I0 B I' A σ a w':=by
 have h1:=h.same hsz hI hA hR;refine(h1.re (I0':=I0) (KK':=B) (I':=I') (T':=σ.T) (a':=a) hII (fun s g x hx hi=> ?_) hlt (fun b hi=> ?_) (fun b hb=>hII b (h.ii b hb)) (fun s g x hx=> ?_) (h1.df.mono hII fun _ _=>rfl) h1.tl (fun t d v hd hv=>(h1.tv t d v hd hv).mono hII (fun _ _=>rfl) (fun _=>zb0 _) fun _ _ _ _ hx=>hx) (fun b hb=> ?_):Inv I0 B I' A ⟨σ.T,σ.H⟩ a w')
 ·exact(hI' _ hi).elim id fun hn=>absurd rfl (hn.2.1 s g x hx)
 ·exact(hI' b hi).elim (h.io b) fun hn=> .inr hn.1
 ·obtain⟨o,ho⟩:=h.ar s g x hx;obtain⟨y,hy,hyB,_⟩:=h.ob s g o ho;rw[hx] at hy;cases hy;exact hyB.imp (hII _) id
 ·have hb':=hb.back (w:=w) hA;obtain⟨x,j,hb2⟩:=id hb';obtain⟨q1,q2,q3,q4⟩:=h.rw.sep x j b hb2;exact⟨fun hi=>(hI' b hi).elim q2 fun hn=>hn.2.2 hb',q3⟩
theorem lC:∀(os:List Nat) (H:List (Nat×Option Ob)),(c6 H os).length=H.length
 |[],_=>rfl
 |s::os,H=>by simp only[c6];rw[lC os];simp
theorem tV{H:List (Nat×Option Ob)}{s:Nat}{o:Option Ob}(s':Nat):bl (H.set s (bl H s,o)) s'=bl H s':=by
 by_cases hs:s<H.length
 ·by_cases e:s'=s
  ·subst e;rw[cu hs]
  ·exact cq (Ne.symm e)
 ·rw[List.set_eq_of_length_le (by omega)]
theorem pY:∀(os:List Nat) (H:List (Nat×Option Ob)) (s:Nat),bl (c6 H os) s=bl H s
 |[],_,_=>rfl
 |t::os,H,s=>by simp only[c6];rw[pY os,tV]
theorem nM:∀(os:List Nat) (H:List (Nat×Option Ob)) (s g:Nat),s∉os→bi (c6 H os) s g=bi H s g
 |[],_,_,_,_=>rfl
 |t::os,H,s,g,hs=>by
  simp only[List.mem_cons,not_or] at hs;simp only[c6];rw[nM os _ s g hs.2,bO (Ne.symm hs.1)]
theorem Inv.killsA{T:List D}:∀(os:List Nat) {H:List (Nat×Option Ob)} {A:Nat→Nat→Option Gh},Inv I0 B I A ⟨T,H⟩ a w→(∀q∈os,q<H.length)→∃A',Inv I0 B I A' ⟨T,c6 H os⟩ a w∧(∀s g,s∉os→A' s g=A s g)∧(∀s g,s∈os→A' s g=none)∧
  (∀d v,RelV I A (bl H) w d v→RelV I A' (bl (c6 H os)) w d v)∧∀b,RowB A' (c6 H os) w b→RowB A H w b
 |[],H,A,h,_=>⟨A,h,fun _ _ _=>rfl,fun s g hs=>(by cases hs),fun _ _ hr=>hr,fun _ hb=>hb⟩
 |t::os,H,A,h,hlt=>by
  obtain⟨A1,h1,p1,p2,p3⟩:=h.kill t (hlt t (za4 ..));obtain⟨A2,h2,q1,q2,q3,q4⟩:=Inv.killsA os (H:=H.set t (bl H t,none)) h1 fun q hq=>by simpa using hlt q (za5 _ hq)
  refine⟨A2,h2,fun s g hs=> ?_,fun s g hs=> ?_,fun d v hr=>q3 d v (p3 d v hr),fun b hb=> ?_⟩
  ·simp only[List.mem_cons,not_or] at hs;rw[q1 s g hs.2,p1 s g hs.1]
  ·by_cases hs':s∈os
   ·exact q2 s g hs'
   ·rw[q1 s g hs'];rcases List.mem_cons.1 hs with rfl|hs
    ·exact p2 g
    ·exact absurd hs hs'
  ·obtain⟨x,j,hb⟩:=q4 b hb;exact⟨x,j,RowAt.unkill (σ:=⟨T,H⟩) (s:=t) hb p1 p2⟩
theorem sB:∀(obs:List (Nat×Ob)) (H:List (Nat×Option Ob)) (s:Nat) (x:Nat×Option Ob),(∀p∈obs,p.1≠s)→ec (H.set s x) obs=(ec H obs).set s x
 |[],_,_,_,_=>rfl
 |p::obs,H,s,x,hs=>by
  have hp:=hs p (za4 ..);simp only[ec];rw[cq (Ne.symm hp),List.set_comm _ _ (Ne.symm hp),sB obs _ s x fun q hq=>hs q (za5 _ hq)]
theorem lD:∀(obs:List (Nat×Ob)) (H:List (Nat×Option Ob)) (s g:Nat),(∀p∈obs,p.1≠s)→bi (ec H obs) s g=bi H s g
 |[],_,_,_,_=>rfl
 |p::obs,H,s,g,hs=>by
  simp only[ec];rw[lD obs _ s g fun q hq=>hs q (za5 _ hq),bO (hs p (za4 ..))]
theorem pZ{H:List (Nat×Option Ob)}{T:List D}(h:Inv I0 B I A ⟨T,H⟩ a w){s g:Nat}{y:Gh}(hy:A s g=some y):∀(ks:List PK) (cs:List D) (vs:List Value) (cells:List D) (os ss:List Nat),uG H s g ks cs=some (cells,os,ss)→cs.length=vs.length→
  (∀(j:Nat) (d:D) (v:Value),cs[j]?=some d→vs[j]?=some v→RelV I A (bl H) w d v)→
  ks.length=cs.length∧cells.length=cs.length∧Sites H ss∧(∀q∈os,∃g e n rs,bi H q g=some (.arr e n rs false))∧∃ow:List (Option Gh),ow.length=cs.length∧(∀x,some x∈ow→∃q g,q∈os∧A q g=some x)∧
   (os.Nodup→∀(i j:Nat) (x y:Gh),ow[i]?=some (some x)→ow[j]?=some (some y)→x.b=y.b→i=j)∧
   ∀(j:Nat) κ o d v,ks[j]?=some κ→ow[j]?=some o→cells[j]?=some d→vs[j]?=some v→CellR (du I A ss) w y.b κ o d v
 |[],[],vs,cells,os,ss,hp,_,_=>by
  cases hp;exact⟨rfl,rfl,fun s hs=>(by cases hs),fun q hq=>(by cases hq),[],rfl,fun x hx=>(by cases hx),fun _ i j x y hx=>by simp at hx,fun j κ o d v hk=>by simp at hk⟩
 |[],_::_,_,_,_,_,hp,_,_=>by cases hp
 |_::_,[],_,_,_,_,hp,_,_=>by cases hp
 |κ0::ks,d0::cs,[],_,_,_,_,hl,_=>by cases hl
 |κ0::ks,d0::cs,v0::vs,cells,os,ss,hp,hl,hr=>by
  simp only[uG] at hp;split at hp
  ·rename_i p hp0;split at hp
   ·rename_i q hq;cases hp;obtain⟨c1,o1,s1⟩:=p;obtain⟨c2,o2,s2⟩:=q;obtain⟨i1,i2,i3,i4,ow,i5,i6,i7,i8⟩:=pZ h hy ks cs vs c2 o2 s2 hq (by simpa using hl) fun j d v hd hv=>hr (j+1) d v (by simpa using hd) (by simpa using hv);have h0:=hr 0 d0 v0 rfl rfl;have key:∃o0:Option Gh,Sites H s1∧(∀q∈o1,∃g e n rs,bi H q g=some (.arr e n rs false))∧(∀x,o0=some x→∃q g,o1=[q]∧A q g=some x)∧CellR (du I A s1) w y.b κ0 o0 c1 v0:=by
     unfold GT at hp0;split at hp0
     ·split at hp0
      ·rename_i p' hp';cases hp0;obtain⟨a1,a2⟩:=cr h depth _ _ _ hp';exact⟨none,a1,fun q hq=>(by cases hq),fun x hx=>(by cases hx),rfl,a2 v0 h0⟩
      ·cases hp0
     ·rename_i e n q' g' len;split at hp0
      ·rename_i e' n' rs hlv;split at hp0
       ·rename_i hc;obtain⟨rfl,rfl⟩:=hc;cases hp0;obtain⟨x,hx,hxB,c,b1,b2,b3,b4,b5,b6,b7,b8⟩:=h.ob _ _ _ hlv;obtain⟨hv,hlen⟩:=h0.own_inv hx;subst hlen;refine⟨some x,(fun s hs=>by cases hs),fun q hq=> ?_,fun x' hx'=>⟨q',g',rfl,by cases hx';exact hx⟩,rs,c,rfl,hv,b1,b2,b3,b4,b5,fun j d v hd hv=> ?_⟩
        ·rcases zd1.1 hq with rfl;exact⟨_,_,_,_,hlv⟩
        ·exact((b6 j d v hd hv).closed (b8 d (List.mem_of_getElem? hd))).mono (fun _ hb=> .inl hb) fun _ _=>rfl
       ·cases hp0
      ·cases hp0
     ·cases hp0;exact⟨none,(fun s hs=>by cases hs),fun q hq=>(by cases hq),fun x hx=>(by cases hx),rfl,h0.nils_inv⟩
     ·cases hp0;refine⟨none,(fun s hs=>by cases hs),fun q hq=>(by cases hq),fun x hx=>(by cases hx),rfl,.inl ⟨rfl,?_⟩⟩;exact h0.flat (u:= .pointer none) rfl
     ·rename_i s' g';split at hp0
      ·rename_i hc;obtain⟨rfl,rfl⟩:=hc;cases hp0;exact⟨none,(fun s hs=>by cases hs),fun q hq=>(by cases hq),fun x hx=>(by cases hx),rfl,.inr ⟨rfl,h0.loc_inv hy⟩⟩
      ·cases hp0
     ·cases hp0
    obtain⟨o0,k1,k2,k3,k4⟩:=key;refine⟨by simp[i1],by simp[i2],k1.append i3,fun q hq=> ?_,o0::ow,by simp[i5],fun x hx=> ?_,fun hnd i j x z hx hz he=> ?_,fun j κ o d v hk ho hd hv=> ?_⟩
    ·rcases za9.1 hq with hq|hq
     ·exact k2 q hq
     ·exact i4 q hq
    ·rcases List.mem_cons.1 hx with hx|hx
     ·obtain⟨q,g',e1,e2⟩:=k3 x hx.symm;exact⟨q,g',by simp[e1],e2⟩
     ·obtain⟨q,g',e1,e2⟩:=i6 x hx;exact⟨q,g',za9.2 (.inr e1),e2⟩
    ·have cross:∀x z,o0=some x→some z∈ow→x.b=z.b→False:=fun x z hx hz he=>by
      obtain⟨q,g',e1,e2⟩:=k3 x hx;obtain⟨q',g'',e3,e4⟩:=i6 z hz;have:=(h.inj _ _ _ _ _ _ e2 e4 he).1;subst this;dsimp only at hnd;rw[e1] at hnd;exact(List.nodup_cons.1 hnd).1 e3
     cases i with
     |zero=>
      cases j with
      |zero=>rfl
      |succ j=>exact(cross x z (Option.some.inj hx) (List.mem_of_getElem? (by simpa using hz)) he).elim
     |succ i=>
      cases j with
      |zero=>exact(cross z x (Option.some.inj hz) (List.mem_of_getElem? (by simpa using hx)) he.symm).elim
      |succ j=>exact congrArg (·+1) (i7 (List.nodup_append.1 hnd).2.1 i j x z (by simpa using hx) (by simpa using hz) he)
    ·cases j with
     |zero=>
      simp at hk ho hd hv;subst hk ho hd hv;exact k4.mono fun b hb=>eA (fun s hs=>za9.2 (.inl hs)) hb
     |succ j=>
      simp at hk ho hd hv;exact(i8 j κ o d v hk ho hd hv).mono fun b hb=>eA (fun s hs=>za9.2 (.inr hs)) hb
   ·cases hp
  ·cases hp
theorem p6{T:List D}{H1:List (Nat×Option Ob)}{s g:Nat}{y:Gh}:∀(ks:List PK) (cells:List D) (st:List Nat) (refs:List D) (obs:List (Nat×Ob)) (vs:List Value) (ow:List (Option Gh)) (H:List (Nat×Option Ob)) (A:Nat→Nat→Option Gh),cU H1 s g ks cells st=some (refs,obs)→
  Inv I0 B I A ⟨T,H⟩ a w→A s g=some y→g<bl H s→cells.length=vs.length→ow.length=vs.length→(∀q∈st,bl H q=bl H1 q∧q<H.length∧q≠s)→st.Nodup→
  (∀(j:Nat) κ o d v,ks[j]?=some κ→ow[j]?=some o→cells[j]?=some d→vs[j]?=some v→CellR I w y.b κ o d v)→
  (∀x,some x∈ow→¬B x.b∧¬I x.b∧(∀s' g' z,A s' g'=some z→z.b≠x.b)∧¬RowB A H w x.b)→(∀(i j:Nat) (x z:Gh),ow[i]?=some (some x)→ow[j]?=some (some z)→x.b=z.b→i=j)→
  ks.length=vs.length∧refs.length=vs.length∧(∀p∈obs,p.1∈st)∧∃A',Inv I0 B I A' ⟨T,ec H obs⟩ a w∧(∀s' g',s'∉st→A' s' g'=A s' g')∧(∀d v,RelV I A (bl H) w d v→RelV I A' (bl (ec H obs)) w d v)∧
   ∀(j:Nat) (d:D) (v:Value),refs[j]?=some d→vs[j]?=some v→RelV I A' (bl (ec H obs)) w d v:=by
 intro ks
 induction ks with
 |nil=>
  intro cells st refs obs vs ow H A hu h hy hg hl1 hl2 hst hnd hcell how hinj;cases cells with
  |nil=>
   cases vs with
   |nil=>cases hu;exact⟨rfl,rfl,fun p hp=>(by cases hp),A,h,fun _ _ _=>rfl,fun _ _ hr=>hr,fun j d v hd=>by simp at hd⟩
   |cons=>cases hl1
  |cons=>cases hu
 |cons κ0 ks ih=>
  intro cells st refs obs vs ow H A hu h hy hg hl1 hl2 hst hnd hcell how hinj;cases cells with
  |nil=>cases κ0<;>cases hu
  |cons d0 cells=>
   cases vs with
   |nil=>cases hl1
   |cons v0 vs=>
    cases ow with
    |nil=>cases hl2
    |cons o0 ow=>
     have hc0:=hcell 0 κ0 o0 d0 v0 rfl rfl rfl rfl;have hcell':∀(j:Nat) κ o d v,ks[j]?=some κ→ow[j]?=some o→cells[j]?=some d→vs[j]?=some v→CellR I w y.b κ o d v:=fun j κ o d v h1 h2 h3 h4=>hcell (j+1) κ o d v (by simpa using h1) (by simpa using h2) (by simpa using h3) (by simpa using h4);have hinj':∀(i j:Nat) (x z:Gh),ow[i]?=some (some x)→ow[j]?=some (some z)→x.b=z.b→i=j:=fun i j x z h1 h2 h3=>by have:=hinj (i+1) (j+1) x z (by simpa using h1) (by simpa using h2) h3;omega
     have how':∀x,some x∈ow→¬B x.b∧¬I x.b∧(∀s' g' z,A s' g'=some z→z.b≠x.b)∧¬RowB A H w x.b:=fun x hx=>how x (za5 _ hx);simp only[za7,Nat.add_right_cancel_iff] at hl1 hl2;have easy:∀(st':List Nat) (q:List D×List (Nat×Ob)) (d1:D),(∀t∈st',t∈st)→st'.Nodup→cU H1 s g ks cells st'=some q→refs=d1::q.1→obs=q.2→RelV I A (bl H) w d1 v0→
       (κ0::ks).length=(v0::vs).length∧refs.length=(v0::vs).length∧(∀p∈obs,p.1∈st)∧∃A',Inv I0 B I A' ⟨T,ec H obs⟩ a w∧(∀s' g',s'∉st→A' s' g'=A s' g')∧(∀d v,RelV I A (bl H) w d v→RelV I A' (bl (ec H obs)) w d v)∧
       ∀(j:Nat) (d:D) (v:Value),refs[j]?=some d→(v0::vs)[j]?=some v→RelV I A' (bl (ec H obs)) w d v:=by
      intro st' q d1 hsub hnd' hq e1 e2 hrel;subst e1 e2;obtain⟨i1,i2,i3,A',i5,i6,i7,i8⟩:=ih cells st' q.1 q.2 vs ow H A hq h hy hg hl1 hl2 (fun t ht=>hst t (hsub t ht)) hnd' hcell' how' hinj';refine⟨by simp[i1],by simp[i2],fun p hp=>hsub _ (i3 p hp),A',i5,fun s' g' hs'=>i6 s' g' fun hm=>hs' (hsub _ hm),i7,fun j d v hd hv=> ?_⟩;cases j with
      |zero=>simp at hd hv;subst hd hv;exact i7 _ _ hrel
      |succ j=>exact i8 j d v (by simpa using hd) (by simpa using hv)
     cases κ0 with
     |cl=>
      simp only[cU] at hu;split at hu
      ·rename_i q hq;cases hu;exact easy st q d0 (fun _ ht=>ht) hnd hq rfl rfl (.clo hc0.2)
      ·cases hu
     |slf=>
      obtain⟨_,⟨rfl,rfl⟩|⟨rfl,rfl⟩⟩:=hc0
      ·simp only[cU] at hu;split at hu
       ·rename_i q hq;cases hu;exact easy st q .nilp (fun _ ht=>ht) hnd hq rfl rfl (.clo .nilp)
       ·cases hu
      ·simp only[cU] at hu;split at hu
       ·rename_i q hq;cases hu;exact easy st q (.loc s g 0) (fun _ ht=>ht) hnd hq rfl rfl (.loc _ _ _ _ hg fun x hx=>by rw[hy] at hx;cases hx;rfl)
       ·cases hu
     |own e n=>
      cases st with
      |nil=>cases d0<;>first|cases hu|(rename_i b _ _;cases b<;>cases hu)
      |cons t st=>
       have hnd':=(List.nodup_cons.1 hnd);cases o0 with
       |none=>
        obtain⟨rfl,rfl⟩:=hc0;simp only[cU] at hu;split at hu
        ·rename_i q hq;cases hu;exact easy st q .nils (fun _ ht=>za5 _ ht) hnd'.2 hq rfl rfl (.clo .nils)
        ·cases hu
       |some x=>
        obtain⟨cs,c,rfl,rfl,b1,b2,b3,b4,b5,b6⟩:=hc0;simp only[cU] at hu;split at hu
        ·rename_i q hq;cases hu;obtain⟨hg1,hlt,hne⟩:=hst t (za4 ..);obtain⟨n1,n2,n3,n4⟩:=how x (za4 ..);obtain⟨A1,h1,hA1,hR1,hAe⟩:=h.new (s:=t) hlt (w':=w) (x:=x) (o:= .arr e n cs false) n1 n3 (zb0 _) (fun _ _=>rfl) (fun _ _ _ _=>rfl) (fun A' G' _=>by
          have hle:=Nat.mul_le_mul_right n b4;refine⟨c,b1,b2,b3,b4,b5,fun j d v hd hv=> .clo (b6 j d v hd hv),⟨(fun hh=>by cases hh),fun hi=>absurd hi n2⟩,fun d hd=> ?_⟩;obtain⟨j,hj,rfl⟩:=List.getElem_of_mem hd;exact(b6 j _ _ (zd2 hj) (Array.getElem?_eq_getElem (by omega))).clo) (fun z j b' hb'=>⟨fun e=>n4 (by rw[e];exact⟨z,j,hb'⟩),rfl⟩)
         have hA1o:∀s' g',s'≠t→A1 s' g'=A s' g':=fun s' g' e=>by rw[hAe,if_neg e]
         have hrow1:∀b',RowB A1 (H.set t (bl H t+1,some (.arr e n cs false))) w b'→RowB A H w b':=fun b' hb'=>by
          obtain⟨z,j,s',g',e1,er,nr,cs1,c1,f,len,rs,cap,k1,k2,k3,k4,k5⟩:=hb';by_cases es:s'=t
          ·subst es;rw[bQ hlt] at k2;split at k2<;>cases k2
          ·rw[hA1o _ _ es] at k1;rw[bO (Ne.symm es)] at k2;exact⟨z,j,s',g',e1,er,nr,cs1,c1,f,len,rs,cap,k1,k2,k3,k4,k5⟩
         obtain⟨i1,i2,i3,A',i5,i6,i7,i8⟩:=ih cells st q.1 q.2 vs ow (H.set t (bl H t+1,some (.arr e n cs false))) A1 hq h1 (by rw[hA1o _ _ (Ne.symm hne)];exact hy) (by rw[cq hne];exact hg) hl1 hl2 (fun q' hq'=>by
          obtain⟨z1,z2,z3⟩:=hst q' (za5 _ hq');have hqt:t≠q':=fun e=>hnd'.1 (e▸hq');exact⟨by rw[cq hqt];exact z1,by simpa using z2,z3⟩) hnd'.2 hcell' (fun x' hx'=>by
          obtain⟨z1,z2,z3,z4⟩:=how' x' hx';refine⟨z1,z2,fun s' g' z hz=> ?_,fun hb'=>z4 (hrow1 _ hb')⟩;rw[hAe] at hz;split at hz
          ·split at hz
           ·cases hz;intro eb;obtain⟨j,hj⟩:=List.mem_iff_getElem?.1 hx';have:=hinj 0 (j+1) _ x' rfl (by simpa using hj) eb;omega
           ·cases hz
          ·exact z3 s' g' z hz) hinj'
         refine⟨by simp[i1],by simp[i2],fun p hp=> ?_,A',i5,fun s' g' hs'=> ?_,fun d v hr=>i7 d v (hR1 d v hr),fun j d v hd hv=> ?_⟩
         ·rcases List.mem_cons.1 hp with rfl|hp
          ·exact za4 ..
          ·exact za5 _ (i3 p hp)
         ·simp only[List.mem_cons,not_or] at hs';rw[i6 s' g' hs'.2,hA1o _ _ hs'.1]
         ·cases j with
          |zero=>
           simp at hd hv;subst hd hv;refine i7 _ _ (.own _ _ _ _ _ ?_ b4 fun x' hx'=> ?_)
           ·rw[←hg1];show bl H t<bl (H.set t _) t;rw[cu hlt];omega
           ·rw[←hg1,hA1] at hx';cases hx';exact⟨rfl,rfl,rfl⟩
          |succ j=>exact i8 j d v (by simpa using hd) (by simpa using hv)
        ·cases hu
theorem RowB.unfreeze{H:List (Nat×Option Ob)}{ss:List Nat}{b:Nat}(h:RowB A (br H ss) w b):RowB A H w b:=by
 obtain⟨z,j,s',g',e1,er,nr,cs1,c1,f,len,rs,cap,k1,k2,k3,k4,k5⟩:=h;exact⟨z,j,s',g',e1,er,nr,cs1,c1,f,len,rs,cap,k1,gq k2,k3,k4,k5⟩
theorem wb{k:FuncId}{ks':List PK}{st os ss ss2:List Nat}{T:List D}{H:List (Nat×Option Ob)}{s g0:Nat}{o0:Ob}{y:Gh}{c:Array Value}{e:TypeId}{cells' refs:List D}{obs:List (Nat×Ob)}{ow:List (Option Gh)}{vs:Array Value}{r:D}
  (h:Inv I0 B I A ⟨T,H⟩ a w) (hB:∀x,B x→x<w.heap.size) (hlive:bi H s g0=some o0) (hno:o0.isNst=false) (hna:∀e n rs,o0≠ .arr e n rs false) (hy:A s g0=some y) (hb:w.heap[y.b]?=some (.cells c e (0,0))) (hnI:¬I y.b) (hnB:¬B y.b)
  (k3:Sites H ss2) (a2:Sites H ss) (k4:∀q∈os,∃g e n rs,bi H q g=some (.arr e n rs false)) (k6:∀x,some x∈ow→∃q g,q∈os∧A q g=some x)
  (hc1:(ss++ss2).contains s=false) (hc2:∀q∈os,(ss++ss2).contains q=false) (hsnd:st.Nodup) (hc3:st.contains s=false) (hc4:∀q∈st,q<H.length) (hun:cU (c6 (br H (ss++ss2)) os) s g0 ks' cells' st=some (refs,obs))
  (hcalls:(Inv I0 B (du I A (ss++ss2)) A ⟨T,br H (ss++ss2)⟩ a w)→(¬du I A (ss++ss2) y.b)→(∀x,some x∈ow→x.b<w.heap.size∧¬du I A (ss++ss2) x.b∧x.b≠y.b)→
   Calls E.P k vs w fun en w'=>∃v c' e' I' ow',en= .returned v∧PbxE (du I A (ss++ss2)) w y.b c ow ks' cells' r w' v c' e' I' ow'):
  Calls E.P k vs w fun en w'=>∃v,en= .returned v∧Step I0 B I a w r ⟨T,(ec (c6 (br H (ss++ss2)) os) obs).set s (g0+1,some (.box refs false))⟩ v w':=by
 have hbs:y.b<w.heap.size:=(zc0.1 hb).1;have hsl:s<H.length:=dq hlive;have hsites:Sites H (ss++ss2):=a2.append k3;obtain⟨hfz,hRf⟩:=h.freeze (ss++ss2) hsites.free;have hfz:Inv I0 B (du I A (ss++ss2)) A ⟨T,br H (ss++ss2)⟩ a w:=hfz;have hs12:s∉ss++ss2:=fun hm=>by have:(ss++ss2).contains s=true:=(by simpa using hm);rw[this] at hc1;cases hc1
 have hnI1:¬du I A (ss++ss2) y.b:=by
  rintro (hi|⟨s',hs',g',y',hy',hb'⟩)
  ·exact hnI hi
  ·exact hs12 ((h.inj _ _ _ _ _ _ hy hy' hb').1▸hs')
 have hqs:∀q∈os,q≠s∧q<H.length:=fun q hq=>by
  obtain⟨g',e',n',rs,hlq⟩:=k4 q hq;refine⟨fun e1=> ?_,dq hlq⟩;subst e1;have e2:=bT hlive;have e3:=bT hlq;have:g0=g':=by omega
  subst this;rw[hlive] at hlq;exact hna _ _ _ (Option.some.inj hlq)
 have hown:∀x,some x∈ow→x.b<w.heap.size∧¬du I A (ss++ss2) x.b∧x.b≠y.b∧¬B x.b∧∃q g',q∈os∧A q g'=some x:=fun x hx=>by
  obtain⟨q,g',hq,hxq⟩:=k6 x hx;obtain⟨g'',e',n',rs,hlq⟩:=k4 q hq;obtain⟨o,ho⟩:=h.ar q g' x hxq;have ho:bi H q g'=some o:=ho;have hgg:g'=g'':=by
   have e2:=bT ho;have e3:=bT hlq;omega
  subst hgg;obtain⟨x',hx',hxB,cc,b1,b2,b3,b4,b5,b6,b7,b8⟩:=h.ob q g' _ hlq;rw[hxq] at hx';cases hx';have hxI:¬I x.b:=fun hi=>by have:=b7.2 hi;cases this
  refine⟨h.A_lt hxq,?_,fun eb=>(hqs q hq).1 (h.inj _ _ _ _ _ _ hxq hy eb).1,hxB.resolve_left hxI,q,g',hq,hxq⟩
  rintro (hi|⟨s',hs',g2,y',hy',hb'⟩)
  ·exact hxI hi
  ·have e1:=(h.inj _ _ _ _ _ _ hxq hy' hb').1;have:=hc2 q hq;have hm:(ss++ss2).contains q=true:=by rw[e1];simpa using hs'
   rw[hm] at this;cases this
 refine(hcalls hfz hnI1 fun x hx=>⟨(hown x hx).1,(hown x hx).2.1,(hown x hx).2.2.1⟩).mono ?_
 rintro en w' ⟨v,c',e',I',ow',rfl,E'⟩
 refine⟨v,rfl,?_⟩;obtain⟨A2,h2,q1,q2,q3,q4⟩:=Inv.killsA os hfz (fun q hq=>by rw[dr];exact(hqs q hq).2);have hsos:s∉os:=fun hm=>(hqs s hm).1 rfl;have hy2:A2 s g0=some y:=by rw[q1 s g0 hsos];exact hy
 have hA2:∀s' g' z,A2 s' g'=some z→s'∉os∧A s' g'=some z:=fun s' g' z hz=>by
  by_cases hm:s'∈os
  ·rw[q2 s' g' hm] at hz;cases hz
  ·exact⟨hm,by rw[←q1 s' g' hm];exact hz⟩
 have hA2o:∀s' g' z x,A2 s' g'=some z→some x∈ow→z.b≠x.b:=fun s' g' z x hz hx eb=>by
  obtain⟨_,_,_,_,q,g',hq,hxq⟩:=hown x hx;obtain⟨z1,z2⟩:=hA2 _ _ _ hz;exact z1 ((h.inj _ _ _ _ _ _ z2 hxq eb).1▸hq)
 have hliveK:bi (c6 (br H (ss++ss2)) os) s g0=some o0:=by
  rw[nM _ _ _ _ hsos,ch,if_neg hs12];exact hlive
 have hKl:(c6 (br H (ss++ss2)) os).length=H.length:=by rw[lC,dr]
 obtain⟨HK,hHK⟩:∃HK,HK=c6 (br H (ss++ss2)) os:=⟨_,rfl⟩;rw[←hHK] at h2 q3 q4 hliveK hun hKl ⊢;obtain⟨w1,hw1⟩:∃w1,w1=cS w y.b (.cells c' e' (0,0)):=⟨_,rfl⟩;have hw1s:w1.heap.size=w.heap.size:=by rw[hw1];exact bW _ _ _
 have hw1o:∀b,b≠y.b→w1.heap[b]?=w.heap[b]?:=fun b hb=>by rw[hw1];exact ci _ _ _ hb
 have hw1y:w1.heap[y.b]?=some (.cells c' e' (0,0)):=by rw[hw1];exact cY hbs
 obtain⟨h3,hR3⟩:=h2.set (o':= .box (List.replicate c.size .junk) false) hliveK hy2 hnI1 (w':=w1) hw1s hw1o (hno:=hno) (fun hR=>⟨c',e',hw1y,by simp[E'.siz],fun j d v hd hv=>by
  have:=(List.mem_replicate.1 (List.mem_of_getElem? hd)).2;subst this;exact .clo (.junk v),⟨(fun hh=>by cases hh),fun hi=>absurd hi hnI1⟩⟩)
 have hgK:bl HK s=g0+1:=bT hliveK;obtain⟨H3,hH3⟩:∃H3,H3=HK.set s (g0+1,some (.box (List.replicate c.size .junk) false)):=⟨_,rfl⟩;have h3:Inv I0 B (du I A (ss++ss2)) A2 ⟨T,H3⟩ a w1:=by rw[hH3,←hgK];exact h3
 have hrow3:∀b,RowB A2 H3 w1 b→RowB A H w b:=fun b hb'=>by
  refine RowB.unfreeze (ss:=ss++ss2) (q4 b ?_);obtain⟨z,j,s',g',e1,er,nr,cs1,c1,f,len,rs,cap,z1,z2,z3,z4,z5⟩:=hb';have es:s'≠s:=fun es=>by
   subst es;rw[hH3,bQ (by rw[hKl];exact hsl)] at z2;split at z2<;>cases z2
  rw[hH3,bO (Ne.symm es)] at z2;have hne:z.b≠y.b:=fun eb=>es (h2.inj _ _ _ _ _ _ z1 hy2 eb).1;rw[hw1o _ hne] at z3;exact⟨z,j,s',g',e1,er,nr,cs1,c1,f,len,rs,cap,z1,z2,z3,z4,z5⟩
 have hrowo:∀b,RowB A H w b→b<w.heap.size∧b≠y.b∧∀x,some x∈ow→x.b≠b:=fun b ⟨z,j,hb'⟩=>by
  obtain⟨z1,z2,z3,z4⟩:=h.rw.sep _ _ _ hb';refine⟨z1,fun e1=>z4 _ _ _ hy e1.symm,fun x hx=> ?_⟩;obtain⟨_,_,_,_,q,g',hq,hxq⟩:=hown x hx;exact z4 _ _ _ hxq
 have hAw:∀s' g' z,A2 s' g'=some z→w'.heap[z.b]?=w1.heap[z.b]?:=fun s' g' z hz=>by
  by_cases eb:z.b=y.b
  ·rw[eb,hw1y];exact E'.blk
  ·rw[hw1o _ eb];exact E'.rest _ (h.A_lt (hA2 _ _ _ hz).2) eb fun x hx=>(hA2o _ _ _ _ hz hx).symm
 have hI1o:∀b,du I A (ss++ss2) b→b<w.heap.size∧b≠y.b∧∀x,some x∈ow→x.b≠b:=fun b hb'=>⟨hfz.iw b hb',fun e1=>hnI1 (e1▸hb'),fun x hx e1=>(hown x hx).2.1 (e1▸hb')⟩;have h4:Inv I0 B I' A2 ⟨T,H3⟩ a w':=h3.turn (by rw[hw1s];exact E'.size) (fun b hb'=>by
  obtain⟨z1,z2,z3⟩:=hI1o b hb';rw[hw1o b z2];exact E'.rest b z1 z2 z3) hAw (fun b hb'=>by
  obtain⟨z1,z2,z3⟩:=hrowo b (hrow3 b hb');rw[hw1o b z2];exact E'.rest b z1 z2 z3) E'.grow (fun b hb'=>by
  rcases E'.new b hb' with z1|z1|⟨x,hx,rfl⟩
  ·exact .inl z1
  ·refine .inr ⟨fun hk=>by have:=hB b hk;omega,fun s' g' z hz eb=> ?_,fun hr'=> ?_⟩
   ·have:=h.A_lt (hA2 _ _ _ hz).2;omega
   ·have:=(hrowo b (hrow3 b hr')).1;omega
  ·exact .inr ⟨(hown x hx).2.2.2.1,fun s' g' z hz=>hA2o _ _ _ _ hz hx,fun hr'=>(hrowo _ (hrow3 _ hr')).2.2 x hx rfl⟩) E'.lt
 have hnI':¬I' y.b:=fun hi=>by
  rcases E'.new _ hi with z1|z1|⟨x,hx,eb⟩
  ·exact hnI1 z1
  ·omega
  ·exact(hown x hx).2.2.1 eb
 have hst3:s∉st:=fun hm=>by have:st.contains s=true:=(by simpa using hm);rw[this] at hc3;cases hc3
 obtain⟨i1,i2,i3,A5,h5,i6,i7,i8⟩:=p6 (H1:=HK) (s:=s) (g:=g0) (y:=y) ks' cells' st refs obs c'.toList ow' H3 A2 hun h4 hy2 (by rw[hH3,cu (by rw[hKl];exact hsl)];omega) (by rw[E'.len];simp[E'.siz]) (by rw[E'.owl];simp[E'.siz])
  (fun q hq=>by
   have hqne:q≠s:=fun e1=>hst3 (e1▸hq);exact⟨by rw[hH3,cq (Ne.symm hqne)],by rw[hH3];simp[hKl];exact hc4 q hq,hqne⟩) hsnd (fun j κ o d v z1 z2 z3 z4=>E'.cell j κ o d v z1 z2 z3 (by simpa using z4)) (fun x hx=>by
   obtain⟨z1,z2,z3⟩:=E'.own x hx;have hb3:∀b',RowB A2 H3 w' b'→RowB A H w b':=fun b' hb'=>hrow3 b' (hb'.back hAw);rcases z3 with z3|⟨x2,hx2,eb⟩
   ·refine⟨fun hk=>by have:=hB _ hk;omega,z1,fun s' g' z hz eb=> ?_,fun hr'=> ?_⟩
    ·have:=h.A_lt (hA2 _ _ _ hz).2;omega
    ·have:=(hrowo _ (hb3 _ hr')).1;omega
   ·rw[←eb];exact⟨(hown x2 hx2).2.2.2.1,by rw[eb];exact z1,fun s' g' z hz=>hA2o _ _ _ _ hz hx2,fun hr'=>(hrowo _ (hb3 _ hr')).2.2 x2 hx2 rfl⟩) E'.inj
 have hobs:∀p∈obs,p.1≠s:=fun p hp e1=>hst3 (e1▸i3 p hp);have hl5:bi (ec H3 obs) s g0=some (.box (List.replicate c.size .junk) false):=by
  rw[lD _ _ _ _ hobs,hH3,bQ (by rw[hKl];exact hsl),if_pos rfl]
 have hy5:A5 s g0=some y:=by rw[i6 s g0 hst3];exact hy2
 obtain⟨h6,hR6⟩:=h5.set (o':= .box refs false) hl5 hy5 hnI' (w':=w') rfl (fun _ _=>rfl) (fun hR=>⟨c',e',E'.blk,by simp[i2],fun j d v hd hv=>hR _ _ (i8 j d v hd (by simpa using hv)),⟨(fun hh=>by cases hh),fun hi=>absurd hi hnI'⟩⟩);have hfin:(⟨T,ec H3 obs⟩:St).setOb s (some (.box refs false))=⟨T,(ec HK obs).set s (g0+1,some (.box refs false))⟩:=by
  unfold St.setOb;dsimp only;rw[bT hl5,hH3,sB _ _ _ _ hobs,List.set_set]
 rw[hfin] at h6;exact⟨I',A5,h6,.clo E'.res,fun b hb'=>E'.grow b (.inl hb'),fun b hb'=>by
  obtain⟨z1,z2,z3⟩:=hI1o b (.inl hb');exact E'.rest b z1 z2 z3,⟨E'.os,E'.tape,E'.output,E'.size,fun b hb'=>E'.rest b (hB b hb') (fun e1=>hnB (e1▸hb')) fun x hx e1=>(hown x hx).2.2.2.1 (e1▸hb')⟩⟩
theorem CG{k:FuncId}{p:Nat}{Ty:TypeId}{ks ks':List PK}{st:List Nat}{g:List D→Option D}(hg:∀ds cells cells' r,p<ds.length→g (ds.set p (.agg cells))=some (.tup [.agg cells',r])→E7 E.P E.gl k p Ty ks ks' ds cells cells' r):KG E.P E.gl k (wa Ty ks ks' st p g):=by
 intro I0 B I A T a w H H' ds0 vs r h hgl hB hs hl hr;unfold wa at hs;split at hs
 ·rename_i s g0 hp;split at hs
  ·rename_i o0 hlive;split at hs
   ·rename_i cells os ss2 ds ss hpk hsn;split at hs
    ·rename_i hcond;simp only[zc4,Bool.not_eq_true',zc7,zd7] at hcond;obtain⟨⟨hc1,hc2⟩,hnd,hsnd,hc3,hc4⟩:=hcond;split at hs
     ·rename_i cells' r' hgo;split at hs
      ·rename_i refs obs hun;cases hs;have hpa:p<ds0.length:=(zc1.1 hp).1;obtain⟨v0,hv0⟩:∃v0,vs[p]?=some v0:=⟨vs[p]'(by rw[←hl];exact hpa),by simp⟩;obtain⟨a1,a2,a3⟩:=dK (I:=I) (A:=A) (w:=w) (cr h depth) _ _ _ hsn;have hdl:ds.length=ds0.length:=by rw[a1];simp
       have hgl1:Gl E.gl (du I A (ss++ss2)) w:=fun g d hg=>(hgl g d hg).mono (fun _ hb=> .inl hb) (fun _ _=>rfl);have hargs:∀(j:Nat) (d:D) (v:Value),j≠p→ds[j]?=some d→vs[j]?=some v→RelC (du I A (ss++ss2)) w d v:=fun j d v hj hd hv=>by
        obtain⟨d0,hd0,hr0⟩:=a3 j d hd;rw[List.getElem?_set_ne (Ne.symm hj)] at hd0;exact(hr0 v (hr j d0 v hd0 hv)).mono (fun b hb=>eA (fun s hs=>za9.2 (.inl hs)) hb) fun _ _=>rfl
       have hgP:=hg ds cells cells' r (by omega) hgo;unfold CF at hpk;split at hpk
       ·rename_i cs;split at hpk
        ·cases hpk
        rename_i hke;obtain⟨y,hy,hyB,c,e,hb,hcl,hrel,hfr⟩:=h.ob s g0 _ hlive;have hnI:¬I y.b:=fun hi=>by have:=hfr.2 hi;cases this
        have hvp:=(hr p _ v0 hp hv0).loc_inv hy;obtain⟨k1,k2,k3,k4,ow,k5,k6,k7,k8⟩:=pZ h hy ks cs c.toList cells os ss2 hpk (by simpa using hcl) (fun j d v hd hv=>hrel j d v hd (by simpa using hv));refine wb h hB hlive rfl (fun _ _ _ hx=>by cases hx) hy hb hnI (hyB.resolve_left hnI) k3 a2 k4 k6 hc1 hc2 hsnd hc3 hc4 hun fun hfz hnI1 hown=> ?_;have hgP:PbxC E.P E.gl k p ks ks' ds cells cells' r∨c.size=0:=by
         unfold E7 at hgP;split at hgP
         ·exact .inr (by rw[←hcl,←k2];rfl)
         ·exact .inl hgP
        rcases hgP with hgP|h0
        ·exact hgP (du I A (ss++ss2)) w y.b c e vs ow hfz.iw hgl1 hnI1 hb (by rw[k2];exact hcl) (by rw[k1];exact hcl) (by rw[k5];exact hcl)
          (fun j κ o d v h1 h2 h3 h4=>(k8 j κ o d v h1 h2 h3 (by simpa using h4)).mono fun b hb=>eA (fun s hs=>za9.2 (.inr hs)) hb) hown (k7 hnd) (by omega) (by omega) (by rw[hv0,hvp]) hargs
        ·exfalso;have hk0:ks=[]:=List.length_eq_zero_iff.1 (by rw[k1,hcl];exact h0);subst hk0;exact hke rfl
       ·rename_i c e;split at hpk
        ·rename_i hcd;simp only[zc4,ze4] at hcd;obtain⟨hcb,rfl⟩:=hcd;obtain rfl:=AL hcb;cases hpk;obtain⟨y,hy,hyB,hb,hnI⟩:=h.ob s g0 _ hlive;have hvp:=(hr p _ v0 hp hv0).loc_inv hy;refine wb h hB hlive rfl (fun _ _ _ hx=>by cases hx) hy hb hnI (hyB.resolve_left hnI) (fun _ hs=>by cases hs) a2 (fun _ hs=>by cases hs) (ow:=[]) (fun _ hs=>by cases hs) hc1 hc2 hsnd hc3 hc4 hun fun hfz hnI1 hown=> ?_;exact hgP (du I A (ss++[])) w y.b vs hfz.iw hgl1 hnI1 hb (by omega) (by omega) (by rw[hv0,hvp]) hargs
        ·cases hpk
       ·cases hpk
      ·cases hs
     ·cases hs
    ·cases hs
   ·cases hs
  ·cases hs
 ·cases hs
end
def fY(H:List (Nat×Option Ob))(s g:Nat):List PK→List Knd→List D→Nat→List Nat→(List D→List (Nat×Ob)→Tree)→Tree
 |[],_,_,_,_,c=>c [] []
 | .cl::ks,κ::kd,cells,j,st,c=> .cell cells j fun d=>jS κ d fun d=>fY H s g ks kd cells (j+1) st fun r o=>c (d::r) o
 | .slf::ks,_::kd,cells,j,st,c=> .cell cells j fun d=> .tup d 0 fun _=>fY H s g ks kd cells (j+1) st fun r o=>c (.loc s g 0::r) o
 | .own e n::ks,_::kd,cells,j,t::st,c=> .cell cells j fun d=> .nil d (fY H s g ks kd cells (j+1) st fun r o=>c (.nils::r) o) fun f len cs=> .chk (!f) (fY H s g ks kd cells (j+1) st fun r o=>c (.own t (bl H t) len::r) ((t,.arr e n cs false)::o))
 |_,_,_,_,_,_=> .fail
def If(P:Program)(k:FuncId)(kd:List Knd)(Ty:TypeId)(ks ks':List PK)(st:List Nat)(p:Nat)(g:List D→Option D)(H:List (Nat×Option Ob))(args:List D)(c:D→List (Nat×Option Ob)→Tree):Tree:=match args[p]? with
 |some (.loc s g0 0)=>(match bi H s g0 with
  |some o=>(match CF H s g0 Ty ks o,cA (bJ H depth) (args.set p .nils) with
   |some (cells,os,ss2),some (ds,ss)=>
    if(!(ss++ss2).contains s&&os.all (fun q=> !(ss++ss2).contains q))&&(decide os.Nodup&&(decide st.Nodup&&(!st.contains s&&st.all (fun q=>decide (q<H.length))))) then
     .opt (g (ds.set p (.agg cells))) fun r=> .tup r 2 fun l=> .cell l 0 fun a=> .agg a ks'.length fun cells'=> .cell l 1 fun x=>sr false P (pL P k) x fun x=>
      fY (c6 (br H (ss++ss2)) os) s g0 ks' kd cells' 0 st fun refs obs=>c x ((ec (c6 (br H (ss++ss2)) os) obs).set s (g0+1,some (.box refs false)))
    else .fail
   |_,_=> .fail)
  |_=> .fail)
 |_=> .fail
def Ig(P:Program)(k:FuncId)(kd:List Knd)(Ty:TypeId)(ks ks':List PK)(st:List Nat)(p:Nat)(g:List D→Option D):Inl:=⟨wa Ty ks ks' st p g,If P k kd Ty ks ks' st p g⟩
section
variable {α:Type}{lf:Option D→Option α}{ef:List D→(Bool→Option α)→Option α}{x:α}
theorem kq{l:List D}{j:Nat}{d:D}(h:l[j]?=some d):l.drop j=d::l.drop (j+1):=by
 obtain⟨hj,rfl⟩:=zc1.1 h;exact List.drop_eq_getElem_cons hj
theorem rm{H:List (Nat×Option Ob)}{s g:Nat}:∀(ks:List PK) (kd:List Knd) (cells:List D) (j:Nat) (st:List Nat) (c:List D→List (Nat×Ob)→Tree),bv lf ef (fY H s g ks kd cells j st c)=some x→j+ks.length=cells.length→
  ∃refs obs,cU H s g ks (cells.drop j) st=some (refs,obs)∧bv lf ef (c refs obs)=some x:=by
 intro ks
 induction ks with
 |nil=>
  intro kd cells j st c h hl;have:cells.drop j=[]:=List.drop_eq_nil_of_le (by simpa using Nat.le_of_eq hl.symm);exact⟨[],[],by rw[this];rfl,h⟩
 |cons κ ks ih=>
  intro kd cells j st c h hl;cases kd with
  |nil=>cases κ<;>cases h
  |cons k0 kd=>
   have hl':j+1+ks.length=cells.length:=by simpa [Nat.add_comm,Nat.add_left_comm,ze0] using hl
   cases κ with
   |cl=>
    simp only[fY] at h;obtain⟨d,hd,h⟩:=c7 h;have h:=fG h;obtain⟨r,o,h1,h2⟩:=ih kd cells (j+1) st _ h hl';exact⟨d::r,o,by rw[kq hd];simp only[cU,h1],h2⟩
   |slf=>
    simp only[fY] at h;obtain⟨d,hd,h⟩:=c7 h;rw[oB] at h;unfold cJ at h;split at h
    ·rename_i l;split at h
     ·rename_i hz;have:l=[]:=List.length_eq_zero_iff.1 hz;subst this;obtain⟨r,o,h1,h2⟩:=ih kd cells (j+1) st _ h hl';exact⟨.loc s g 0::r,o,by rw[kq hd];simp only[cU,h1],h2⟩
     ·cases h
    ·cases h
   |own e n=>
    cases st with
    |nil=>cases h
    |cons t st=>
     simp only[fY] at h;obtain⟨d,hd,h⟩:=c7 h;rw[tL] at h;cases d with
     |nils=>
      obtain⟨r,o,h1,h2⟩:=ih kd cells (j+1) st _ h hl';exact⟨.nils::r,o,by rw[kq hd];simp only[cU,h1],h2⟩
     |slc f len cs=>
      obtain⟨hf,h⟩:=bC (h:bv lf ef (.chk _ _)=some x);have hf:f=false:=by simpa using hf
      subst hf;obtain⟨r,o,h1,h2⟩:=ih kd cells (j+1) st _ h hl';exact⟨_,_,by rw[kq hd];simp only[cU,h1],h2⟩
     |_=>cases h
end
theorem yf{P:Program}{k:FuncId}{kd:List Knd}{Ty:TypeId}{ks ks':List PK}{st:List Nat}{p:Nat}{g:List D→Option D}:xt (Ig P k kd Ty ks ks' st p g):=by
 intro α lf ef H args c x h;have h:bv lf ef (If P k kd Ty ks ks' st p g H args c)=some x:=h;show∃r H',wa Ty ks ks' st p g H args=some (r,H')∧_;unfold If at h;unfold wa;split at h
 ·rename_i s g0 hp;split at h
  ·rename_i cs hlive;split at h
   ·rename_i cells os ss2 ds ss hpk hsn;split at h
    ·rename_i hcond;obtain⟨r,hr,h⟩:=gG h;obtain⟨l,rfl,hl2,h⟩:=pP h;obtain⟨a,ha,h⟩:=c7 h;rw[zi] at h;unfold fK at h;split at h
     ·rename_i cells';split at h
      ·rename_i hlen;obtain⟨y,hy,h⟩:=c7 h;have h:=gI h;obtain⟨refs,obs,h1,h2⟩:=rm ks' kd cells' 0 st _ h (by omega);have hll:l=[.agg cells',y]:=by
        match l,hl2,ha,hy with
        |[u,v],_,ha,hy=>simp at ha hy;subst ha hy;rfl
       subst hll;rw[List.drop_zero] at h1;exact⟨y,_,by first|(simp only[hcond,if_true,hr,h1];done)|simp only[hp,hlive,hpk,hsn,hcond,if_true,hr,h1],h2⟩
      ·cases h
     ·cases h
    ·cases h
   ·cases h
  ·cases h
 ·cases h
theorem E8{P:Program}{gl:Nat→Option D}{k:FuncId}{kd:List Knd}{Ty:TypeId}{ks ks':List PK}{st:List Nat}{p:Nat}{g:List D→Option D}(hen:∀vs w,(callFunc k vs).run P w= .ok (.enter k vs) w)
  (hg:∀ds cells cells' r,p<ds.length→g (ds.set p (.agg cells))=some (.tup [.agg cells',r])→E7 P gl k p Ty ks ks' ds cells cells' r):InlOK P gl k (Ig P k kd Ty ks ks' st p g):=
 ⟨hen,CG (E:={P:=P,gl:=gl,call:=fun _ _=>none,L:=0}) hg,yf⟩
def fH(fn:Func)(p:Nat)(cells ds:List D):List (Nat×Option Ob):=(cz fn (ds.set p (.loc p 0 0))).H.set p (1,some (.box (List.replicate cells.length .junk) false))
def CH(fn:Func)(p:Nat)(ks:List PK)(st:List Nat)(cells ds:List D):Option St:=
 if decide st.Nodup&&(!st.contains p&&(decide (ks.length=cells.length)&&st.all (fun q=>decide (q<(fH fn p cells ds).length)))) then(match cU (fH fn p cells ds) p 0 ks cells st with
  |some q=>some ⟨(cz fn (ds.set p (.loc p 0 0))).T,(ec (fH fn p cells ds) q.2).set p (1,some (.box q.1 false))⟩
  |none=>none) else none
noncomputable def yg(Te:TE)(ord:hZ)(N:bA)(p:Nat)(ks ks':List PK)(st:List Nat)(fn:Func)(cells ds:List D):Option D:=match fn.body,CH fn p ks st cells ds with
 |some c,some σ=>run (ek Te ord N c 1 σ (jw Te.E (.pbx p ks') fn))
 |_,_=>none
section
variable {I:Nat→Prop}{w:World}{fn:Func}{p:Nat}{cells ds:List D}
theorem na(hp:p<ds.length):p<(fH fn p cells ds).length:=by
 unfold fH;rw[List.length_set];show p<(fB ((ds.set p (.loc p 0 0)).length+_)).length;rw[jb,List.length_set];omega
theorem lE(hp:p<ds.length){s g:Nat}{o:Ob}(h:bi (fH fn p cells ds) s g=some o):s=p∧g=0∧o= .box (List.replicate cells.length .junk) false:=by
 have hlt:=na (fn:=fn) (cells:=cells) hp;unfold fH at h hlt;rw[List.length_set] at hlt;by_cases hs:s=p
 ·subst hs;rw[bQ hlt] at h;split at h
  ·rename_i hg;exact⟨rfl,by omega,(Option.some.inj h).symm⟩
  ·cases h
 ·rw[bO (Ne.symm hs)] at h;rw[show(cz fn (ds.set p (.loc p 0 0))).H=fB ((ds.set p (.loc p 0 0)).length+(fn.ntmps-(ds.set p (.loc p 0 0)).length)) from rfl,iU] at h;cases h
theorem gM(hp:p<ds.length):bi (fH fn p cells ds) p 0=some (.box (List.replicate cells.length .junk) false):=by
 have hlt:=na (fn:=fn) (cells:=cells) hp;unfold fH at hlt ⊢;rw[List.length_set] at hlt;rw[bQ hlt];rfl
theorem AM{b:Nat}{e:TypeId}{c vs:Array Value}{KK:Nat→Prop}(hp:p<ds.length)(hI:∀b,I b→b<w.heap.size)(hbI:¬I b)(hKb:¬KK b)(hb:w.heap[b]?=some (.cells c e (0,0)))(hcs:cells.length=c.size)
  (hvl:ds.length=vs.size) (hvp:vs[p]?=some (.pointer (some ⟨b,0,none⟩))) (hrr:∀(j:Nat) (d:D) (v:Value),j≠p→ds[j]?=some d→vs[j]?=some v→RelC I w d v):
  Inv I KK I (AP p b 0 0) ⟨(cz fn (ds.set p (.loc p 0 0))).T,fH fn p cells ds⟩ {tmps:=vs++Array.replicate (fn.ntmps-vs.size) undef,defers:=[]} w:=by
 refine⟨?_,fun t d v hd hv=> ?_,fun s g o ho=> ?_,fun s g x hx=> ?_,fun s g x s' g' x' h1 h2 _=> ?_,hI,fun b hb=> .inl hb,fun b hb=>hb,Marks.nil,.none fun s g o ho=>by obtain⟨_,_,rfl⟩:=lE hp ho;rfl⟩
 ·simp[cz,iS,hvl]
 ·have hd:((ds.set p (.loc p 0 0))++gS (fn.ntmps-(ds.set p (.loc p 0 0)).length))[t]?=some d:=hd;by_cases ht:t<ds.length
  ·rw[zb9 (by simpa using ht)] at hd;rw[Array.getElem?_append_left (by omega)] at hv;by_cases htp:t=p
   ·subst htp;rw[List.getElem?_set_self ht] at hd;cases hd;rw[hvp] at hv;cases hv;have hg:0<bl (fH fn t cells ds) t:=by
     have h0:=gM (fn:=fn) (cells:=cells) hp;rw[liveH_some] at h0;unfold bl;rw[h0];exact Nat.lt_succ_self _
    exact .loc t 0 0 _ hg fun x hx=>by
     obtain⟨_,_,rfl⟩:=pW hx;rfl
   ·rw[List.getElem?_set_ne (Ne.symm htp)] at hd;exact .clo (hrr t d v htp hd hv)
  ·rw[zb8 (by simpa using ht)] at hd;rw[Array.getElem?_append_right (by omega)] at hv;have e1:=iT _ _ _ hd;have e2:v=undef:=by
    rw[Array.getElem?_replicate] at hv;split at hv
    ·simpa using hv.symm
    ·cases hv
   subst e1 e2;exact fL
 ·obtain⟨rfl,rfl,rfl⟩:=lE hp ho;refine⟨⟨b,0,0⟩,by simp[AP],.inr hKb,c,e,hb,by simp[hcs],fun j d v hd hv=> ?_,⟨(fun h=>by cases h),fun h=>absurd h hbI⟩⟩;have:=(List.mem_replicate.1 (List.mem_of_getElem? hd)).2;subst this;exact .clo (.junk v)
 ·obtain⟨rfl,rfl,rfl⟩:=pW hx;exact⟨_,gM hp⟩
 ·obtain⟨rfl,rfl,_⟩:=pW h1;obtain⟨rfl,rfl,_⟩:=pW h2;exact⟨rfl,rfl⟩
end
theorem CI{Te:TE}(hm:Te.E.P.follows .mixedOrders=true)(hcall:EnvOK Te.E)(hcst:∀k ds r,Te.cst k ds=some r→Te.E.call k ds=some r)(hit:Te.it=none)(hsq:∀g cs ys,Te.sq g cs=some ys→SeqOK Te.E.P Te.E.gl g cs ys){f:FuncId}{fn:Func}(hf:Te.E.P.funcs[f]?=some fn){ord:hZ}{N:bA}{cd:Code}(hbd:fn.body=some cd)(hok:nD Te.E.P ord cd=true){p:Nat}(hk0:∀t∈cG cd,t≠p)
  {ks':List PK} {cells':List D} {r:D} {I:Nat→Prop} {w:World} {b:Nat} {c:Array Value} {e:TypeId} {vs:Array Value} {ow:List (Option Gh)} {σ0:St} (hI:∀x,I x→x<w.heap.size) (hgl:Gl Te.E.gl I w) (hbI:¬I b) (hb:w.heap[b]?=some (.cells c e (0,0))) (hks:ks'.length=c.size)
  (how:∀x,some x∈ow→x.b<w.heap.size∧¬I x.b∧x.b≠b) (hps:p<vs.size) (hvp:vs[p]?=some (.pointer (some ⟨b,0,none⟩)))
  (hst:∀KK:Nat→Prop,¬KK b→(∀y,some y∈ow→¬KK y.b)→(∀x,I x→KK x)→∃A0,Inv I KK I A0 σ0 {tmps:=vs++Array.replicate (fn.ntmps-vs.size) undef,defers:=[]} w)
  (he:run (ek Te ord N cd 1 σ0 (jw Te.E (.pbx p ks') fn))=some (.tup [.agg cells',r])):
  Calls Te.E.P f vs w fun en w'=>∃v c' e' I' ow',en= .returned v∧PbxE I w b c ow ks' cells' r w' v c' e' I' ow':=by
 have hbs:b<w.heap.size:=(zc0.1 hb).1;obtain⟨KK,hKK⟩:∃KK:Nat→Prop,KK=fun x=>x<w.heap.size∧x≠b∧∀y,some y∈ow→y.b≠x:=⟨_,rfl⟩;have hKb:¬KK b:=by rw[hKK];exact fun h=>h.2.1 rfl
 have hKo:∀y,some y∈ow→¬KK y.b:=fun y hy=>by rw[hKK];exact fun h=>h.2.2 y hy rfl
 have hIK:∀x,I x→KK x:=fun x hx=>by
  rw[hKK];exact⟨hI x hx,fun e1=>hbI (e1▸hx),fun y hy e1=>(how y hy).2.1 (e1▸hx)⟩
 have hKs:∀x,KK x→x<w.heap.size:=fun x hx=>by rw[hKK] at hx;exact hx.1
 have hnK:∀x,¬KK x→w.heap.size≤x∨x=b∨∃y,some y∈ow∧y.b=x:=fun x hx=>by
  rw[hKK] at hx;by_cases h1:x<w.heap.size
  ·by_cases h2:x=b
   ·exact .inr (.inl h2)
   ·refine .inr (.inr (Classical.byContradiction fun h3=>hx ⟨h1,h2,fun y hy e1=>h3 ⟨y,hy,e1⟩⟩))
  ·exact .inl (by omega)
 obtain⟨A0,hA0⟩:=hst KK hKb hKo hIK;refine callsIn_wide.1 (callsIn_of_wp_marks (F:=Fence.wide) (n:=0) hf hbd trivial ?_);refine eX hm hcall hcst hit hsq cd 1 hok (fun x=>x.tmps[p]?=some (.pointer (some ⟨b,0,none⟩))) KK I w Fence.wide 0 (.inl rfl) (.inl rfl) hgl hIK hKs (jW cd hk0) _ _ _ w _ ⟨I,_,hA0,Blw.refl _ _,(Array.getElem?_append_left hps).trans hvp⟩ he fun o σ a' w' hg hk=> ?_;obtain⟨I',A',h,hbel,hfx⟩:=hg;have key:run (xU Te.E p ks' σ fn)=some (.tup [.agg cells',r])→LeavesInM Fence.wide 0 Te.E.P fn a'.tmps (fun en w'=>∃v c' e' I' ow',en= .returned v∧PbxE I w b c ow ks' cells' r w' v c' e' I' ow') a'.defers .returning w':=fun hend=>by
  refine pX (tm:=a'.tmps) hIK ?_ _ I' A' a' w' rfl rfl h hbel;intro I2 A2 a2 w2 ht2 hd2 h2 hb2;unfold xU at hend;split at hend
  ·rename_i s hT;split at hend
   ·rename_i hsp;subst hsp;split at hend
    ·rename_i cs hl;split at hend
     ·rename_i cells2 os ss hpk;split at hend
      ·rename_i hcond;simp only[zc4,Bool.not_eq_true',zc7,zd7] at hcond;obtain⟨⟨hc1,hc2⟩,hnd⟩:=hcond;split at hend
       ·rename_i d0 hres;have hee:(D.tup [.agg cells2,canon2 d0])= .tup [.agg cells',r]:=Option.some.inj hend;cases hee;obtain⟨T2,H2⟩:=σ;have hl:bi H2 s 0=some (.box cs false):=hl;obtain⟨y,hy,hyB,c2,e2,o1,o2,o3,o4⟩:=h2.ob s 0 _ hl;have hv0:a2.tmps[s]?=some (.pointer (some ⟨b,0,none⟩)):=by rw[ht2];exact hfx
        have hyb:y.b=b:=by have:=(h2.tv s _ _ hT hv0).loc_inv hy;cases this;rfl
        obtain⟨k1,k2,k3,k4,ow2,k5,k6,k7,k8⟩:=pZ h2 hy ks' cs c2.toList cells' os ss hpk (by simpa using o2) (fun j d v hd hv=>o3 j d v hd (by simpa using hv));have hnI2:¬I2 y.b:=fun hi=>by have:=o4.2 hi;cases this
        have hpss:s∉ss:=fun hm=>by have:ss.contains s=true:=(by simpa using hm);rw[this] at hc1;cases hc1
        obtain⟨hfz,_⟩:=h2.freeze ss k3.free;have hfz:Inv I KK (du I2 A2 ss) A2 ⟨T2,br H2 ss⟩ a2 w2:=hfz;have hqs:∀q∈os,q≠s∧q<H2.length:=fun q hq=>by
         obtain⟨g',e',n',rs,hlq⟩:=k4 q hq;refine⟨fun e1=> ?_,dq hlq⟩;subst e1;have z2:=bT hl;have z3:=bT hlq;have:g'=0:=by omega
         subst this;rw[hl] at hlq;cases hlq
        have hnF:¬du I2 A2 ss y.b:=by
         rintro (hi|⟨s',hs',g',y',hy',hb'⟩)
         ·exact hnI2 hi
         ·exact hpss ((h2.inj _ _ _ _ _ _ hy hy' hb').1▸hs')
        obtain⟨A3,h3,q1,q2,_,_⟩:=Inv.killsA os hfz (fun q hq=>by rw[dr];exact(hqs q hq).2);have hsos:s∉os:=fun hm=>(hqs s hm).1 rfl;have hsl:s<(c6 (br H2 ss) os).length:=by rw[lC,dr];exact dq hl
        obtain⟨A4,h4,p1,p2,_⟩:=h3.kill s hsl;have hg3:bl (c6 (br H2 ss) os) s=1:=by rw[pY,genH_freeze];exact bT hl
        have h4:Inv I KK (du I2 A2 ss) A4 ⟨T2,(c6 (br H2 ss) os).set s (1,none)⟩ a2 w2:=by
         have:=h4;unfold St.setOb at this;dsimp only at this;rw[hg3] at this;exact this
        have hA4:∀s' g' z,A4 s' g'=some z→s'≠s∧s'∉os∧A2 s' g'=some z:=fun s' g' z hz=>by
         by_cases es:s'=s
         ·subst es;rw[p2] at hz;cases hz
         ·rw[p1 s' g' es] at hz;by_cases hm:s'∈os
          ·rw[q2 s' g' hm] at hz;cases hz
          ·exact⟨es,hm,by rw[←q1 s' g' hm];exact hz⟩
        obtain⟨v,r1,r2⟩:=vE h4 hres;have hown:∀x,some x∈ow2→∃q g',q∈os∧A2 q g'=some x∧¬I2 x.b∧¬KK x.b:=fun x hx=>by
         obtain⟨q,g',hq,hxq⟩:=k6 x hx;obtain⟨g'',e',n',rs,hlq⟩:=k4 q hq;obtain⟨o',ho'⟩:=h2.ar q g' x hxq;have ho':bi H2 q g'=some o':=ho';have hgg:g'=g'':=by
          have z2:=bT ho';have z3:=bT hlq;omega
         subst hgg;obtain⟨x',hx',hxB,cc,b1,b2,b3,b4,b5,b6,b7,b8⟩:=h2.ob q g' _ hlq;rw[hxq] at hx';cases hx';have hxI:¬I2 x.b:=fun hi=>by have:=b7.2 hi;cases this
         exact⟨q,g',hq,hxq,hxI,hxB.resolve_left hxI⟩
        have hheldK:∀z,tD (du I2 A2 ss) A4 z→I z∨¬KK z:=fun z hz=>by
         rcases hz with hz|⟨s',g',z',hz',rfl⟩
         ·exact h4.io z hz
         ·obtain⟨o',ho'⟩:=h4.ar s' g' z' hz';obtain⟨z2,hz2,hB2,_⟩:=h4.ob s' g' o' ho';rw[hz'] at hz2;cases hz2;exact hB2.elim (h4.io _) .inr
        have hheldb:¬tD (du I2 A2 ss) A4 y.b:=by
         rintro (hz|⟨s',g',z',hz',eb⟩)
         ·exact hnF hz
         ·obtain⟨z1,z2,z3⟩:=hA4 _ _ _ hz';exact z1 (h2.inj _ _ _ _ _ _ z3 hy eb.symm).1
        refine⟨v,r1,v,c2,e2,tD (du I2 A2 ss) A4,ow2,rfl,?_⟩;refine⟨fun x hx=> .inl (.inl (h2.ii x hx)),fun x hx=> ?_,fun x hx=> ?_,r2.canon2,by rw[←hyb];exact o1,by rw[←o2,←k1,hks],by rw[k2,←k1,hks],by rw[k5,←k1,hks],fun j κ o d v z1 z2 z3 z4=> ?_,fun x hx=> ?_,k7 hnd,hb2.size,fun z z1 z2 z3=> ?_,hb2.os,hb2.tape,hb2.output⟩
        ·rcases hx with hx|⟨s',g',z',hz',rfl⟩
         ·exact h4.iw x hx
         ·exact h4.A_lt hz'
        ·rcases hheldK x hx with z1|z1
         ·exact .inl z1
         ·rcases hnK x z1 with z2|z2|z2
          ·exact .inr (.inl z2)
          ·exact absurd (by rw[hyb,←z2];exact hx) hheldb
          ·exact .inr (.inr z2)
        ·have:=(k8 j κ o d v z1 z2 z3 (by simpa using z4)).mono (I':=tD (du I2 A2 ss) A4) fun b hb=> .inl hb;rw[hyb] at this;exact this
        ·obtain⟨q,g',hq,hxq,hxI,hxK⟩:=hown x hx;have hxb:x.b≠b:=fun e1=>(hqs q hq).1 (h2.inj _ _ _ _ _ _ hxq hy (e1.trans hyb.symm)).1;refine⟨?_,hxb,?_⟩
         ·rintro ((hz|⟨s',hs',g2,z',hz',eb⟩)|⟨s',g2,z',hz',eb⟩)
          ·exact hxI hz
          ·have e1:=(h2.inj _ _ _ _ _ _ hxq hz' eb).1;have:=hc2 q hq;have hm:ss.contains q=true:=by rw[e1];simpa using hs'
           rw[hm] at this;cases this
          ·obtain⟨_,z2,z3⟩:=hA4 _ _ _ hz';exact z2 ((h2.inj _ _ _ _ _ _ z3 hxq eb.symm).1▸hq)
         ·rcases hnK _ hxK with z2|z2|z2
          ·exact .inl z2
          ·exact absurd z2 hxb
          ·exact .inr z2
        ·exact hb2.block z (by rw[hKK];exact⟨z1,z2,z3⟩)
       ·cases hend
      ·cases hend
     ·cases hend
    ·cases hend
   ·cases hend
  ·cases hend
 cases o with
 |exit i=>cases hk
 |norm=>exact key hk
 |ret=>exact key hk
theorem AN{Te:TE}(hm:Te.E.P.follows .mixedOrders=true)(hcall:EnvOK Te.E)(hcst:∀k ds r,Te.cst k ds=some r→Te.E.call k ds=some r)(hit:Te.it=none)(hsq:∀g cs ys,Te.sq g cs=some ys→SeqOK Te.E.P Te.E.gl g cs ys){f:FuncId}{fn:Func}(hf:Te.E.P.funcs[f]?=some fn){ord:hZ}{N:bA}(hok:jQ Te.E.P ord fn=true){p:Nat}(h0:tU p fn=true)
  {ks ks':List PK} {st:List Nat} {ds cells cells':List D} {r:D} (hkk:ks'.length=ks.length) (he:yg Te ord N p ks ks' st fn cells ds=some (.tup [.agg cells',r])):PbxC Te.E.P Te.E.gl f p ks ks' ds cells cells' r:=by
 intro I w b c e vs ow hI hgl hbI hb hcl hkl hol hcell how hinj hp hdl hvp hrr;unfold yg at he;split at he
 ·rename_i cd σ0 hbd hst0;simp only[jQ,hbd,zc4,Bool.not_eq_true'] at hok;have hk0:∀t∈cG cd,t≠p:=fun t ht=>by
   unfold tU at h0;rw[hbd] at h0;simpa using zd7.1 h0 t ht
  refine CI hm hcall hcst hit hsq hf hbd hok.2 hk0 hI hgl hbI hb (by rw[hkk,hkl]) how (by omega) hvp (fun KK hKb hKo hIK=> ?_) he;unfold CH at hst0;split at hst0
  ·rename_i hcond;simp only[zc4,Bool.not_eq_true',zc7,zd7] at hcond;obtain⟨hc1,hc2,hc3,hc4⟩:=hcond;have hpst:p∉st:=fun hm=>by have:st.contains p=true:=(by simpa using hm);rw[this] at hc2;cases hc2
   split at hst0
   ·rename_i q hq;cases hst0;have hb0:=AM (fn:=fn) (cells:=cells) hp hI hbI hKb hb hcl hdl hvp hrr;have hAp:AP p b 0 0 p 0=some ⟨b,0,0⟩:=by simp[AP]
    have hlen:=na (fn:=fn) (cells:=cells) hp;have hgp:bl (fH fn p cells ds) p=1:=bT (gM hp);obtain⟨i1,i2,i3,A5,h5,i6,i7,i8⟩:=p6 (H1:=fH fn p cells ds) (s:=p) (g:=0) (y:=⟨b,0,0⟩) ks cells st q.1 q.2 c.toList ow (fH fn p cells ds) (AP p b 0 0) hq hb0 hAp (by rw[hgp];omega) (by simp[hcl]) (by simp[hol])
     (fun t ht=>⟨rfl,hc4 t ht,fun e1=>hpst (e1▸ht)⟩) hc1 (fun j κ o d v z1 z2 z3 z4=>hcell j κ o d v z1 z2 z3 (by simpa using z4)) (fun x hx=>⟨hKo x hx,(how x hx).2.1,fun s' g' z hz eb=>by
      obtain⟨_,_,rfl⟩:=pW hz;exact(how x hx).2.2 eb.symm,fun⟨z,j,hr⟩=>by
      obtain⟨s',g',e1,er,nr,cs1,c1,f',len,rs,cap,z1,z2,_⟩:=hr;obtain⟨_,_,z3⟩:=lE hp z2;cases z3⟩) hinj
    have hobs:∀o∈q.2,o.1≠p:=fun o ho e1=>hpst (e1▸i3 o ho);have hl5:bi (ec (fH fn p cells ds) q.2) p 0=some (.box (List.replicate cells.length .junk) false):=by
     rw[lD _ _ _ _ hobs];exact gM hp
    have hy5:A5 p 0=some ⟨b,0,0⟩:=by rw[i6 p 0 hpst];exact hAp
    obtain⟨h6,_⟩:=h5.set (o':= .box q.1 false) hl5 hy5 hbI (w':=w) rfl (fun _ _=>rfl) (fun hR=>⟨c,e,hb,by simp[i2],fun j d v hd hv=>hR _ _ (i8 j d v hd (by simpa using hv)),⟨(fun hh=>by cases hh),fun hi=>absurd hi hbI⟩⟩);have hfin:(⟨(cz fn (ds.set p (.loc p 0 0))).T,ec (fH fn p cells ds) q.2⟩:St).setOb p (some (.box q.1 false))=⟨(cz fn (ds.set p (.loc p 0 0))).T,(ec (fH fn p cells ds) q.2).set p (1,some (.box q.1 false))⟩:=by
     unfold St.setOb;dsimp only;rw[bT hl5]
    rw[hfin] at h6;exact⟨A5,h6⟩
   ·cases hst0
  ·cases hst0
 ·cases he
theorem PbxC.turn{P:Program}{gl:Nat→Option D}{k:FuncId}{p:Nat}{ks ks':List PK}{ds ds0 cells cells':List D}{r:D}(h:PbxC P gl k p ks ks' ds0 cells cells' r)(hl:ds.length=ds0.length)(he:∀j,j≠p→ds0[j]?=ds[j]?):PbxC P gl k p ks ks' ds cells cells' r:=by
 intro I w b c e vs ow h1 h2 h3 h4 h5 h6 h7 h8 h9 h10 h11 h12 h13 h14;exact h I w b c e vs ow h1 h2 h3 h4 h5 h6 h7 h8 h9 h10 (by omega) (by omega) h13 fun j d v hj hd hv=>h14 j d v hj (by rw[←he j hj];exact hd) hv
structure RunB where
 R:Run
 Q:FuncId→Option (Nat×TypeId×List PK×List PK)
 Tp:FuncId→Option (List D→Option D)
 B:FuncId→FuncId→List Knd×List Nat
 S:FuncId→List Nat
 I:FuncId→Option Inl
 tb:Option TypeId
 ns:Bool:=false
def RunB.inl(X:RunB)(ev:FuncId→List D→Option D)(f:FuncId):FuncId→Option Inl:=fun k=>match X.Q k with
 |some q=>some (Ig X.R.P k (X.B f k).1 q.2.1 q.2.2.1 q.2.2.2 (X.B f k).2 q.1 (ev k))
 |none=>X.I k
def RunB.te(X:RunB)(call pcall:FuncId→List D→Option D)(f:FuncId):TE:=
 {E:={P:=X.R.P,gl:=X.R.gl,call:=call,L:=X.R.L,wr:=X.R.M,inl:=X.inl pcall f,tb:=X.tb,nst:=X.ns},cst:=X.R.cst,C:=X.R.C,sq:=X.R.sq}
def yi:Nat→D→D
 |0,d=>d
 |n+1,d=>match d with
  | .nils=> .slc true 0 []
  | .snap cs o=> .snap (cs.map (yi n)) o
  | .agg cs=> .agg (cs.map (yi n))
  | .fn f a b=> .fn f (a.map (yi n)) (b.map (yi n))
  |d=>d
theorem jc{f:D→D}{l:List D}{j:Nat}{d:D}(h:(l.map f)[j]?=some d):∃x,l[j]?=some x∧d=f x:=by
 rw[zc3] at h;cases hx:l[j]? with
 |none=>rw[hx] at h;cases h
 |some x=>rw[hx] at h;cases h;exact⟨x,rfl,rfl⟩
theorem jd{I:Nat→Prop}{w:World}:∀(n:Nat) {d:D} {v:Value},RelC I w d v→RelC I w (yi n d) v
 |0,_,_,h=>h
 |n+1,d,v,h=>by
  by_cases hc:yi (n+1) d=d
  ·rw[hc];exact h
  cases h with
  |nils=>exact .slcn true
  |snap cs off a us h1 h2 h3=>
   refine .snap _ off a us (fun hp=>h1 (by simpa using hp)) (fun j d hd=> ?_) fun j d hd=> ?_
   ·obtain⟨x,hx,_⟩:=jc hd;exact h2 j x hx
   ·obtain⟨x,hx,rfl⟩:=jc hd;exact jd n (h3 j x hx)
  |agg cs vs hl hr=>
   refine .agg _ vs (by simpa using hl) fun j d u hd hu=> ?_;obtain⟨x,hx,rfl⟩:=jc hd;exact jd n (hr j x u hx hu)
  |fn f x y vx vy hx hy h1 h2=>
   refine .fn f _ _ vx vy (by simpa using hx) (by simpa using hy) (fun j d u hd hu=> ?_) fun j d u hd hu=> ?_
   ·obtain⟨z,hz,rfl⟩:=jc hd;exact jd n (h1 j z u hz hu)
   ·obtain⟨z,hz,rfl⟩:=jc hd;exact jd n (h2 j z u hz hu)
  |_=>exact absurd rfl hc
def cnL:Bool→List D→List D
 |true,l=>l.map (yi 6)
 |false,l=>l
theorem CallOK.cnL{P:Program}{gl:Nat→Option D}{k:FuncId}{b:Bool}{ds:List D}{r:D}(h:CallOK P gl k (cnL b ds) r):CallOK P gl k ds r:=by
 cases b with
 |false=>exact h
 |true=>
  refine⟨h.1,fun I w vs h1 h2 h3 h4=>h.2 I w vs h1 h2 (by simpa [Pd.cnL] using h3) fun j d v hd hv=> ?_⟩;obtain⟨x,hx,rfl⟩:=jc hd;exact jd 6 (h4 j x v hx hv)
noncomputable def fj(X:RunB):Nat→Bool→FuncId→List D→Option D
 |0,_,_,_=>none
 |n+1,false,f,args=>(match X.R.X f with
  |some g=>g (iv X.R.cst X.R.K (fj X n false)) args
  |none=>match X.R.ord f,X.R.P.funcs[f]? with
   |some od,some fn=>bF (X.te (iv X.R.cst X.R.K (fj X n false)) (fj X n true) f) od (X.R.N f) (G1 (X.R.K f)) fn (cnL X.ns args)
   |_,_=>none)
 |n+1,true,f,args=>(match X.Tp f with
  |some g=>g args
  |none=>match X.Q f,X.R.ord f,X.R.P.funcs[f]? with
   |some q,some od,some fn=>(match args[q.1]?,tU q.1 fn&&decide (q.2.2.2.length=q.2.2.1.length) with
    |some (.agg (c::cs)),true=>yg (X.te (iv X.R.cst X.R.K (fj X n false)) (fj X n true) f) od (X.R.N f) q.1 q.2.2.1 q.2.2.2 (X.S f) fn (c::cs) args
    |_,_=>none)
   |_,_,_=>none)
theorem yj{X:RunB}(hm:X.R.P.follows .mixedOrders=true)
  (hX:∀f g,X.R.X f=some g→∀call:FuncId→List D→Option D,(∀k ds r,call k ds=some r→CallOK X.R.P X.R.gl k ds r)→∀ds r,g call ds=some r→CallOK X.R.P X.R.gl f ds r)
  (hC:∀k ds r,X.R.cst k ds=some r→CallOK X.R.P X.R.gl k ds r)
  (hS:∀g cs ys,X.R.sq g cs=some ys→SeqOK X.R.P X.R.gl g cs ys)
  (hM:∀k g,X.R.M k=some g→vd X.R.P X.R.gl k g) (hO:∀k e n,X.R.M k=some (.own e n)→X.R.K k=true∧(∀ds,X.R.cst k ds=none)∧∃g,X.R.X k=some g∧∀call ds len cs,g call ds=some (.slc false len cs)→xu X.R.P X.R.gl k e n ds len cs)
  (hP:∀f od fn,X.R.ord f=some od→X.R.P.funcs[f]?=some fn→jQ X.R.P od fn=true)
  (hE:∀k q,X.Q k=some q→∀vs w,(callFunc k vs).run X.R.P w= .ok (.enter k vs) w)
  (hT:∀k g q,X.Tp k=some g→X.Q k=some q→∀ds cells cells' r,q.1<ds.length→g (ds.set q.1 (.agg cells))=some (.tup [.agg cells',r])→E7 X.R.P X.R.gl k q.1 q.2.1 q.2.2.1 q.2.2.2 ds cells cells' r)
  (hI:∀k i,X.I k=some i→InlOK X.R.P X.R.gl k i):∀(n:Nat),
  (∀(f:FuncId) (ds:List D) (r:D),fj X n false f ds=some r→CallOK X.R.P X.R.gl f ds r)∧
  (∀(f:FuncId) (q:Nat×TypeId×List PK×List PK),X.Q f=some q→∀(ds cells cells':List D) (r:D),q.1<ds.length→fj X n true f (ds.set q.1 (.agg cells))=some (.tup [.agg cells',r])→E7 X.R.P X.R.gl f q.1 q.2.1 q.2.2.1 q.2.2.2 ds cells cells' r)
 |0=>⟨fun _ _ _ h=>(by unfold fj at h;cases h),fun _ _ _ _ _ _ _ _ h=>(by unfold fj at h;cases h)⟩
 |n+1=>by
  obtain⟨ih1,ih2⟩:=yj hm hX hC hS hM hO hP hE hT hI n;have ih:∀k ds r,iv X.R.cst X.R.K (fj X n false) k ds=some r→CallOK X.R.P X.R.gl k ds r:=fun k ds r hk=>by
   unfold iv at hk;split at hk
   ·rename_i x hx;cases hk;exact hC k ds _ hx
   ·split at hk
    ·exact ih1 k ds r hk
    ·exact(ih1 k _ r hk).canon
  have henv:∀f,EnvOK (X.te (iv X.R.cst X.R.K (fj X n false)) (fj X n true) f).E:=fun f=>by
   refine⟨pA ih,hM,fun k e m0 h ds len cs hk=> ?_,fun k i hi=> ?_⟩
   ·obtain⟨o1,o2,g,o3,o4⟩:=hO k e m0 h;have hk:iv X.R.cst X.R.K (fj X n false) k ds=some (.slc false len cs):=hk;unfold iv at hk;rw[o2] at hk;simp only[o1] at hk;cases n with
    |zero=>unfold fj at hk;cases hk
    |succ n=>
     unfold fj at hk;simp only[o3] at hk;exact o4 _ _ _ _ hk
   ·have hi:X.inl (fj X n true) f k=some i:=hi;unfold RunB.inl at hi;split at hi
    ·rename_i q hq;cases hi;exact E8 (hE k q hq) fun ds cells cells' r hp hg=>ih2 k q hq ds cells cells' r hp hg
    ·exact hI k i hi
  have hcst:∀f k ds r,(X.te (iv X.R.cst X.R.K (fj X n false)) (fj X n true) f).cst k ds=some r→(X.te (iv X.R.cst X.R.K (fj X n false)) (fj X n true) f).E.call k ds=some r:=fun f k ds r hk=>by
   simp only[RunB.te] at hk ⊢;unfold iv;simp only[hk]
  refine⟨fun f ds r h=> ?_,fun f q hq ds cells cells' r hp h=> ?_⟩
  ·unfold fj at h;split at h
   ·rename_i g hg;exact hX f g hg _ ih ds r h
   ·split at h
    ·rename_i od fn ho hf;exact CallOK.cnL (eY (Te:=X.te (iv X.R.cst X.R.K (fj X n false)) (fj X n true) f) hm (henv f) (hcst f) rfl hS hf (by cases X.R.K f<;>simp[G1]) (hP f od fn ho hf) h)
    ·cases h
  ·unfold fj at h;split at h
   ·rename_i g hg;exact hT f g q hg hq ds cells cells' r hp h
   ·rw[hq] at h;split at h
    ·rename_i q' od fn hq' ho hf;cases hq';split at h
     ·rename_i c cs ha hk;rw[List.getElem?_set_self hp] at ha;cases ha;simp only[zc4,zc7] at hk;have h0:=AN (Te:=X.te (iv X.R.cst X.R.K (fj X n false)) (fj X n true) f) hm (henv f) (hcst f) rfl hS hf (hP f od fn ho hf) hk.1 hk.2 h;exact h0.turn (by simp) fun j hj=>by rw[List.getElem?_set_ne (Ne.symm hj)]
     ·cases h
    ·cases h
def K3(P:Program)(k:FuncId)(cells:List D):Prop:=∀w:World,Calls P k #[] w fun en w'=>∃c t,en= .returned (.pointer (some ⟨w.heap.size,0,none⟩))∧w'=w.alloc (.cells c t)∧cells.length=c.size∧∀(j:Nat) (d:D) (v:Value),cells[j]?=some d→c[j]?=some v→d.toV=some v
def AO(st:Nat)(cells:List D)(H:List (Nat×Option Ob)):List D→Option (D×List (Nat×Option Ob))
 |[]=>if st<H.length then some (.loc st (bl H st) 0,H.set st (bl H st+1,some (.box cells false))) else none
 |_=>none
def K4(st:Nat)(cells:List D):Inl:=⟨AO st cells,fun H ds c=>match AO st cells H ds with
 |some p=>c p.1 p.2
 |none=> .fail⟩
theorem E9{P:Program}{gl:Nat→Option D}{k:FuncId}{st:Nat}{cells:List D}(hen:∀vs w,(callFunc k vs).run P w= .ok (.enter k vs) w)(h:K3 P k cells):InlOK P gl k (K4 st cells):=by
 refine⟨hen,fun I0 B I A T a w H H' ds vs r hi hgl hB hg hl hr=> ?_,fun lf ef H ds c x hx=> ?_⟩
 ·have hg:AO st cells H ds=some (r,H'):=hg;unfold AO at hg;split at hg
  ·split at hg
   ·rename_i hst;simp only[za0,zb3] at hg;obtain⟨rfl,rfl⟩:=hg;have hv:vs= #[]:=by
     apply Array.eq_empty_of_size_eq_zero;simpa using hl.symm
    subst hv;refine(h w).mono ?_
    rintro en w' ⟨c,t,rfl,rfl,q1,q2⟩
    exact⟨_,rfl,mQ (dst:=some st) (c:=c) (t:=t) hi hB (by unfold ce;simp only[if_pos hst];rfl) q1 fun j d v hd hv=> .clo (ew (q2 j d v hd hv))⟩
   ·cases hg
  ·cases hg
 ·have hx:bv lf ef (match AO st cells H ds with
   |some p=>c p.1 p.2
   |none=> .fail)=some x:=hx
  cases hn:AO st cells H ds with
  |none=>rw[hn] at hx;cases hx
  |some p=>
   rw[hn] at hx;exact⟨p.1,p.2,hn,hx⟩
theorem G2{α:Type}(vs:Array α)(h:3=vs.size):∃a b c,vs= #[a,b,c]:=by
 obtain⟨l⟩:=vs
 match l,h with
 |[a,b,c],_=>exact⟨a,b,c,rfl⟩
end Go.Pd
end
