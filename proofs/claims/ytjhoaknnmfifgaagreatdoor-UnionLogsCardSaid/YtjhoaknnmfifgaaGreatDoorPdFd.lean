import Derived.Test.YtjhoaknnmfifgaaGreatDoorPdFc
import Derived.LoopNIn
import Derived.RangeFuncLeaves
section
namespace Go.Pd
section
variable {E:Env}{T:List D}{H:List (Nat×Option Ob)}{o:Oper}{d:D}{σ':St}
def KM(T:List D)(H:List (Nat×Option Ob))(dst:Option Tmp)(d:D)(σ':St)(ev:List (Nat×Option Ob)→Option (D×St)):Prop:=
 ∃(s:Nat) (ob:Ob) (mk:Nat→Nat→D),dst=some s∧s<H.length∧d=mk s (bl H s)∧σ'=⟨T,H.set s (bl H s+1,some ob)⟩∧
  ∀H2:List (Nat×Option Ob),H2.length=H.length→ev H2=some (mk s (bl H2 s),⟨T,H2.set s (bl H2 s+1,some ob)⟩)
theorem ik{dst:Option Tmp}{ob:Ob}{mk:Nat→Nat→D}(h:ce ⟨T,H⟩ dst ob mk=some (d,σ')):KM T H dst d σ' fun H2=>ce ⟨T,H2⟩ dst ob mk:=by
 unfold ce at h;cases dst with
 |none=>cases h
 |some s=>
  dsimp only at h;split at h
  ·rename_i hs;simp only[za0,zb3] at h;obtain⟨rfl,rfl⟩:=h;refine⟨s,ob,mk,rfl,hs,rfl,rfl,fun H2 hl=> ?_⟩;unfold ce;dsimp only;rw[if_pos (by rw[hl];exact hs)];rfl
  ·cases h
theorem AB(hns:E.calm)(e:TypeId)(n:Nat)(z:D):rH E e n z=none:=by
 unfold rH;rw[hns.1]
theorem vj(hns:E.calm)(hk:kd E.P o= .al)(h:cw E ⟨T,H⟩ o=some (d,σ')):KM T H o.dst d σ' fun H2=>cw E ⟨T,H2⟩ o:=by
 unfold kd at hk;unfold cw at h ⊢;cases ho:o.op<;>simp only[ho,reduceCtorEq] at hk
 case call c=>
  split at hk<;>try cases hk
  split at hk
  ·split at hk<;>cases hk
  ·cases hk
 all_goals simp only[ho,fun H2=>eS E T H H2] at h ⊢
 case alloc t=>
  unfold iF at h ⊢;split at h
  ·rename_i z hz;split at h
   ·rename_i hc;simp only[hc,if_true];split at h<;>first|exact ik h|(rename_i hb;simp only[hb];exact ik h)
   ·cases h
  ·cases h
 case box t x=>
  split at h
  ·rename_i dx hx;simp only[o9] at h ⊢;split at h
   ·rename_i hc;simp only[hc,if_true];exact ik h
   ·cases h
  ·cases h
 case makeMap t r=>
  cases r with
  |none=>exact ik h
  |some r=>cases hk
 case makeSlice t l c=>
  split at h
  ·rename_i dl dc hl hc;unfold dg at h ⊢;split at h
   ·rename_i e k1 l' k2 c' he;split at h
    ·rename_i n b z hn hb hz;split at h
     ·rename_i hc;simp only[hc,if_true,AB hns] at h ⊢;exact ik h
     ·cases h
    ·cases h
   ·cases h
  ·cases h
 case range t x=>
  split at h
  ·rename_i dx hx;unfold iH at h ⊢;split at h
   ·rename_i s hs;exact ik h
   ·cases h
  ·cases h
theorem Dead.freeze{s:Nat}(h:Dead H s)(ss:List Nat):Dead (br H ss) s:=fun g=>by
 rw[ch];split<;>simp[h g]
theorem Dead.set{s s':Nat}(h:Dead H s)(hn:s'≠s)(p:Nat×Option Ob):Dead (H.set s' p) s:=fun g=>by
 obtain⟨n,ob⟩:=p;rw[bO hn];exact h g
theorem Dead.ne{s s' g:Nat}(h:Dead H s){ob:Ob}(hl:bi H s' g=some ob):s'≠s:=fun e=>by
 subst e;rw[h g] at hl;cases hl
theorem lq{σ:St}{s:Nat}{dst:Option Tmp}(hd:Dead σ.H s)(hn:dst≠some s){ob:Ob}{mk:Nat→Nat→D}(h:ce σ dst ob mk=some (d,σ')):Dead σ'.H s:=by
 unfold ce at h;cases dst with
 |none=>cases h
 |some s'=>
  dsimp only at h;split at h
  ·simp only[za0,zb3] at h;obtain⟨rfl,rfl⟩:=h;exact hd.set (fun e=>hn (by rw[e])) _
  ·cases h
theorem rc{σ:St}{s:Nat}{dst:Option Tmp}(hd:Dead σ.H s)(hn:dst≠some s){e:TypeId}{n b m:Nat}{news:List D}{ss:List Nat}{x:D}(h:cK σ dst e n b m news ss x=some (d,σ')):Dead σ'.H s:=by
 unfold cK at h;split at h
 ·split at h
  ·simp only[za0,zb3] at h;obtain⟨rfl,rfl⟩:=h;exact hd.freeze ss
  ·split at h
   ·exact lq (hd.freeze ss) hn h
   ·cases h
 ·split at h
  ·simp only[za0,zb3] at h;obtain⟨rfl,rfl⟩:=h;exact hd.freeze ss
  ·split at h
   ·exact lq (hd.freeze ss) hn h
   ·cases h
 ·split at h
  ·cases h
  ·split at h
   ·rename_i hl;split at h
    ·refine lq ?_ hn h;exact(hd.freeze ss).set (hd.ne hl) _
    ·cases h
   ·cases h
 ·cases h
theorem tz{σ:St}{s:Nat}(hd:Dead σ.H s){t:TypeId}{p x:D}(h:dN E σ t p x=some σ'):Dead σ'.H s:=by
 unfold dN at h;split at h
 ·split at h
  ·cases h
  ·split at h
   ·split at h
    ·rename_i hl;split at h
     ·simp only[za0] at h;subst h;exact hd.set (hd.ne hl) _
     ·cases h
    ·rename_i hl;split at h
     ·split at h
      ·split at h
       ·cases h
       ·simp only[za0] at h;subst h;exact(hd.freeze _).set (hd.ne hl) _
      ·cases h
     ·cases h
    ·cases h
   ·cases h
 ·cases h
theorem il(hns:E.calm){σ:St}{s:Nat}(hd:Dead σ.H s){t:TypeId}{m k x:D}(h:cy E σ t m k x=some σ'):Dead σ'.H s:=by
 unfold cy at h;split at h
 ·split at h
  ·split at h
   ·rename_i hl;split at h
    ·cases h
    ·split at h
     ·cases h
     ·split at h
      ·simp only[za0] at h;subst h;exact(hd.freeze _).set (hd.ne hl) _
      ·simp only[za0] at h;subst h;exact(hd.freeze _).set (hd.ne hl) _
      ·cases h
   ·simp only[hns.1,Bool.false_eq_true,if_false] at h;cases h
   ·cases h
  ·cases h
 ·cases h
theorem vo{σ:St}{s:Nat}(hd:Dead σ.H s){x:D}(h:gR σ x=some (d,σ')):Dead σ'.H s:=by
 unfold gR at h;split at h
 ·split at h
  ·rename_i hl;split at h
   ·simp only[za0,zb3] at h;obtain⟨rfl,rfl⟩:=h;exact hd.set (hd.ne hl) _
   ·simp only[za0,zb3] at h;obtain⟨rfl,rfl⟩:=h;exact hd
  ·cases h
 ·cases h
theorem EG(hns:E.calm)(hst:∀c f g,o.op= .call c→c.callee= .value f→St.val E ⟨T,H⟩ f=some g→gQ E g=none){s:Nat}(hd:Dead H s)(hn:o.dst≠some s)(h:cw E ⟨T,H⟩ o=some (d,σ')):Dead σ'.H s:=by
 cases hk:kd E.P o with
 |pure=>rw[(l9 hk h).1];exact hd
 |rd=>obtain⟨ss,rfl,_⟩:=B6 hns hst hk h;exact hd.freeze ss
 |al=>
  obtain⟨s',ob,mk,hs,_,_,rfl,_⟩:=vj hns hk h;exact hd.set (fun e=>hn (by rw[hs,e])) _
 |ef=>
  unfold kd at hk;unfold cw at h;cases ho:o.op<;>simp only[ho,reduceCtorEq] at hk h
  case store t x y=>
   split at h
   ·simp only[hns.1,Bool.false_and] at h;obtain⟨h1,_⟩:=d5 h;exact tz hd h1
   ·cases h
  case mapUpdate t m k x=>
   split at h
   ·obtain⟨h1,_⟩:=d5 h;exact il hns hd h1
   ·cases h
  case insert t m k x=>
   split at h
   ·obtain⟨h1,_⟩:=d5 h;exact il hns hd h1
   ·cases h
  case next it s=>
   split at h
   ·exact vo hd h
   ·cases h
  case makeMap t r=>cases r<;>simp only[reduceCtorEq] at hk h
  case call c=>
   split at h
   ·rename_i hc;simp only[hc,reduceCtorEq] at hk
   ·split at h
    ·split at h
     ·split at h
      ·unfold dJ at h;split at h
       ·cases h
       ·split at h
        ·split at h
         ·cases h
         ·split at h
          ·exact rc hd hn h
          ·cases h
        ·cases h
      ·cases h
     ·cases h
    ·cases h
   ·split at h
    ·split at h
     ·rw[←(bZ h).2];exact hd
     ·rw[←(bZ h).2];exact hd
     ·rw[←(bZ h).2];exact hd
     ·cases h
    ·cases h
   ·rw[←(bZ h).2];exact hd
   ·rw[←(bZ h).2];exact hd
   ·split at h
    ·split at h
     ·unfold fR at h;split at h
      ·split at h
       ·rename_i hl;split at h
        ·simp only[za0,zb3] at h;obtain⟨rfl,rfl⟩:=h;exact hd
        ·split at h
         ·simp only[za0,zb3] at h;obtain⟨rfl,rfl⟩:=h;exact hd.set (hd.ne hl) _
         ·cases h
       ·cases h
      ·cases h
     ·cases h
    ·cases h
   ·split at h
    ·split at h
     ·unfold iG at h;split at h
      ·split at h
       ·rename_i hl;split at h
        ·split at h
         ·unfold eC at h;split at h
          ·rename_i hl;split at h
           ·simp only[za0,zb3] at h;obtain⟨rfl,rfl⟩:=h;exact hd.set (hd.ne hl) _
           ·cases h
          ·cases h
         ·cases h
        ·split at h
         ·simp only[za0,zb3] at h;obtain⟨rfl,rfl⟩:=h;exact(hd.freeze _).set (hd.ne hl) _
         ·cases h
       ·cases h
      ·cases h
     ·cases h
    ·cases h
   ·cases h
theorem tA(ss ss':List Nat):br (br H ss) ss'=br (br H ss') ss:=by
 apply List.ext_getElem?;intro i;simp only[fC];by_cases h1:i∈ss<;>by_cases h2:i∈ss'<;>simp[h1,h2]
theorem vq{s:Nat}{ss:List Nat}(hs:s∉ss)(p:Nat×Option Ob):br (H.set s p) ss=(br H ss).set s p:=by
 apply List.ext_getElem?;intro i;simp only[fC,List.getElem?_set,dr];by_cases h1:s=i
 ·subst h1;simp[hs]
 ·simp[h1]
def AC:Kd→Kd→Bool
 | .pure,_=>true
 |_,.pure=>true
 | .rd,.rd=>true
 | .rd,.al=>true
 | .al,.al=>true
 |_,_=>false
theorem KN(hns:E.calm){j i:Oper}(hstj:∀c f g,j.op= .call c→c.callee= .value f→(∃H,St.val E ⟨T,H⟩ f=some g)→gQ E g=none)(hsti:∀c f g,i.op= .call c→c.callee= .value f→(∃H,St.val E ⟨T,H⟩ f=some g)→gQ E g=none){dj di:D}{Hj H2:List (Nat×Option Ob)}(hk:AC (kd E.P j) (kd E.P i)=true)(hd:j.dst≠none→j.dst≠i.dst)
  (hdead:kd E.P j= .rd→kd E.P i= .al→∀s,i.dst=some s→Dead H s)
  (hj:cw E ⟨T,H⟩ j=some (dj,⟨T,Hj⟩)) (hi:cw E ⟨T,Hj⟩ i=some (di,⟨T,H2⟩)):
  ∃Hi,cw E ⟨T,H⟩ i=some (di,⟨T,Hi⟩)∧cw E ⟨T,Hi⟩ j=some (dj,⟨T,H2⟩):=by
 by_cases hpj:kd E.P j= .pure
 ·obtain⟨e,hall⟩:=l9 hpj hj;cases e;exact⟨H2,hi,hall H2⟩
 by_cases hpi:kd E.P i= .pure
 ·obtain⟨e,hall⟩:=l9 hpi hi;cases e;exact⟨H,hall H,hj⟩
 cases ej:kd E.P j with
 |pure=>exact absurd ej hpj
 |ef=>cases ei:kd E.P i<;>simp[ej,ei,AC] at hk hpi
 |rd=>
  obtain⟨sj,e1,lj,aj⟩:=B6 hns (fun c f g h1 h2 h3=>hstj c f g h1 h2 ⟨_,h3⟩) ej hj;cases e1;cases ei:kd E.P i with
  |pure=>exact absurd ei hpi
  |ef=>simp[ej,ei,AC] at hk
  |rd=>
   obtain⟨si,e2,li,ai⟩:=B6 hns (fun c f g h1 h2 h3=>hsti c f g h1 h2 ⟨_,h3⟩) ei hi;cases e2;refine⟨br H si,ai H (Has.thaw H sj),?_⟩;rw[aj _ (Has.freeze H si),tA]
  |al=>
   obtain⟨s,ob,mk,hs,hlt,rfl,e2,hall⟩:=vj hns ei hi;cases e2;dsimp only at hall;have hD:=hdead ej ei s hs;refine⟨H.set s (bl H s+1,some ob),?_,?_⟩
   ·rw[hall H (by rw[dr]),genH_freeze]
   ·rw[aj _ (Has.new hD _ _),vq (fun hm=> ?_),genH_freeze];obtain⟨g,o,hl⟩:=lj s hm;rw[hD g] at hl;cases hl
 |al=>
  obtain⟨s,ob,mk,hs,hlt,rfl,e1,hall⟩:=vj hns ej hj;cases e1;cases ei:kd E.P i with
  |pure=>exact absurd ei hpi
  |ef=>simp[ej,ei,AC] at hk
  |rd=>simp[ej,ei,AC] at hk
  |al=>
   obtain⟨s2,ob2,mk2,hs2,hlt2,rfl,e2,hall2⟩:=vj hns ei hi;cases e2;dsimp only at hall hall2;have hne:s≠s2:=fun e=>hd (by rw[hs];simp) (by rw[hs,hs2,e]);refine⟨H.set s2 (bl H s2+1,some ob2),?_,?_⟩
   ·rw[hall2 H (by simp),cq hne]
   ·rw[hall _ (by simp),cq (Ne.symm hne),cq hne,List.set_comm _ _ hne]
end
def dW(H:List (Nat×Option Ob)):List (Nat×(Nat×Option Ob))→List (Nat×Option Ob)
 |[]=>H
 |u::us=>dW (H.set u.1 u.2) us
theorem pE:∀(us:List (Nat×(Nat×Option Ob))) (H:List (Nat×Option Ob)),(dW H us).length=H.length
 |[],_=>rfl
 |u::us,H=>by rw[dW,pE us,List.length_set]
theorem ma:∀(us:List (Nat×(Nat×Option Ob))) (H:List (Nat×Option Ob)) {a:Nat},(∀u∈us,u.1≠a)→(dW H us)[a]?=H[a]?
 |[],_,_,_=>rfl
 |u::us,H,a,h=>by
  rw[dW,ma us _ fun v hv=>h v (za5 _ hv),List.getElem?_set,if_neg (h u (za4 ..))]
theorem vr:∀(us:List (Nat×(Nat×Option Ob))) (H:List (Nat×Option Ob)) {a:Nat} (e:Nat×Option Ob),(∀u∈us,u.1≠a)→dW (H.set a e) us=(dW H us).set a e
 |[],_,_,_,_=>rfl
 |u::us,H,a,e,h=>by
  rw[dW,dW,List.set_comm _ _ (fun e=>h u (za4 ..) e.symm),vr us _ e fun v hv=>h v (za5 _ hv)]
theorem rX:∀(us vs:List (Nat×(Nat×Option Ob))) (H:List (Nat×Option Ob)),(∀u∈us,∀v∈vs,u.1≠v.1)→dW (dW H us) vs=dW (dW H vs) us
 |[],_,_,_=>rfl
 |u::us,vs,H,h=>by
  rw[dW,dW,rX us vs _ fun u' hu=>h u' (za5 _ hu),vr vs _ _ fun v hv e=>h u (za4 ..) v hv e.symm]
section
variable {E:Env}{T:List D}{H:List (Nat×Option Ob)}{o:Oper}{d:D}
def AD(P:Program)(fs:List (Nat×Nat))(o:Oper):Option (List Nat×List Nat):=match o.op with
 | .load _ (.tmp q)=>(match fs.lookup q with
  |some s0=>some ([s0],[])
  |none=>some ([],[]))
 | .store _ (.tmp p) _=>(match fs.lookup p with
  |some s0=>some ([s0],[s0])
  |none=>none)
 | .mapUpdate _ (.tmp p) _ _=>(match fs.lookup p with
  |some s0=>some ([s0],[s0])
  |none=>none)
 | .call c=>(match c.callee,c.args.toList,o.dst with
  | .builtin .append,[.tmp q,_],some p=>(match fs.lookup q with
   |some s0=>if fs.any (fun e=>e.2==p) then some ([s0,p],[s0,p]) else none
   |none=>none)
  | .value _,_,some p=>if fs.lookup p==some p then some ([p],[p]) else none
  |_,_,_=>(match kd P o with
   | .pure=>if fs.isEmpty then none else some ([],[])
   |_=>none))
 | .buildSlice _ _ _=>if fs.isEmpty then none else some ([],[])
 | .slice _ _ _ _ _=>(match o.dst with
  |some p=>if(fs.lookup p).isSome then some ([],[]) else none
  |none=>none)
 |_=>match kd P o,o.dst with
  | .al,some p=>if fs.any (fun e=>e.2==p) then some ([p],[p]) else none
  | .pure,_=>if fs.isEmpty then none else some ([],[])
  |_,_=>none
def B7(P:Program)(fs:List (Nat×Nat))(j i:Oper):Bool:=match AD P fs j,AD P fs i with
 |some (rj,wj),some (ri,wi)=>wj.all (fun a=> !ri.contains a&& !wi.contains a)&&wi.all (fun a=> !rj.contains a)
 |_,_=>false
def KO(E:Env)(T:List D)(H:List (Nat×Option Ob))(o:Oper)(d:D)(R:Nat→Prop)(us:List (Nat×(Nat×Option Ob))):Prop:=
 ∀H2:List (Nat×Option Ob),H2.length=H.length→(∀a,R a→H2[a]?=H[a]?)→cw E ⟨T,H2⟩ o=some (d,⟨T,dW H2 us⟩)
theorem gm{H H2:List (Nat×Option Ob)}{s:Nat}(h:H2[s]?=H[s]?)(g:Nat):bi H2 s g=bi H s g:=by unfold bi;rw[h]
theorem ft{H H2:List (Nat×Option Ob)}{s:Nat}(h:H2[s]?=H[s]?):bl H2 s=bl H s:=by unfold bl;rw[h]
theorem rY{H:List (Nat×Option Ob)}{l ds:List D}(h:cA (bJ [] depth) l=some (ds,[])):cA (bJ H depth) l=some (ds,[]):=
 ij (fun d r=>d6 (H:=[]) (fun s g o hl=>by unfold bi at hl;simp at hl) depth d r) l _ h
theorem iO{fs:List (Nat×Nat)}{q s:Nat}(h:fs.lookup q=some s):∃e∈fs,e.2=s:=by
 induction fs with
 |nil=>cases h
 |cons e fs ih=>
  obtain⟨a,b⟩:=e;simp only[List.lookup] at h;split at h
  ·cases h;exact⟨_,za4 ..,rfl⟩
  ·obtain⟨e,h1,h2⟩:=ih h;exact⟨e,za5 _ h1,h2⟩
theorem y4{fs:List (Nat×Nat)}{p:Nat}(h:fs.any (fun e=>e.2==p)=true):∃e∈fs,e.2=p:=by
 simp only[List.any_eq_true,ze4] at h;exact h
theorem gb{d:D}(h:ib d=true):∃d',∀H,bJ H depth d=some (d',[]):=by
 unfold ib at h;split at h
 ·rename_i d' hd;exact⟨d',fun H=>d6 (H:=[]) (fun s g o hl=>by unfold bi at hl;simp at hl) depth d _ hd⟩
 ·cases h
theorem kW:∀{l:List (Nat×D)},l.all (fun e=>ib e.2)=true→∃l',∀H,dz H l=some (l',[])
 |[],_=>⟨[],fun _=>rfl⟩
 |(i,d)::l,h=>by
  simp only[List.all_cons,zc4] at h;obtain⟨d',hd⟩:=gb h.1;obtain⟨l',hl⟩:=kW h.2;exact⟨(i,d')::l',fun H=>by simp only[dz,hd H,hl H,zb6]⟩
theorem y5:∀{l:List D},l.all ib=true→∃l',∀H,cA (bJ H depth) l=some (l',[])
 |[],_=>⟨[],fun _=>rfl⟩
 |d::l,h=>by
  simp only[List.all_cons,zc4] at h;obtain⟨d',hd⟩:=gb h.1;obtain⟨l',hl⟩:=y5 h.2;exact⟨d'::l',fun H=>by simp only[cA,hd H,hl H,zb6]⟩
theorem rZ{H:List (Nat×Option Ob)}{s p:Nat}{ob:Option Ob}:bl (H.set s (bl H s,ob)) p=bl H p:=by
 by_cases e:s=p
 ·subst e;unfold bl;rw[List.getElem?_set];by_cases hs:s<H.length
  ·simp[hs]
  ·simp[hs]
 ·exact cq e
theorem B8{y:D}(h:ib y=true):gx y=none:=by
 obtain⟨y',hy⟩:=gb h;have:=hy [];unfold depth at this;cases y<;>first|rfl|(simp[bJ,bi] at this)
theorem xB{H':List (Nat×Option Ob)}{t:TypeId}{y:D}{l hh:Option D}(hc:ib y=true)(h:dn E ⟨T,H⟩ t y l hh=some (d,⟨T,H'⟩)):H'=H∧∀H2,dn E ⟨T,H2⟩ t y l hh=some (d,⟨T,H2⟩):=by
 obtain⟨y',hy⟩:=gb hc;have hw:=B8 hc;unfold dn at h ⊢;split at h
 ·rename_i he;split at h
  ·rename_i d' hA;simp only[za0,zb3,St.mk.injEq,true_and] at h;obtain⟨rfl,rfl⟩:=h;exact⟨rfl,fun _=>rfl⟩
  ·exfalso;unfold eN at h;split at h
   ·have:=hy [];unfold depth at this;simp[bJ,bi] at this
   ·cases h
 ·rename_i e he;simp only[hw,hy] at h ⊢;split at h
  ·rename_i n full len cs ss hn hsn;simp only[za0,zb3] at hsn;obtain⟨rfl,rfl⟩:=hsn;split at h
   ·rename_i l' h' hl hh';split at h
    ·rename_i hcc;simp only[za0,zb3,St.freeze,br,St.mk.injEq,true_and] at h;obtain⟨rfl,rfl⟩:=h;exact⟨rfl,fun H2=>by simp only[if_pos hcc,St.freeze,br]⟩
    ·cases h
   ·cases h
  ·rename_i n ss hn hsn;simp only[za0,zb3] at hsn;obtain⟨rfl,rfl⟩:=hsn;split at h
   ·rename_i l' h' hl hh';split at h
    ·rename_i hcc;simp only[za0,zb3,St.mk.injEq,true_and] at h;obtain⟨rfl,rfl⟩:=h;exact⟨rfl,fun H2=>by simp only[if_pos hcc]⟩
    ·cases h
   ·cases h
  ·cases h
theorem xC(hns:E.calm){fs:List (Nat×Nat)}{rs ws:List Nat}{H':List (Nat×Option Ob)}(hs:AD E.P fs o=some (rs,ws))(hc:fS E fs T o=true)(h:cw E ⟨T,H⟩ o=some (d,⟨T,H'⟩)):
  ∃R us,H'=dW H us∧(∀u∈us,u.1∈ws)∧(∀a,R a→(∃e∈fs,e.2=a)→a∈rs)∧(∀a∈ws,∃e∈fs,e.2=a)∧KO E T H o d R us:=by
 unfold AD at hs;split at hs
 ·rename_i t q ho;have ev:∀H2,cw E ⟨T,H2⟩ o=match T[q]? with|some a=>ep ⟨T,H2⟩ (dT E ⟨T,H2⟩ t a)|none=>none:=fun H2=>by
   unfold cw;rw[ho];simp only[hns.1,Bool.false_and];rfl
  rw[ev] at h;unfold fS at hc;rw[ho] at hc;dsimp only at hc;have hw:ws=[]:=by split at hs<;>(simp only[za0,zb3] at hs;exact hs.2.symm)
  subst hw;cases hq:T[q]? with
  |none=>rw[hq] at h;cases h
  |some a=>
   rw[hq] at h hc;dsimp only at h;obtain⟨h1,h2⟩:=bZ h;simp only[St.mk.injEq,true_and] at h2;subst h2;refine⟨fun s=>∃g off,a= .loc s g off,[],rfl,by simp,?_,by simp,fun H2 hl hR=> ?_⟩
   ·rintro s ⟨g,off,rfl⟩ ⟨e,he,rfl⟩
    dsimp only at hc;split at hc
    ·rename_i s0 hq';rw[hq'] at hs;simp only[za0,zb3] at hs;rw[←hs.1];simpa using hc
    ·exfalso;have:=zd7.1 hc e he;simp at this
   ·rw[ev,hq];dsimp only[dW];have:dT E ⟨T,H2⟩ t a=dT E ⟨T,H⟩ t a:=by
     unfold dT;have:fq H2 a=fq H a:=by
      unfold fq;cases a with
      |loc s g off=>dsimp only;rw[gm (hR s ⟨g,off,rfl⟩)]
      |_=>rfl
     rw[this]
    rw[this,h1];rfl
 ·rename_i t p x ho;split at hs
  ·rename_i s0 hp;simp only[za0,zb3] at hs;obtain⟨rfl,rfl⟩:=hs;have ev:∀H2,cw E ⟨T,H2⟩ o=match T[p]?,St.val E ⟨T,H⟩ x with|some a,some y=>unit (dN E ⟨T,H2⟩ t a y)|_,_=>none:=fun H2=>by
    unfold cw;rw[ho];simp only[hns.1,Bool.false_and];rw[eS E T H H2];rfl
   rw[ev] at h;unfold fS at hc;rw[ho] at hc;simp only[hp] at hc;rw[eS E T H []] at hc;split at hc
   ·rename_i s g off y hT hy;rw[hT,hy] at h;dsimp only at h;simp only[zc4,ze4] at hc;obtain⟨rfl,hc⟩:=hc;obtain⟨ds,hsn⟩:∃ds,cA (bJ [] depth) y.cells=some (ds,[]):=by
     split at hc
     ·rename_i ds hh;exact⟨ds,hh⟩
     ·cases hc
    obtain⟨h1,rfl⟩:=d5 h;have key:∃ob,H'=H.set s (bl H s,some ob)∧∀H2:List (Nat×Option Ob),H2[s]?=H[s]?→dN E ⟨T,H2⟩ t (.loc s g off) y=some ⟨T,H2.set s (bl H s,some ob)⟩:=by
     unfold dN at h1 ⊢;dsimp only at h1 ⊢;split at h1
     ·cases h1
     ·rename_i n hn;split at h1
      ·rename_i hl;split at h1
       ·rename_i cs hlv;split at h1
        ·rename_i hcc;simp only[za0,St.setOb,St.mk.injEq,true_and] at h1;refine⟨_,h1.symm,fun H2 hR=> ?_⟩;simp only[if_pos hl,gm hR,hlv,if_pos hcc,St.setOb,ft hR]
        ·cases h1
       ·rename_i e m cs hlv;split at h1
        ·rename_i hcc;simp only[rY hsn] at h1;split at h1
         ·cases h1
         ·rename_i hss;simp only[za0,St.setOb,St.freeze,br,St.mk.injEq,true_and] at h1;refine⟨_,h1.symm,fun H2 hR=> ?_⟩;simp only[if_pos hl,gm hR,hlv,if_pos hcc,rY hsn,if_neg hss,St.setOb,St.freeze,br,ft hR]
        ·cases h1
       ·cases h1
      ·cases h1
    obtain⟨ob,rfl,hall⟩:=key;refine⟨fun a=>a=s,[(s,(bl H s,some ob))],rfl,by simp,fun a ha _=>by simp[ha],fun a ha=> ?_,fun H2 hl hR=> ?_⟩
    ·simp only[zd1] at ha;subst ha;exact iO hp
    ·rw[ev,hT,hy];dsimp only;rw[hall H2 (hR s rfl)];rfl
   ·cases hc
  ·cases hs
 ·rename_i t p k x ho;split at hs
  ·rename_i s0 hp;simp only[za0,zb3] at hs;obtain⟨rfl,rfl⟩:=hs;have ev:∀H2,cw E ⟨T,H2⟩ o=match T[p]?,St.val E ⟨T,H⟩ k,St.val E ⟨T,H⟩ x with|some a,some b,some y=>unit (cy E ⟨T,H2⟩ t a b y)|_,_,_=>none:=fun H2=>by
    unfold cw;rw[ho];dsimp only;rw[eS E T H H2,eS E T H H2];rfl
   rw[ev] at h;unfold fS at hc;rw[ho] at hc;simp only[hp] at hc;rw[eS E T H []] at hc;split at hc
   ·rename_i s g y hT hy;cases hk:St.val E ⟨T,H⟩ k with
    |none=>rw[hT,hy,hk] at h;cases h
    |some kd=>
    rw[hT,hy,hk] at h;dsimp only at h;simp only[zc4,ze4] at hc;obtain⟨rfl,hc⟩:=hc;obtain⟨y',hsn⟩:=gb hc;obtain⟨h1,rfl⟩:=d5 h;have key:∃ob,H'=H.set s (bl H s,some ob)∧∀H2:List (Nat×Option Ob),H2[s]?=H[s]?→cy E ⟨T,H2⟩ t (.mloc s g) kd y=some ⟨T,H2.set s (bl H s,some ob)⟩:=by
     unfold cy at h1 ⊢;dsimp only at h1 ⊢;split at h1
     ·rename_i kt et s' g' hm he;cases he;split at h1
      ·rename_i hkk;split at h1
       ·rename_i ks vs hlv;simp only[hsn] at h1;split at h1
        ·cases h1
        ·rename_i hss;split at h1
         ·rename_i i hf;simp only[za0,St.setOb,St.freeze,br,St.mk.injEq,true_and] at h1;refine⟨_,h1.symm,fun H2 hR=> ?_⟩;simp only[if_pos hkk,gm hR,hlv,hsn,if_neg hss,hf,St.setOb,St.freeze,br,ft hR]
         ·rename_i hf;simp only[za0,St.setOb,St.freeze,br,St.mk.injEq,true_and] at h1;refine⟨_,h1.symm,fun H2 hR=> ?_⟩;simp only[if_pos hkk,gm hR,hlv,hsn,if_neg hss,hf,St.setOb,St.freeze,br,ft hR]
         ·cases h1
       ·simp only[hns.1,Bool.false_eq_true,if_false] at h1;cases h1
       ·cases h1
      ·cases h1
     ·cases h1
    obtain⟨ob,rfl,hall⟩:=key;refine⟨fun a=>a=s,[(s,(bl H s,some ob))],rfl,by simp,fun a ha _=>by simp[ha],fun a ha=> ?_,fun H2 hl hR=> ?_⟩
    ·simp only[zd1] at ha;subst ha;exact iO hp
    ·rw[ev,hT,hy,hk];dsimp only;rw[hall H2 (hR s rfl)];rfl
   ·cases hc
  ·cases hs
 ·rename_i c ho;split at hs
  ·rename_i q x p hcal hargs hd;split at hs
   ·rename_i s0 hq;split at hs
    ·rename_i hp;simp only[za0,zb3] at hs;obtain⟨rfl,rfl⟩:=hs;unfold fS at hc;rw[ho] at hc;simp only[hcal,hargs,hq] at hc;rw[eS E T H []] at hc;have ev:∀H2,cw E ⟨T,H2⟩ o=match c.argTypes.toList with|[t,u]=>(match T[q]?,St.val E ⟨T,H⟩ x with|some a,some b=>if t=u then dJ E ⟨T,H2⟩ o.dst t a b else none|_,_=>none)|_=>none:=fun H2=>by
      unfold cw;rw[ho];simp only[hcal,hargs];generalize c.argTypes.toList=L;rcases L with _|⟨t,_|⟨u,_|⟨v,L⟩⟩⟩
      ·rfl
      ·rfl
      ·dsimp only;rw[eS E T H H2 x];rfl
      ·rfl
     rw[ev] at h;split at h
     ·rename_i t u htu;split at h
      ·rename_i a b hT hb;split at h
       ·rename_i etu;rw[hT,hb] at hc;have hsh:ib b=true:=by
         cases a<;>simp only[zc4] at hc<;>first|exact hc.2|exact hc
        have how:∀s g l,a= .own s g l→s=s0:=fun s g l e=>by
         subst e;simp only[zc4,ze4] at hc;exact hc.1
        obtain⟨b',hbs⟩:=gb hsh;rw[hd] at h;refine⟨fun a=>a=s0∨a=p,?_⟩;have mem:∀a∈[s0,p],∃e∈fs,e.2=a:=fun a ha=>by
         simp only[List.mem_cons,List.not_mem_nil,or_false] at ha;rcases ha with rfl|rfl
         ·exact iO hq
         ·exact y4 hp
        suffices hk:∃us,H'=dW H us∧(∀u∈us,u.1∈[s0,p])∧∀H2:List (Nat×Option Ob),H2.length=H.length→(∀a,a=s0∨a=p→H2[a]?=H[a]?)→dJ E ⟨T,H2⟩ (some p) t a b=some (d,⟨T,dW H2 us⟩) by
         obtain⟨us,k1,k2,k3⟩:=hk;refine⟨us,k1,k2,fun a ha _=>by simpa using ha,mem,fun H2 hl hR=> ?_⟩;rw[ev,htu];simp only[hT,hb,etu,if_true,hd];rw[←etu];exact k3 H2 hl hR
        unfold dJ at h ⊢;split at h
        ·cases h
        ·rename_i e he;split at h
         ·rename_i n by_ z x' ss hn hby hz hsn;dsimp only at hsn;rw[hbs] at hsn;simp only[za0,zb3] at hsn;obtain⟨rfl,rfl⟩:=hsn;split at h
          ·cases h
          ·rename_i m news hnw;split at h
           ·rename_i hcc
            suffices hk:∃us,H'=dW H us∧(∀u∈us,u.1∈[s0,p])∧∀H2:List (Nat×Option Ob),H2.length=H.length→(∀a,a=s0∨a=p→H2[a]?=H[a]?)→cK ⟨T,H2⟩ (some p) e n by_ m news [] a=some (d,⟨T,dW H2 us⟩) by
             obtain⟨us,k1,k2,k3⟩:=hk;refine⟨us,k1,k2,fun H2 hl hR=> ?_⟩;simp only[hn,hby,hz,hbs H2,hnw,if_pos hcc];exact k3 H2 hl hR
            have new:∀(ob:Ob) (mk:Nat→Nat→D),ce ⟨T,H⟩ (some p) ob mk=some (d,⟨T,H'⟩)→∃us,H'=dW H us∧(∀u∈us,u.1∈[s0,p])∧∀H2:List (Nat×Option Ob),H2.length=H.length→(∀a,a=s0∨a=p→H2[a]?=H[a]?)→ce ⟨T,H2⟩ (some p) ob mk=some (d,⟨T,dW H2 us⟩):=fun ob mk h=>by
             unfold ce at h ⊢;dsimp only at h ⊢;split at h
             ·rename_i hlt;simp only[za0,zb3,St.newOb,St.mk.injEq,true_and] at h;obtain⟨rfl,rfl⟩:=h;refine⟨[(p,(bl H p+1,some ob))],rfl,by simp,fun H2 hl hR=> ?_⟩;simp only[hl,hlt,if_true,St.newOb,ft (hR p (.inr rfl)),dW]
             ·cases h
            unfold cK at h ⊢;split at h
            ·split at h
             ·rename_i hm;simp only[za0,zb3,St.freeze,br,St.mk.injEq,true_and] at h;obtain⟨rfl,rfl⟩:=h;exact⟨[],rfl,by simp,fun H2 _ _=>by simp only[hm,if_true,St.freeze,br,dW]⟩
             ·rename_i hm;split at h
              ·rename_i hc2;obtain⟨us,k1,k2,k3⟩:=new _ _ h;exact⟨us,k1,k2,fun H2 hl hR=>by simp only[if_neg hm,if_pos hc2];exact k3 H2 hl hR⟩
              ·cases h
            ·split at h
             ·rename_i hm;simp only[za0,zb3,St.freeze,br,St.mk.injEq,true_and] at h;obtain⟨rfl,rfl⟩:=h;exact⟨[],rfl,by simp,fun H2 _ _=>by simp only[hm,if_true,St.freeze,br,dW]⟩
             ·rename_i hm;split at h
              ·rename_i hc2;obtain⟨us,k1,k2,k3⟩:=new _ _ h;exact⟨us,k1,k2,fun H2 hl hR=>by simp only[if_neg hm,if_pos hc2];exact k3 H2 hl hR⟩
              ·cases h
            ·rename_i s1 g1 k;obtain rfl:=how _ _ _ rfl;split at h
             ·cases h
             ·rename_i hct;split at h
              ·rename_i e' n' olds hlv;split at h
               ·rename_i hc2;unfold ce at h;dsimp only at h;split at h
                ·rename_i hlt;simp only[za0,zb3,St.newOb,St.setOb,St.freeze,br,St.mk.injEq,true_and,rZ] at h;obtain⟨rfl,rfl⟩:=h;refine⟨[(s1,(bl H s1,none)),(p,(bl H p+1,some (.arr e n (olds++news) false)))],rfl,by simp,fun H2 hl hR=> ?_⟩;have hlv2:bi H2 s1 g1=some (.arr e' n' olds false):=by rw[gm (hR s1 (.inl rfl))];exact hlv
                 have hlt2:p<(H2.set s1 (bl H s1,none)).length:=by
                  simp only[St.setOb,St.freeze,br,List.length_set] at hlt ⊢;rw[hl];exact hlt
                 simp only[if_neg hct,hlv2,if_pos hc2,ce,St.setOb,St.freeze,br,ft (hR s1 (.inl rfl)),hlt2,if_true,St.newOb,dW];have hg:bl (H2.set s1 (bl H s1,none)) p=bl H p:=by
                  rw[←ft (hR s1 (.inl rfl)),rZ,ft (hR p (.inr rfl))]
                 rw[hg]
                ·cases h
               ·cases h
              ·cases h
            ·cases h
           ·cases h
         ·cases h
       ·cases h
      ·cases h
     ·cases h
    ·cases hs
   ·cases hs
  ·rename_i f p hcal hd;split at hs
   ·rename_i hp;simp only[za0,zb3] at hs;obtain⟨rfl,rfl⟩:=hs;have hp:fs.lookup p=some p:=by simpa using hp
    have hne:fs.isEmpty=false:=by
     cases fs with
     |nil=>cases hp
     |cons=>rfl
    unfold fS at hc;rw[ho] at hc;simp only[hcal,hne,Bool.false_or,hd] at hc;rw[eS E T H [],lZ E T H []] at hc;have ev:∀H2,cw E ⟨T,H2⟩ o=match St.val E ⟨T,H⟩ f,fa E ⟨T,H⟩ c.args.toList with
     |some g,some as=>(match kT E g with
      |some en=>jF E ⟨T,H2⟩ o.dst en.1 en.2 g as
      |none=>(match ph E g as with
       |some m=>jG ⟨T,H2⟩ o.dst m as
       |none=>fc E ⟨T,H2⟩ g as))
     |_,_=>none:=fun H2=>by
     unfold cw;rw[ho];simp only[hcal,rW hns];rw[eS E T H H2,lZ E T H H2];rfl
    rw[ev] at h;split at h
    ·rename_i g as hg has;simp only[hg,has] at hc;split at hc
     ·rename_i p' hen hp';cases hp';rw[hp] at hc;cases hc
     ·rename_i h1 h2;cases h2
     ·rename_i en p' hen hp';cases hp';simp only[hp,ze3,Bool.true_and] at hc;obtain⟨e,n⟩:=en;simp only[hen] at h;obtain⟨k,hgk⟩:∃k,g= .fn (.func k) [] []:=by
       unfold kT gQ at hen;split at hen
       ·rename_i hh;split at hh
        ·exact⟨_,rfl⟩
        ·cases hh
       ·cases hen
      subst hgk;obtain⟨ds,hds⟩:=y5 (l:=as) hc;rw[hd] at h
      suffices hk:∃us,H'=dW H us∧(∀u∈us,u.1=p)∧∀H2:List (Nat×Option Ob),H2.length=H.length→H2[p]?=H[p]?→jF E ⟨T,H2⟩ (some p) e n (.fn (.func k) [] []) as=some (d,⟨T,dW H2 us⟩) by
       obtain⟨us,k1,k2,k3⟩:=hk;refine⟨fun a=>a=p,us,k1,fun u hu=>by simp[k2 u hu],fun a ha _=>by simp[ha],fun a ha=> ?_,fun H2 hl hR=> ?_⟩
       ·simp only[zd1] at ha;subst ha;exact iO hp
       ·rw[ev];simp only[hg,has,hen,hd];exact k3 H2 hl (hR p rfl)
      have hsn:∀H2,cA (bJ H2 depth) ([]++as++[])=some (ds,[]):=fun H2=>by rw[zb7,zb6];exact hds H2
      have hres:∀H2,jE E ⟨T,H2⟩ (.fn (.func k) [] []) as=jE E ⟨T,H⟩ (.fn (.func k) [] []) as:=fun H2=>by
       unfold jE;simp only[hsn]
      unfold jF at h ⊢;simp only[hres];split at h
      ·split at h
       ·rename_i hcc;unfold ce at h;dsimp only at h;split at h
        ·rename_i hlt;simp only[za0,zb3,St.newOb,St.mk.injEq,true_and] at h;obtain⟨rfl,rfl⟩:=h;refine⟨[(p,(bl H p+1,some _))],rfl,by simp,fun H2 hl hR=> ?_⟩;simp only[if_pos hcc,ce,hl,hlt,if_true,St.newOb,ft hR,dW]
        ·cases h
       ·cases h
      ·unfold fc at h ⊢;simp only[hsn] at h ⊢;split at h
       ·cases h
       ·rename_i r hr;simp only[za0,zb3,St.freeze,br,ite_self,St.mk.injEq,true_and] at h;obtain⟨rfl,rfl⟩:=h;exact⟨[],rfl,by simp,fun H2 _ _=>by simp only[St.freeze,br,ite_self,dW]⟩
     ·rename_i h1 h2;cases h2
    ·cases h
   ·cases hs
  ·split at hs
   ·rename_i hk;split at hs
    ·cases hs
    ·simp only[za0,zb3] at hs;obtain⟨rfl,rfl⟩:=hs;obtain⟨e,hall⟩:=l9 hk h;simp only[St.mk.injEq,true_and] at e;subst e;exact⟨fun _=>False,[],rfl,by simp,by simp,by simp,fun H2 _ _=>hall H2⟩
   ·cases hs
 ·rename_i t n ps ho;split at hs
  ·cases hs
  ·rename_i hne;simp only[za0,zb3] at hs;obtain⟨rfl,rfl⟩:=hs;unfold fS at hc;rw[ho] at hc;simp only[hne,Bool.false_or] at hc;have ev:∀H2,cw E ⟨T,H2⟩ o=match eM E ⟨T,[]⟩ ps.toList with|some l=>cQ E ⟨T,H2⟩ t n l|none=>none:=fun H2=>by
    unfold cw;rw[ho];dsimp only;rw[l8 E T [] H2];rfl
   rw[ev] at h;split at h
   ·rename_i l hl;rw[hl] at hc;obtain⟨l',hsn⟩:=kW hc
    suffices hk:H'=H∧∀H2,cQ E ⟨T,H2⟩ t n l=some (d,⟨T,H2⟩) by
     obtain⟨rfl,k2⟩:=hk;exact⟨fun _=>False,[],rfl,by simp,by simp,by simp,fun H2 _ _=>by rw[ev,hl];exact k2 H2⟩
    unfold cQ at h ⊢;split at h
    ·cases h
    ·rename_i e he;split at h
     ·rename_i n' z ps' ss hn hz hsp;dsimp only at hsp;rw[hsn] at hsp;simp only[za0,zb3] at hsp;obtain⟨rfl,rfl⟩:=hsp;split at h
      ·rename_i hcc;split at h
       ·rename_i cs hf;simp only[za0,zb3,St.freeze,br,St.mk.injEq,true_and] at h;obtain⟨rfl,rfl⟩:=h;exact⟨rfl,fun H2=>by simp only[hn,hz,hsn H2,if_pos hcc,hf,St.freeze,br]⟩
       ·cases h
      ·cases h
     ·cases h
   ·cases h
 ·rename_i t x lo hi mx ho;split at hs
  ·rename_i p hd;split at hs
   ·rename_i hp;simp only[za0,zb3] at hs;obtain⟨rfl,rfl⟩:=hs;unfold fS at hc;rw[ho] at hc;simp only[hd] at hc;rw[show(fs.lookup p).isNone=false by cases hh:fs.lookup p<;>simp[hh] at hp ⊢,Bool.false_or,eS E T H []] at hc;have ev:∀H2,cw E ⟨T,H2⟩ o=match St.val E ⟨T,H⟩ x with
     |some (.str _)=>ep ⟨T,H2⟩ (dD E ⟨T,H⟩ o)
     |some d=>(match(generalizing:=false) mx,dA E ⟨T,H⟩ lo,dA E ⟨T,H⟩ hi with
      |none,some l,some h=>dn E ⟨T,H2⟩ t d l h
      |_,_,_=>none)
     |none=>none:=fun H2=>by
     unfold cw;simp only[ho];rw[eS E T H H2,pD E T H H2,pD E T H H2,mU E T H H2];rfl
    suffices hk:H'=H∧∀H2,cw E ⟨T,H2⟩ o=some (d,⟨T,H2⟩) by
     obtain⟨rfl,k2⟩:=hk;exact⟨fun _=>False,[],rfl,by simp,by simp,by simp,fun H2 _ _=>k2 H2⟩
    rw[ev] at h;split at h
    ·rename_i b hx;obtain⟨e,hall⟩:=db h;simp only[St.mk.injEq,true_and] at e;exact⟨e,fun H2=>by rw[ev,hx];exact hall H2⟩
    ·rename_i y hns hx;split at h
     ·rename_i l hh hl hhi;rw[hx] at hc;obtain⟨k1,k2⟩:=xB hc h;refine⟨k1,fun H2=> ?_⟩;rw[ev,hx];rw[hl,hhi];split
      ·rename_i b hb;exact(hns b (Option.some.inj hb)).elim
      ·rename_i d' _ hd';cases hd';exact k2 H2
      ·rename_i hn;cases hn
     ·cases h
    ·cases h
   ·cases hs
  ·cases hs
 ·split at hs
  ·rename_i p hk hd;split at hs
   ·rename_i hp;simp only[za0,zb3] at hs;obtain⟨rfl,rfl⟩:=hs;obtain⟨s,ob,mk,hs',hlt,rfl,e,hall⟩:=vj hns hk h;rw[hd] at hs';cases hs';simp only[St.mk.injEq,true_and] at e;subst e;refine⟨fun a=>a=p,[(p,(bl H p+1,some ob))],rfl,by simp,fun a ha _=>by simp[ha],fun a ha=> ?_,fun H2 hl hR=> ?_⟩
    ·simp only[zd1] at ha;subst ha;exact y4 hp
    ·have:=hall H2 hl;dsimp only at this;rw[this,ft (hR p rfl)];rfl
   ·cases hs
  ·rename_i hk;split at hs
   ·cases hs
   ·simp only[za0,zb3] at hs;obtain⟨rfl,rfl⟩:=hs;obtain⟨e,hall⟩:=l9 hk h;simp only[St.mk.injEq,true_and] at e;subst e;exact⟨fun _=>False,[],rfl,by simp,by simp,by simp,fun H2 _ _=>hall H2⟩
  ·cases hs
theorem HR(hns:E.calm){fs:List (Nat×Nat)}{j i:Oper}{dj di:D}{Hj H2:List (Nat×Option Ob)}(hk:B7 E.P fs j i=true)(hcj:fS E fs T j=true)(hci:fS E fs T i=true)
  (hj:cw E ⟨T,H⟩ j=some (dj,⟨T,Hj⟩)) (hi:cw E ⟨T,Hj⟩ i=some (di,⟨T,H2⟩)):
  ∃Hi,cw E ⟨T,H⟩ i=some (di,⟨T,Hi⟩)∧cw E ⟨T,Hi⟩ j=some (dj,⟨T,H2⟩):=by
 unfold B7 at hk;split at hk
 ·rename_i rj wj ri wi ej ei;simp only[zc4,zd7,Bool.not_eq_true',List.contains_eq_mem,decide_eq_false_iff_not] at hk;obtain⟨k1,k2⟩:=hk;obtain⟨Rj,uj,rfl,a1,a2,a3,a4⟩:=xC hns ej hcj hj;obtain⟨Ri,ui,rfl,b1,b2,b3,b4⟩:=xC hns ei hci hi;refine⟨dW H ui,b4 H (pE ..).symm fun a ha=>(ma _ _ fun u hu e=> ?_).symm,?_⟩
  ·subst e;exact(k1 _ (a1 u hu)).1 (b2 _ ha (a3 _ (a1 u hu)))
  ·rw[a4 (dW H ui) (pE ..) fun a ha=>ma _ _ fun u hu e=> ?_,rX uj ui H fun u hu v hv e=> ?_]
   ·exact(k1 _ (a1 u hu)).2 (e▸b1 v hv)
   ·subst e;exact k2 _ (b1 u hu) (a2 _ ha (b3 _ (b1 u hu)))
 ·cases hk
end
def mV(dst:Option Tmp)(d:D)(T:List D):List D:=match dst with
 |some t=>T.set t d
 |none=>T
def iP(ops:Array Oper)(o:Oper)(t:Nat):Bool:=
 o.op.operands.toList.any (fun x=>match x with| .tmp s=>s==t|_=>false)||
 (match o.guard with
  |none=>false
  |some (j,_)=>match ops[j]? with
   |some p=>p.dst==some t
   |none=>false)
def R1(E:Env)(ops:Array Oper)(T:List D)(H:List (Nat×Option Ob))(o:Oper)(d:D)(H':List (Nat×Option Ob)):Prop:=
 (lS ops ⟨T,H⟩ o=some false∧d= .tup []∧H'=H)∨(lS ops ⟨T,H⟩ o=some true∧cw E ⟨T,H⟩ o=some (d,⟨T,H'⟩))
section
variable {E:Env}{ops:Array Oper}{T:List D}{H:List (Nat×Option Ob)}
theorem pF{o:Oper}{d:D}{σ':St}(h:cw E ⟨T,H⟩ o=some (d,σ')):σ'.T=T:=by
 have:=B5 (E:=E) (T:=T) (T2:=T) (H:=H) (o:=o) (fun _ _=>rfl);rw[h] at this;simp only[BW,za0,zb3,true_and] at this;rw[this]
theorem im{i:Nat}{o:Oper}(ho:ops[i]?=some o){σ':St}:gz E ops ⟨T,H⟩ i=some σ'↔∃d H',R1 E ops T H o d H'∧σ'=⟨mV o.dst d T,H'⟩:=by
 unfold gz;rw[ho];dsimp only;constructor
 ·intro h;split at h
  ·cases h
  ·rename_i hw;simp only[za0] at h;subst h;exact⟨_,_,.inl ⟨hw,rfl,rfl⟩,by cases o.dst<;>rfl⟩
  ·rename_i hw;split at h
   ·cases h
   ·rename_i d σ1 hev;simp only[za0] at h;subst h;have:=pF hev;obtain⟨T1,H1⟩:=σ1;dsimp only at this;subst this;exact⟨_,_,.inr ⟨hw,hev⟩,by cases o.dst<;>rfl⟩
 ·rintro ⟨d,H',h|h,rfl⟩
  ·obtain⟨hw,rfl,rfl⟩:=h;rw[hw];cases o.dst<;>rfl
  ·obtain⟨hw,hev⟩:=h;rw[hw];simp only[hev];cases o.dst<;>rfl
theorem lr{o:Oper}{dst:Option Tmp}{d:D}(h:∀t,dst=some t→iP ops o t=false):Same T (mV dst d T) o.op.operands.toList:=by
 intro t ht;cases dst with
 |none=>rfl
 |some s=>
  have:=h s rfl;simp only[iP,zc9,zd8] at this;have h1:=this.1 _ ht;simp only[ze4] at h1;simp only[mV,List.getElem?_set];rw[if_neg (fun e=>h1 e.symm)]
theorem xD{o:Oper}{dst:Option Tmp}{d:D}(h:∀t,dst=some t→iP ops o t=false):lS ops ⟨mV dst d T,H⟩ o=lS ops ⟨T,H⟩ o:=by
 cases dst with
 |none=>rfl
 |some s=>
  have:=h s rfl;simp only[iP,zc9] at this;have h1:=this.2;unfold lS;split
  ·rfl
  ·rename_i j want hg;simp only[hg] at h1;split
   ·rfl
   ·rename_i p hp;simp only[hp] at h1;split
    ·rfl
    ·rename_i t ht;simp only[ht,beq_eq_false_iff_ne,ne_eq,za0] at h1;simp only[mV,List.getElem?_set];rw[if_neg (fun e=>h1 e.symm)]
theorem B9{o:Oper}{dst:Option Tmp}{d0:D}(h:∀t,dst=some t→iP ops o t=false){d:D}{H':List (Nat×Option Ob)}:R1 E ops (mV dst d0 T) H o d H'↔R1 E ops T H o d H':=by
 unfold R1;rw[xD h,B5 (lr (d:=d0) h)];have:kU (mV dst d0 T) (cw E ⟨T,H⟩ o)=some (d,⟨mV dst d0 T,H'⟩)↔cw E ⟨T,H⟩ o=some (d,⟨T,H'⟩):=by
  cases hev:cw E ⟨T,H⟩ o with
  |none=>simp
  |some p=>
   obtain⟨d1,T1,H1⟩:=p;have:=pF hev;dsimp only at this;subst this;simp
 rw[this]
theorem Ca(T:List D)(o:Oper):fS E [] T o=true:=by
 unfold fS;split
 ·split<;>simp
 ·simp
 ·simp
 ·split<;>simp
 ·simp
 ·split<;>simp
 ·rfl
theorem Cb{fs:List (Nat×Nat)}{T2:List D}{o:Oper}(h:Same T T2 o.op.operands.toList):fS E fs T2 o=fS E fs T o:=by
 unfold fS;split
 ·rename_i t q ho;rw[ho] at h;rw[h q (by simp[Op.operands])]
 ·rename_i t p x ho;rw[ho] at h;rw[h p (by simp[Op.operands]),h.val (E:=E) (H:=[]) (H':=[]) (x:=x) (by simp[Op.operands])]
 ·rename_i t p k x ho;rw[ho] at h;rw[h p (by simp[Op.operands]),h.val (E:=E) (H:=[]) (H':=[]) (x:=x) (by simp[Op.operands])]
 ·rename_i c ho;rw[ho] at h;split
  ·rename_i q x hc ha;have h1:∀y,y∈[Operand.tmp q,x]→y∈(Op.call c).operands.toList:=fun y hy=>by
    rw[←ha] at hy;simp only[Op.operands,Call.operands,hc];simp at hy ⊢
    first|exact hy|exact .inr hy
   rw[h q (h1 _ (by simp)),h.val (E:=E) (H:=[]) (H':=[]) (x:=x) (h1 _ (by simp))]
  ·rename_i f hc;rw[h.val (E:=E) (H:=[]) (H':=[]) (x:=f) (by simp[Op.operands,Call.operands,hc]),oq (T:=T) (T2:=T2) (l:=c.args.toList) fun t ht=>h t (by simp[Op.operands,Call.operands] at ht ⊢;exact .inr ht)]
  ·rfl
 ·rename_i t n ps ho;rw[ho] at h;rw[pC (T:=T) (T2:=T2) (by simpa [Op.operands] using h)]
 ·rename_i t x lo hi mx ho;rw[ho] at h;rw[h.val (E:=E) (H:=[]) (H':=[]) (x:=x) (by simp[Op.operands])]
 ·rfl
theorem iQ{fs:List (Nat×Nat)}{σ σ':St}{i:Nat}{o:Oper}(ho:ops[i]?=some o):eD E fs ops σ i=some σ'↔fS E fs σ.T o=true∧gz E ops σ i=some σ':=by
 unfold eD;rw[ho];dsimp only;split
 ·rename_i h;simp[h]
 ·rename_i h;simp[h]
theorem ls{fs:List (Nat×Nat)}{σ σ':St}{i:Nat}(h:eD E fs ops σ i=some σ'):gz E ops σ i=some σ':=by
 unfold eD at h;split at h
 ·cases h
 ·split at h
  ·exact h
  ·cases h
theorem ff:∀(l:List Nat) (σ:St),da E [] ops l σ=lT E ops l σ
 |[],_=>rfl
 |i::l,σ=>by
  have:eD E [] ops σ i=gz E ops σ i:=by
   unfold eD;split
   ·rename_i h;unfold gz;rw[h]
   ·rw[if_pos (Ca ..)]
  simp only[da,lT,this];split
  ·rfl
  ·exact ff l _
def Ek(E:Env)(fs:List (Nat×Nat)):Prop:=E.calm∧∀k mu,E.wr k=some mu→fs≠[]∧∃e n,mu= .own e n
theorem xE(E:Env)(fs:List (Nat×Nat)):Ek (E.stillF fs) fs:=by
 refine⟨⟨rfl,fun _=>rfl⟩,?_⟩;intro k mu h;unfold Env.stillF at h;dsimp only at h;split at h
 ·cases h;exact⟨by simp,_,_,rfl⟩
 ·cases h
theorem r9(E:Env)(fs:List (Nat×Nat)):Ek E.still fs:=⟨⟨rfl,fun _=>rfl⟩,fun k mu h=>by cases h⟩
def Of(fs:List (Nat×Nat))(o:Oper):Bool:=match o.op,o.dst with
 | .call c,some p=>(match c.callee with
  | .value _=>(fs.lookup p).isSome
  |_=>false)
 |_,_=>false
theorem Cc{fs:List (Nat×Nat)}{o:Oper}(hst:Ek E fs)(hc:fS E fs T o=true){c:Call}{f:Operand}{g:D}(ho:o.op= .call c)(hcal:c.callee= .value f)(hg:∃H,St.val E ⟨T,H⟩ f=some g)(hm:gQ E g≠none):∃p,o.dst=some p∧fs.lookup p=some p:=by
 obtain⟨H,hg⟩:=hg;cases hmu:gQ E g with
 |none=>exact absurd hmu hm
 |some mu=>
  obtain⟨hne,e,n,rfl⟩:fs≠[]∧∃e n,mu= .own e n:=by
   unfold gQ at hmu;split at hmu
   ·exact hst.2 _ _ hmu
   ·cases hmu
  have hoo:kT E g=some (e,n):=by unfold kT;rw[hmu]
  have hie:fs.isEmpty=false:=by
   cases fs with
   |nil=>exact absurd rfl hne
   |cons=>rfl
  unfold fS at hc;rw[ho] at hc;simp only[hcal,hie,Bool.false_or] at hc;rw[eS E T H [],hg] at hc;simp only[hoo] at hc;cases hd:o.dst with
  |none=>rw[hd] at hc;cases hc
  |some p=>
   rw[hd] at hc;simp only[zc4,ze4] at hc;exact⟨p,rfl,hc.1⟩
theorem y6{fs:List (Nat×Nat)}{o:Oper}(hst:Ek E fs)(hc:fS E fs T o=true)(hn:Of fs o=false):∀c f g,o.op= .call c→c.callee= .value f→(∃H,St.val E ⟨T,H⟩ f=some g)→gQ E g=none:=fun c f g ho hcal hg=>
 Classical.byContradiction fun hm=>by
  obtain⟨p,hd,hp⟩:=Cc hst hc ho hcal hg hm;unfold Of at hn;rw[ho,hd] at hn;simp[hcal,hp] at hn
def fg(P:Program)(ops:Array Oper)(ks:List Nat)(fs:List (Nat×Nat))(j i:Oper):Bool:=
 (match j.dst with
  |some t=> !iP ops i t&&j.dst !=i.dst
  |none=>true)&&
 (match i.dst with
  |some t=> !iP ops j t
  |none=>true)&&
 ((AC (kd P j) (kd P i)&&
 (match kd P j,kd P i with
  | .rd,.al=>(match i.dst with|some t=>ks.contains t|none=>true)
  |_,_=>true)&&(!Of fs j&& !Of fs i))||B7 P fs j i)
theorem KP{ks:List Nat}{fs:List (Nat×Nat)}(hst:Ek E fs){j i:Oper}(hs:fg E.P ops ks fs j i=true)(hdead:∀s,i.dst=some s→s∈ks→Dead H s)(hcj:fS E fs T j=true)(hci:fS E fs T i=true){dj di:D}{Hj H2:List (Nat×Option Ob)}
  (hj:R1 E ops T H j dj Hj) (hi:R1 E ops T Hj i di H2):∃Hi,R1 E ops T H i di Hi∧R1 E ops T Hi j dj H2:=by
 rcases hj with⟨w1,rfl,rfl⟩|⟨w1,e1⟩
 ·exact⟨H2,hi,.inl ⟨w1,rfl,rfl⟩⟩
 ·rcases hi with⟨w2,rfl,rfl⟩|⟨w2,e2⟩
  ·exact⟨H,.inl ⟨w2,rfl,rfl⟩,.inr ⟨w1,e1⟩⟩
  ·simp only[fg,zc4,Bool.or_eq_true] at hs;obtain⟨⟨h2,h3⟩,⟨⟨h1,h4⟩,n1,n2⟩|h1⟩:=hs
   ·obtain⟨Hi,a1,a2⟩:=KN (E:=E) (T:=T) hst.1 (y6 hst hcj (by simpa using n1)) (y6 hst hci (by simpa using n2)) h1 (fun hn he=>by
     cases hd:j.dst with
     |none=>exact hn hd
     |some t=>rw[hd] at h2 he;simp[he] at h2) (fun ej ei s hsd=>by
     rw[ej,ei,hsd] at h4;exact hdead s hsd (by simpa using h4)) e1 e2
    exact⟨Hi,.inr ⟨w2,a1⟩,.inr ⟨w1,a2⟩⟩
   ·obtain⟨Hi,a1,a2⟩:=HR hst.1 h1 hcj hci e1 e2;exact⟨Hi,.inr ⟨w2,a1⟩,.inr ⟨w1,a2⟩⟩
theorem EH{ks:List Nat}{fs:List (Nat×Nat)}{oj oi:Oper}(hs:fg E.P ops ks fs oj oi=true):∀t,oj.dst=some t→iP ops oi t=false:=fun t ht=>by
 simp only[fg,zc4] at hs;obtain⟨⟨hA,_⟩,_⟩:=hs;rw[ht] at hA;simp at hA;exact hA.1
theorem EI{ks:List Nat}{fs:List (Nat×Nat)}{oj oi:Oper}(hs:fg E.P ops ks fs oj oi=true):∀t,oi.dst=some t→iP ops oj t=false:=fun t ht=>by
 simp only[fg,zc4] at hs;obtain⟨⟨_,hB⟩,_⟩:=hs;rw[ht] at hB;simpa using hB
theorem EJ{ks:List Nat}{fs:List (Nat×Nat)}(hst:Ek E fs){j i:Nat}{oj oi:Oper}(hj:ops[j]?=some oj)(hi:ops[i]?=some oi)(hs:fg E.P ops ks fs oj oi=true){σ σ1 σ2:St}
  (hdead:∀s,oi.dst=some s→s∈ks→Dead σ.H s) (h1:eD E fs ops σ j=some σ1) (h2:eD E fs ops σ1 i=some σ2):∃σ1',eD E fs ops σ i=some σ1'∧eD E fs ops σ1' j=some σ2:=by
 obtain⟨T,H⟩:=σ;obtain⟨c1,h1⟩:=(iQ hj).1 h1;obtain⟨c2,h2⟩:=(iQ hi).1 h2;obtain⟨dj,Hj,r1,rfl⟩:=(im hj).1 h1;obtain⟨di,H2,r2,rfl⟩:=(im hi).1 h2;have A:=EH hs;have B:=EI hs;have hA:oj.dst≠none→oj.dst≠oi.dst:=fun hn he=>by
  cases hd:oj.dst with
  |none=>exact hn hd
  |some t=>
   simp only[fg,zc4] at hs;obtain⟨⟨hA,_⟩,_⟩:=hs;rw[hd] at hA he;simp[he] at hA
 dsimp only at c1 c2;rw[Cb (lr (d:=dj) A)] at c2;rw[B9 A] at r2;obtain⟨Hi,q1,q2⟩:=KP hst hs hdead c1 c2 r1 r2;refine⟨_,(iQ hi).2 ⟨c2,(im hi).2 ⟨di,Hi,q1,rfl⟩⟩,(iQ hj).2 ⟨by dsimp only;rw[Cb (lr (d:=di) B)];exact c1,(im hj).2 ⟨dj,H2,(B9 B).2 q2,?_⟩⟩⟩;have:mV oi.dst di (mV oj.dst dj T)=mV oj.dst dj (mV oi.dst di T):=by
  cases hj':oj.dst with
  |none=>rfl
  |some t=>
   cases hi':oi.dst with
   |none=>rfl
   |some u=>
    have:t≠u:=fun e=>hA (by rw[hj'];simp) (by rw[hj',hi',e]);simp only[mV];exact(List.set_comm _ _ this)
 rw[this]
theorem lu{fs:List (Nat×Nat)}(hst:Ek E fs){j:Nat}{oj:Oper}(hj:ops[j]?=some oj){σ σ1:St}(h0:eD E fs ops σ j=some σ1){s:Nat}(hn:oj.dst≠some s)(hd:Dead σ.H s):Dead σ1.H s:=by
 obtain⟨T,H⟩:=σ;have h1:=ls h0;have hc:fS E fs T oj=true:=by
  unfold eD at h0;rw[hj] at h0;dsimp only at h0;split at h0
  ·assumption
  ·cases h0
 obtain⟨dj,Hj,r1,rfl⟩:=(im hj).1 h1;rcases r1 with⟨_,_,rfl⟩|⟨_,e⟩
 ·exact hd
 ·by_cases hown:∃c f g,oj.op= .call c∧c.callee= .value f∧St.val E ⟨T,H⟩ f=some g∧gQ E g≠none
  ·obtain⟨c,f,g,ho,hcal,hg,hm⟩:=hown;obtain⟨p,hdp,hp⟩:=Cc hst hc ho hcal ⟨H,hg⟩ hm;have hs:AD E.P fs oj=some ([p],[p]):=by
    unfold AD;rw[ho];simp[hcal,hdp,hp]
   obtain⟨R,us,rfl,k1,_⟩:=xC hst.1 hs hc e;intro g';show bi (dW H us) s g'=none;rw[gm (ma us H (a:=s) fun u hu e1=>hn (by rw[hdp,←e1,zd1.1 (k1 u hu)]))];exact hd g'
  ·exact EG (E:=E) (T:=T) (H:=H) (σ':=⟨T,Hj⟩) hst.1 (fun c f g h1 h2 h3=>Classical.byContradiction fun h=>hown ⟨c,f,g,h1,h2,h3,h⟩) hd hn e
theorem HS{ks:List Nat}{fs:List (Nat×Nat)}(hst:Ek E fs){i:Nat}{oi:Oper}(hi:ops[i]?=some oi){post:List Nat}{σf:St}:∀(pre:List Nat) (σ:St),
  (∀j∈pre,∃oj,ops[j]?=some oj∧fg E.P ops ks fs oj oi=true∧∀s,oi.dst=some s→s∈ks→oj.dst≠some s)→
  (∀s,oi.dst=some s→s∈ks→Dead σ.H s)→da E fs ops (pre++i::post) σ=some σf→da E fs ops (i::(pre++post)) σ=some σf
 |[],σ,_,_,h=>h
 |j::pre,σ,hsw,hd,h=>by
  obtain⟨oj,hj,hs,hn⟩:=hsw j (za4 ..);simp only[List.cons_append,da] at h;split at h
  ·cases h
  ·rename_i σ1 h1;have h':=HS hst hi pre σ1 (fun k hk=>hsw k (za5 _ hk)) (fun s hs hk=>lu hst hj h1 (hn s hs hk) (hd s hs hk)) h;simp only[da] at h';split at h'
   ·cases h'
   ·rename_i σ2 h2;obtain⟨σ1',a1,a2⟩:=EJ hst hj hi hs hd h1 h2;simp only[da,List.cons_append,a1,a2];exact h'
end
def gE(ops:Array Oper)(i:Nat):List Nat:=match ops[i]? with
 |some o=>o.after.toList.filterMap fun e=>if Region.binds .any e then some e.on else none
 |none=>[]
def kL(R:List Nat)(i j:Nat):Bool:=(R.getD i 0).testBit j
def y7(R:List Nat):List Nat→Nat→Nat
 |[],m=>m
 |k::l,m=>y7 R l (m|||(2^k|||R.getD k 0))
def Cd(ops:Array Oper):List Nat:=(List.range ops.size).foldl (fun R i=>R++[y7 R (gE ops i) 0]) []
theorem sa{R:List Nat}{j:Nat}:∀{l:List Nat} {m:Nat},(y7 R l m).testBit j=true→m.testBit j=true∨∃k∈l,k=j∨kL R k j=true
 |[],_,h=> .inl h
 |k::l,m,h=>by
  rcases sa (l:=l) h with h|⟨k',h1,h2⟩
  ·simp only[Nat.testBit_or,Nat.testBit_two_pow,Bool.or_eq_true,zc7] at h;rcases h with h|h|h
   ·exact .inl h
   ·exact .inr ⟨k,za4 ..,.inl h⟩
   ·exact .inr ⟨k,za4 ..,.inr h⟩
  ·exact .inr ⟨k',za5 _ h1,h2⟩
def AE(P:Program)(ops:Array Oper)(R:List Nat)(ks:List Nat)(fs:List (Nat×Nat)):List Nat→List Nat→Bool
 |_,[]=>true
 |pre,i::rest=>
  (match ops[i]? with
   |none=>false
   |some oi=>(gE ops i).all pre.contains&& !pre.contains i&&pre.all fun j=>kL R i j||(match ops[j]? with
    |none=>false
    |some oj=>fg P ops ks fs oj oi))&&AE P ops R ks fs (i::pre) rest
def KQ(ops:Array Oper)(R:List Nat):Bool:=
 (List.range ops.size).all fun i=>R.getD i 0==y7 R (gE ops i) 0
theorem ou{ops:Array Oper}{R:List Nat}(h:KQ ops R=true){i j:Nat}(hi:i<ops.size)(hj:kL R i j=true):∃k∈gE ops i,k=j∨kL R k j=true:=by
 unfold KQ at h;simp only[zd7,List.mem_range,ze4] at h;unfold kL at hj;rw[h i hi] at hj;rcases sa hj with h|h
 ·simp at h
 ·exact h
def Ce(ops:Array Oper)(ks:List Nat):Bool:=
 ks.all fun s=>(List.range ops.size).all fun i=>(List.range ops.size).all fun j=>i==j||(match ops[i]?,ops[j]? with
  |some a,some b=> !(a.dst==some s&&b.dst==some s)
  |_,_=>true)
def eT(P:Program)(ops:Array Oper)(π ks:List Nat)(fs:List (Nat×Nat)):Bool:=
 decide (π.length≤ops.size)&&(List.range ops.size).all π.contains&&KQ ops (Cd ops)&&Ce ops ks&&AE P ops (Cd ops) ks fs [] π
end Go.Pd
end
section
namespace Go.Pd
open Go.RowKit
def Good(Fx:Act→Prop)(KK I0:Nat→Prop)(w0:World)(σ:St)(a:Act)(w:World):Prop:=∃I A,Inv I0 KK I A σ a w∧Blw KK w0 w∧Fx a
def nC(Fx:Act→Prop)(ops:Array Oper):Prop:=∀(i:Nat) (o:Oper),ops[i]?=some o→∀(a:Act) (v:Value),Fx a→Fx (a.put o.dst v)
section
variable {E:Env}{Fx:Act→Prop}{KK I0:Nat→Prop}{w0:World}{σ σ1:St}{a:Act}{w:World}{F:Fence}{n:Nat}{ops:Array Oper}{Q:Exit→Act→World→Prop}
theorem pG(hgl:Gl E.gl I0 w0)(hI0:∀b,I0 b→KK b){I:Nat→Prop}{A:Nat→Nat→Option Gh}(h:Inv I0 KK I A σ a w)(hb:Blw KK w0 w):Gl E.gl I w:=
 fun g d hg=>(hgl g d hg).mono (fun b hb=>h.ii b hb) (fun b hb'=>hb.block b (hI0 b hb'))
theorem vt{I:Nat→Prop}{A:Nat→Nat→Option Gh}(h:Inv I0 KK I A σ a w){o:Oper}{b:Bool}(hw:lS ops σ o=some b):Region.wanted o (yielded ops a.tmps)=b:=by
 unfold lS at hw;unfold Region.wanted;split at hw
 ·rename_i hg;simp only[za0] at hw;subst hw;rw[hg]
 ·rename_i j want hg;rw[hg];dsimp only;split at hw
  ·cases hw
  ·rename_i p hp;split at hw
   ·cases hw
   ·rename_i t ht;have hv:∀{d:D},σ.T[t]?=some d→∃v,a.tmps[t]?=some v∧RelV I A (bl σ.H) w d v:=fun {d} hd=>by
     have hlt:t<a.tmps.size:=by rw[←h.tl];exact(zc1.1 hd).1
     exact⟨a.tmps[t],Array.getElem?_eq_getElem hlt,h.tv t d _ hd (Array.getElem?_eq_getElem hlt)⟩
    split at hw
    ·rename_i b' hd;obtain⟨v,h1,h2⟩:=hv hd;rw[h2.bool_inv] at h1;simp only[za0] at hw;subst hw;simp only[yielded,hp,Option.bind_some,ht,h1];cases b'<;>cases want<;>rfl
    ·rename_i ds hd;obtain⟨v,h1,h2⟩:=hv hd;obtain⟨vs,rfl,_⟩:=h2.tup_inv;simp only[za0] at hw;subst hw;simp only[yielded,hp,Option.bind_some,ht,h1];rfl
    ·rename_i k m hd;obtain⟨v,h1,h2⟩:=hv hd;rw[h2.int_inv] at h1;simp only[za0] at hw;subst hw;simp only[yielded,hp,Option.bind_some,ht,h1];rfl
    ·cases hw
theorem ip(hF:Wide F)(hcall:EnvOK E)(hgl:Gl E.gl I0 w0)(hI0:∀b,I0 b→KK b)(hKs:∀k,KK k→k<w0.heap.size)(hfo:nC Fx ops)(hg:Good Fx KK I0 w0 σ a w){i:Nat}(hev:gz E ops σ i=some σ1)
  {K:Act→World→Prop} (hK:∀a' w',Good Fx KK I0 w0 σ1 a' w'→K a' w'):wpOpIn F n E.P ops Q i K a w:=by
 obtain⟨I,A,h,hb,hfx⟩:=hg;unfold gz at hev;unfold wpOpIn;split at hev
 ·cases hev
 ·rename_i o ho;simp only[ho];split at hev
  ·cases hev
  ·rename_i hw;simp only[za0] at hev;subst hev;rw[if_neg (by rw[vt h hw];exact Bool.false_ne_true)];exact⟨fun f _=>hF.fn f,hK _ _ ⟨I,A,h.put o.dst fL,hb,hfo i o ho _ _ hfx⟩⟩
  ·rename_i hw;rw[if_pos (vt h hw)];split at hev
   ·cases hev
   ·rename_i d σ' hop;simp only[za0] at hev;subst hev;refine Ex hF hcall h (pG hgl hI0 h hb) (fun k hk=>zb2 (hKs k hk) hb.size) hop fun v w' hst=>hK _ _ ?_;obtain⟨I',A',h',hr,_,_,hbel⟩:=hst;exact⟨I',A',h'.put o.dst hr,hb.trans hbel,hfo i o ho _ _ hfx⟩
theorem vu(hF:Wide F)(hcall:EnvOK E)(hgl:Gl E.gl I0 w0)(hI0:∀b,I0 b→KK b)(hKs:∀k,KK k→k<w0.heap.size)(hfo:nC Fx ops):∀(l:List Nat) {σ σ':St} {a:Act} {w:World},Good Fx KK I0 w0 σ a w→lT E ops l σ=some σ'→
  (∀a' w',Good Fx KK I0 w0 σ' a' w'→Q .normal a' w')→wpOpsIn F n E.P ops Q l a w
 |[],σ,σ',a,w,hg,he,hQ=>by
  simp only[lT,za0] at he;subst he;exact hQ _ _ hg
 |i::l,σ,σ',a,w,hg,he,hQ=>by
  rw[wpOpsIn_cons];simp only[lT] at he;split at he
  ·cases he
  ·rename_i σ1 h1;exact ip hF hcall hgl hI0 hKs hfo hg h1 fun a' w' hg'=>vu hF hcall hgl hI0 hKs hfo l hg' he hQ
theorem ready_iff{listed:Array Bool}{i:Nat}:i∈Region.ready .any ops listed↔i<ops.size∧listed.getD i true=false∧∀k∈gE ops i,listed.getD k false=true:=by
 unfold Region.ready;simp only[List.mem_filter,List.mem_range,zc4,Bool.not_eq_true'];constructor
 ·rintro ⟨h1,h2,h3⟩
  refine⟨h1,h2,fun k hk=> ?_⟩;unfold gE at hk;rw[Array.getElem?_eq_getElem h1] at h3 hk;simp only[Option.map_some,Option.getD_some,Array.all_eq_true'] at h3;simp only[List.mem_filterMap] at hk;obtain⟨e,he,hek⟩:=hk;split at hek
  ·rename_i hb;simp only[za0] at hek;subst hek;have:=h3 e (by simpa using he);simpa [hb] using this
  ·cases hek
 ·rintro ⟨h1,h2,h3⟩
  refine⟨h1,h2,?_⟩;rw[Array.getElem?_eq_getElem h1];simp only[Option.map_some,Option.getD_some,Array.all_eq_true'];intro e he;by_cases hb:Region.binds .any e=true
  ·have:=h3 e.on (by
    unfold gE;rw[Array.getElem?_eq_getElem h1];simp only[List.mem_filterMap];exact⟨e,by simpa using he,by rw[if_pos hb]⟩)
   simp[this]
  ·simp[hb]
def xF(R:List Nat)(listed:Array Bool):Prop:=∀k,listed.getD k false=true→∀j,kL R k j=true→listed.getD j false=true
theorem fh{P:Program}{R:List Nat}{ks:List Nat}{fs:List (Nat×Nat)}:∀(l pre:List Nat),AE P ops R ks fs pre l=true→∀p1 i p2,l=p1++i::p2→∃oi,ops[i]?=some oi∧(∀k∈gE ops i,k∈pre∨k∈p1)∧i∉pre∧i∉p1∧
  ∀j,(j∈pre∨j∈p1)→kL R i j=true∨∃oj,ops[j]?=some oj∧fg P ops ks fs oj oi=true
 |[],_,_,p1,i,p2,e=>by cases p1<;>simp at e
 |x::l,pre,h,p1,i,p2,e=>by
  simp only[AE,zc4] at h;obtain⟨h1,h2⟩:=h;cases p1 with
  |nil=>
   simp only[zb7,zc5] at e;obtain⟨rfl,rfl⟩:=e;split at h1
   ·cases h1
   ·rename_i oi hoi;simp only[zc4,zd7,Bool.not_eq_true'] at h1;obtain⟨⟨a1,a2⟩,a3⟩:=h1;refine⟨oi,hoi,fun k hk=> .inl (by simpa using a1 k hk),by simpa using a2,by simp,fun j hj=> ?_⟩;have hj':j∈pre:=by rcases hj with h|h;exact h;cases h
    have:=a3 j hj';simp only[Bool.or_eq_true] at this;rcases this with h|h
    ·exact .inl h
    ·split at h
     ·cases h
     ·rename_i oj hoj;exact .inr ⟨oj,hoj,h⟩
  |cons y p1=>
   simp only[List.cons_append,zc5] at e;obtain⟨rfl,rfl⟩:=e;obtain⟨oi,b1,b2,b3,b4,b5⟩:=fh _ _ h2 p1 i p2 rfl;refine⟨oi,b1,fun k hk=> ?_,fun hm=>b3 (za5 _ hm),fun hm=> ?_,fun j hj=>b5 j ?_⟩
   ·rcases b2 k hk with h|h
    ·rcases List.mem_cons.1 h with rfl|h
     ·exact .inr (za4 ..)
     ·exact .inl h
    ·exact .inr (za5 _ h)
   ·rcases List.mem_cons.1 hm with rfl|h
    ·exact b3 (za4 ..)
    ·exact b4 h
   ·rcases hj with h|h
    ·exact .inl (za5 _ h)
    ·rcases List.mem_cons.1 h with rfl|h
     ·exact .inl (za4 ..)
     ·exact .inr h
end
def dR(listed:Array Bool)(i:Nat):Bool:= !listed.getD i true
section
variable {E:Env}{Fx:Act→Prop}{KK I0:Nat→Prop}{w0:World}{F:Fence}{n:Nat}{ops:Array Oper}{Q:Exit→Act→World→Prop}
theorem fW{α:Type}{p:α→Bool}{l p1 p2:List α}{i:α}(h:l.filter p=p1++i::p2):∃q1 q2,l=q1++i::q2∧q1.filter p=p1∧q2.filter p=p2:=by
 obtain⟨l1,l2,rfl,h1,h2⟩:=List.filter_eq_append_iff.1 h;obtain⟨m1,m2,rfl,h3,h4,h5⟩:=List.filter_eq_cons_iff.1 h2;refine⟨l1++m1,m2,by simp,?_,h5⟩;rw[List.filter_append,h1,List.filter_eq_nil_iff.2 (by simpa using h3),zb6]
theorem ov{ks:List Nat}(h:Ce ops ks=true){i j:Nat}{oi oj:Oper}(hi:ops[i]?=some oi)(hj:ops[j]?=some oj)(hne:i≠j){s:Nat}(hs:s∈ks)(hd:oi.dst=some s):oj.dst≠some s:=by
 unfold Ce at h;simp only[zd7,List.mem_range] at h;have:=h s hs i (zc0.1 hi).1 j (zc0.1 hj).1;rw[hi,hj] at this;simp only[Bool.or_eq_true,ze4,hne,false_or,hd] at this;simpa using this
theorem lv(hF:Wide F)(hcall:EnvOK E)(hgl:Gl E.gl I0 w0)(hI0:∀b,I0 b→KK b)(hKs:∀k,KK k→k<w0.heap.size)(hfo:nC Fx ops){π ks:List Nat}{fs:List (Nat×Nat)}(hst:Ek E fs){R:List Nat}
  (hall:∀i,i<ops.size→i∈π) (hR:KQ ops R=true) (hks:Ce ops ks=true) (hgo:AE E.P ops R ks fs [] π=true) {σf:St} (hQ:∀a' w',Good Fx KK I0 w0 σf a' w'→Q .normal a' w'):
  ∀(fuel:Nat) (listed:Array Bool) (σ:St) (a:Act) (w:World),listed.size=ops.size→(π.filter (dR listed)).length≤fuel→xF R listed→
   (∀i oi,ops[i]?=some oi→dR listed i=true→∀s,oi.dst=some s→s∈ks→Dead σ.H s)→da E fs ops (π.filter (dR listed)) σ=some σf→Good Fx KK I0 w0 σ a w→
   wpAnyIn F n E.P .any ops Q fuel listed a w:=by
 have hspl:=fh (ops:=ops) (P:=E.P) (R:=R) (ks:=ks) (fs:=fs) π [] hgo;have hmem:∀(listed:Array Bool) (i:Nat),i∈Region.ready .any ops listed→i∈π.filter (dR listed):=fun listed i hi=>by
  obtain⟨h1,h2,_⟩:=ready_iff.1 hi;exact List.mem_filter.2 ⟨hall i h1,by simp[dR,h2]⟩
 have hdone:∀(listed:Array Bool) (σ:St) (a:Act) (w:World),π.filter (dR listed)=[]→da E fs ops (π.filter (dR listed)) σ=some σf→Good Fx KK I0 w0 σ a w→Q .normal a w:=fun listed σ a w h he hg=>by
  rw[h] at he;simp only[da,za0] at he;subst he;exact hQ _ _ hg
 intro fuel
 induction fuel with
 |zero=>
  intro listed σ a w hsz hlen hcl hdead he hg;have h0:π.filter (dR listed)=[]:=List.length_eq_zero_iff.1 (Nat.le_zero.1 hlen);refine⟨?_,hdone listed σ a w h0 he hg⟩;cases hr:Region.ready .any ops listed with
  |nil=>rfl
  |cons i l=>
   have:=hmem listed i (by rw[hr];exact za4 ..);rw[h0] at this;cases this
 |succ fuel ih=>
  intro listed σ a w hsz hlen hcl hdead he hg;refine⟨fun hr=> ?_,fun i hi=> ?_⟩
  ·refine hdone listed σ a w ?_ he hg;cases hrem:π.filter (dR listed) with
   |nil=>rfl
   |cons i p2=>
    exfalso;obtain⟨q1,q2,hq,hq1,_⟩:=fW (p1:=[]) hrem;obtain⟨oi,b1,b2,_⟩:=hspl q1 i q2 hq;have hi1:i∈π.filter (dR listed):=by rw[hrem];exact za4 ..
    have hil:listed.getD i true=false:=by simpa [dR] using (List.mem_filter.1 hi1).2
    have:i∈Region.ready .any ops listed:=ready_iff.2 ⟨(zc0.1 b1).1,hil,fun k hk=>by
     have hkq:k∈q1:=by rcases b2 k hk with h|h;cases h;exact h
     obtain⟨u1,u2,hu⟩:=List.append_of_mem hkq;obtain⟨ok,hok,_⟩:=hspl u1 k (u2++i::q2) (by rw[hq,hu];simp);have hlt:k<listed.size:=by rw[hsz];exact(zc0.1 hok).1
     have hn:=List.filter_eq_nil_iff.1 hq1 k hkq;simp only[dR,Bool.not_eq_true',Bool.not_eq_false] at hn;simp only[Array.getD,hlt,dif_pos] at hn ⊢;exact hn⟩
    rw[hr] at this;cases this
  ·obtain⟨hlt,hil,hbef⟩:=ready_iff.1 hi;obtain⟨p1,p2,hrem⟩:=List.append_of_mem (hmem listed i hi);obtain⟨q1,q2,hq,hq1,hq2⟩:=fW hrem;obtain⟨oi,b1,b2,_,b4,b5⟩:=hspl q1 i q2 hq;have hRi:∀j,kL R i j=true→listed.getD j false=true:=fun j hj=>by
    obtain⟨k,hk,h|h⟩:=ou hR hlt hj
    ·subst h;exact hbef k hk
    ·exact hcl k (hbef k hk) j h
   have hp1:∀j∈p1,j∈q1∧dR listed j=true:=fun j hj=>by rw[←hq1] at hj;exact List.mem_filter.1 hj
   have hsw:∀j∈p1,∃oj,ops[j]?=some oj∧fg E.P ops ks fs oj oi=true∧∀s,oi.dst=some s→s∈ks→oj.dst≠some s:=fun j hj=>by
    obtain⟨h1,h2⟩:=hp1 j hj;rcases b5 j (.inr h1) with h|⟨oj,hoj,hs⟩
    ·exfalso;have h3:=hRi j h;simp only[dR,Bool.not_eq_true'] at h2;have hlt':j<listed.size:=by
      apply Classical.byContradiction;intro hn;simp[Array.getD,hn] at h3
     simp only[Array.getD,hlt',dif_pos] at h2 h3;rw[h2] at h3;cases h3
    ·exact⟨oj,hoj,hs,fun s hd hm=>ov hks b1 hoj (fun e=>b4 (e▸h1)) hm hd⟩
   have hun:dR listed i=true:=by simp[dR,hil]
   rw[hrem] at he;have hpull:=HS (E:=E) hst b1 p1 σ hsw (fun s hd hm=>hdead i oi b1 hun s hd hm) he;simp only[da] at hpull;split at hpull
   ·cases hpull
   ·rename_i σ1 hev;refine ip hF hcall hgl hI0 hKs hfo hg (ls hev) fun a' w' hg'=> ?_;have hunl:∀k,dR (listed.setIfInBounds i true) k=(dR listed k&&k !=i):=fun k=>by
     unfold dR;simp only[Array.getD_eq_getD_getElem?,Array.getElem?_setIfInBounds];by_cases e:i=k
     ·subst e;simp[hsz,hlt]
     ·simp[e,Ne.symm e]
    have hni:i∉q2:=fun hm=>by
     obtain⟨u1,u2,hu⟩:=List.append_of_mem hm;obtain⟨_,_,_,_,c4,_⟩:=hspl (q1++i::u1) i u2 (by rw[hq,hu];simp);exact c4 (by simp)
    have hrem':π.filter (dR (listed.setIfInBounds i true))=p1++p2:=by
     rw[show dR (listed.setIfInBounds i true)=fun k=>(dR listed k&&k !=i) from funext hunl];have hc:∀q:List Nat,i∉q→q.filter (fun k=>dR listed k&&k !=i)=q.filter (dR listed):=fun q hiq=>List.filter_congr fun k hk=>by
      have:k≠i:=fun e=>hiq (e▸hk);simp[this]
     rw[hq,List.filter_append,List.filter_cons,if_neg (by simp),hc q1 b4,hc q2 hni,hq1,hq2]
    refine ih _ σ1 a' w' (by simp[hsz]) ?_ ?_ ?_ (by rw[hrem'];exact hpull) hg'
    ·rw[hrem'];rw[hrem] at hlen;simp at hlen ⊢;omega
    ·intro k hk j hj;have hmono:∀j,listed.getD j false=true→(listed.setIfInBounds i true).getD j false=true:=fun j hj=>by
      simp only[Array.getD_eq_getD_getElem?,Array.getElem?_setIfInBounds] at hj ⊢;by_cases e:i=j
      ·subst e;simp[hsz,hlt]
      ·simp[e,hj]
     by_cases e:i=k
     ·subst e;exact hmono j (hRi j hj)
     ·refine hmono j (hcl k ?_ j hj);simp only[Array.getD_eq_getD_getElem?,Array.getElem?_setIfInBounds] at hk ⊢;simpa [e] using hk
    ·intro j oj hoj hu s hd hm;rw[hunl] at hu;simp only[zc4,ze5,ne_eq] at hu;exact lu hst b1 hev (ov hks hoj b1 hu.2 hm hd) (hdead j oj hoj hu.1 s hd hm)
theorem pH(hF:Wide F)(hcall:EnvOK E){fs:List (Nat×Nat)}(hst:Ek E fs)(hgl:Gl E.gl I0 w0)(hI0:∀b,I0 b→KK b)(hKs:∀k,KK k→k<w0.heap.size)(hfo:nC Fx ops){π1 π2 ks:List Nat}{b:Nat}{R:List Nat}
  (hall:∀i,i<ops.size→i∈π1++b::π2) (hR:KQ ops R=true) (hks:Ce ops ks=true) (hgo:AE E.P ops R ks fs [] (π1++b::π2)=true) (hbar:∀i∈b::π2,∀j∈π1,kL R i j=true) {σf:St} {m:Nat}
  (hQ:∀(fuel:Nat) (listed:Array Bool) (a':Act) (w':World),m≤fuel→listed.size=ops.size→π1.filter (dR listed)=[]→(∀i∈b::π2,dR listed i=true)→xF R listed→Good Fx KK I0 w0 σf a' w'→wpAnyIn F n E.P .any ops Q fuel listed a' w'):
  ∀(fuel:Nat) (listed:Array Bool) (σ:St) (a:Act) (w:World),listed.size=ops.size→(π1.filter (dR listed)).length+m≤fuel→xF R listed→(∀i∈b::π2,dR listed i=true)→(∀i oi,i∈π1→ops[i]?=some oi→dR listed i=true→∀s,oi.dst=some s→s∈ks→Dead σ.H s)→
   da E fs ops (π1.filter (dR listed)) σ=some σf→Good Fx KK I0 w0 σ a w→wpAnyIn F n E.P .any ops Q fuel listed a w:=by
 have hspl:=fh (ops:=ops) (P:=E.P) (R:=R) (ks:=ks) (fs:=fs) (π1++b::π2) [] hgo;intro fuel
 induction fuel with
 |zero=>
  intro listed σ a w hsz hlen hcl hun hdead he hg;have h0:π1.filter (dR listed)=[]:=List.length_eq_zero_iff.1 (by omega);rw[h0] at he;simp only[da,za0] at he;subst he;exact hQ 0 listed a w (by omega) hsz h0 hun hcl hg
 |succ fuel ih=>
  intro listed σ a w hsz hlen hcl hun hdead he hg;cases hrem0:π1.filter (dR listed) with
  |nil=>
   rw[hrem0] at he hlen;simp only[da,za0] at he;subst he;exact hQ (fuel+1) listed a w (by simpa using hlen) hsz hrem0 hun hcl hg
  |cons i0 p0=>
   refine⟨fun hr=> ?_,fun i hi=> ?_⟩
   ·exfalso;obtain⟨q1,q2,hq,hq1,_⟩:=fW (p1:=[]) hrem0;obtain⟨oi,b1,b2,_⟩:=hspl q1 i0 (q2++b::π2) (by rw[hq];simp);have hi1:i0∈π1.filter (dR listed):=by rw[hrem0];exact za4 ..
    have hil:listed.getD i0 true=false:=by simpa [dR] using (List.mem_filter.1 hi1).2
    have:i0∈Region.ready .any ops listed:=ready_iff.2 ⟨(zc0.1 b1).1,hil,fun k hk=>by
     have hkq:k∈q1:=by rcases b2 k hk with h|h;cases h;exact h
     obtain⟨u1,u2,hu⟩:=List.append_of_mem hkq;obtain⟨ok,hok,_⟩:=hspl u1 k (u2++i0::q2++b::π2) (by rw[hq,hu];simp);have hlt:k<listed.size:=by rw[hsz];exact(zc0.1 hok).1
     have hn:=List.filter_eq_nil_iff.1 hq1 k hkq;simp only[dR,Bool.not_eq_true',Bool.not_eq_false] at hn;simp only[Array.getD,hlt,dif_pos] at hn ⊢;exact hn⟩
    rw[hr] at this;cases this
   ·obtain⟨hlt,hil,hbef⟩:=ready_iff.1 hi;have hRi:∀j,kL R i j=true→listed.getD j false=true:=fun j hj=>by
     obtain⟨k,hk,h|h⟩:=ou hR hlt hj
     ·subst h;exact hbef k hk
     ·exact hcl k (hbef k hk) j h
    have hmem:i∈π1.filter (dR listed):=by
     rcases za9.1 (hall i hlt) with h|h
     ·exact List.mem_filter.2 ⟨h,by simp[dR,hil]⟩
     ·exfalso;have hi0:i0∈π1.filter (dR listed):=by rw[hrem0];exact za4 ..
      obtain⟨h1,h2⟩:=List.mem_filter.1 hi0;have h3:=hRi i0 (hbar i h i0 h1);simp only[dR,Bool.not_eq_true'] at h2;have hlt':i0<listed.size:=by
       apply Classical.byContradiction;intro hn;simp[Array.getD,hn] at h3
      simp only[Array.getD,hlt',dif_pos] at h2 h3;rw[h2] at h3;cases h3
    obtain⟨p1,p2,hrem⟩:=List.append_of_mem hmem;obtain⟨q1,q2,hq,hq1,hq2⟩:=fW hrem;obtain⟨oi,b1,b2,_,b4,b5⟩:=hspl q1 i (q2++b::π2) (by rw[hq];simp);have hp1:∀j∈p1,j∈q1∧dR listed j=true:=fun j hj=>by rw[←hq1] at hj;exact List.mem_filter.1 hj
    have hsw:∀j∈p1,∃oj,ops[j]?=some oj∧fg E.P ops ks fs oj oi=true∧∀s,oi.dst=some s→s∈ks→oj.dst≠some s:=fun j hj=>by
     obtain⟨h1,h2⟩:=hp1 j hj;rcases b5 j (.inr h1) with h|⟨oj,hoj,hs⟩
     ·exfalso;have h3:=hRi j h;simp only[dR,Bool.not_eq_true'] at h2;have hlt':j<listed.size:=by
       apply Classical.byContradiction;intro hn;simp[Array.getD,hn] at h3
      simp only[Array.getD,hlt',dif_pos] at h2 h3;rw[h2] at h3;cases h3
     ·exact⟨oj,hoj,hs,fun s hd hm=>ov hks b1 hoj (fun e=>b4 (e▸h1)) hm hd⟩
    rw[hrem] at he;have hiπ:i∈π1:=(List.mem_filter.1 hmem).1;have huni:dR listed i=true:=(List.mem_filter.1 hmem).2;have hpull:=HS (E:=E) hst b1 p1 σ hsw (fun s hd hm=>hdead i oi hiπ b1 huni s hd hm) he;simp only[da] at hpull;split at hpull
    ·cases hpull
    ·rename_i σ1 hev;refine ip hF hcall hgl hI0 hKs hfo hg (ls hev) fun a' w' hg'=> ?_;have hunl:∀k,dR (listed.setIfInBounds i true) k=(dR listed k&&k !=i):=fun k=>by
      unfold dR;simp only[Array.getD_eq_getD_getElem?,Array.getElem?_setIfInBounds];by_cases e:i=k
      ·subst e;simp[hsz,hlt]
      ·simp[e,Ne.symm e]
     have hnd:∀q1' q2',π1++b::π2=q1'++i::q2'→i∉q1':=fun q1' q2' hq'=>by
      obtain⟨_,_,_,_,c4,_⟩:=hspl q1' i q2' hq';exact c4
     have hni:i∉q2:=fun hm=>by
      obtain⟨u1,u2,hu⟩:=List.append_of_mem hm;exact hnd (q1++i::u1) (u2++b::π2) (by rw[hq,hu];simp) (by simp)
     have hnl:i∉b::π2:=fun hm=>by
      obtain⟨u1,u2,hu⟩:=List.append_of_mem hm;exact hnd (π1++u1) u2 (by rw[hu];simp) (by rw[hq];simp)
     have hrem':π1.filter (dR (listed.setIfInBounds i true))=p1++p2:=by
      rw[show dR (listed.setIfInBounds i true)=fun k=>(dR listed k&&k !=i) from funext hunl];have hc:∀q:List Nat,i∉q→q.filter (fun k=>dR listed k&&k !=i)=q.filter (dR listed):=fun q hiq=>List.filter_congr fun k hk=>by
       have:k≠i:=fun e=>hiq (e▸hk);simp[this]
      rw[hq,List.filter_append,List.filter_cons,if_neg (by simp),hc q1 b4,hc q2 hni,hq1,hq2]
     refine ih _ σ1 a' w' (by simp[hsz]) ?_ ?_ ?_ ?_ (by rw[hrem'];exact hpull) hg'
     ·rw[hrem'];rw[hrem] at hlen;simp at hlen ⊢;omega
     ·intro k hk j hj;have hmono:∀j,listed.getD j false=true→(listed.setIfInBounds i true).getD j false=true:=fun j hj=>by
       simp only[Array.getD_eq_getD_getElem?,Array.getElem?_setIfInBounds] at hj ⊢;by_cases e:i=j
       ·subst e;simp[hsz,hlt]
       ·simp[e,hj]
      by_cases e:i=k
      ·subst e;exact hmono j (hRi j hj)
      ·refine hmono j (hcl k ?_ j hj);simp only[Array.getD_eq_getD_getElem?,Array.getElem?_setIfInBounds] at hk ⊢;simpa [e] using hk
     ·intro j hj;rw[hunl,hun j hj];have:j≠i:=fun e=>hnl (e▸hj);simp[this]
     ·intro j oj hjπ hoj hu s hd hm;rw[hunl] at hu;simp only[zc4,ze5,ne_eq] at hu;exact lu hst b1 hev (ov hks hoj b1 hu.2 hm hd) (hdead j oj hjπ hoj hu.1 s hd hm)
end
section
variable {Fx:Act→Prop}{KK I0:Nat→Prop}{B:Nat→Prop}{I:Nat→Prop}{A A':Nat→Nat→Option Gh}{G G':Nat→Nat}{σ:St}{a:Act}{w w0:World}{s:Nat}
theorem ko(hA:∀s' g,s'≠s→A' s' g=A s' g)(hG:∀s',s'≠s→G' s'=G s'):∀(n:Nat) (d:D) (v:Value),eP s n d=true→RelV I A G w d v→RelV I A' G' w d v
 |0,_,_,h,_=>by cases h
 |n+1,d,v,h,hr=>by
  have ih:=ko hA hG n;cases hr with
  |clo h=>exact .clo h
  |loc s' g off ad hg hx=>
   have hne:s'≠s:=by simpa [eP] using h
   exact .loc s' g off ad (by rw[hG s' hne];exact hg) fun x hx'=>hx x (by rw[←hA s' g hne];exact hx')
  |own s' g len ad cap hg hl hx=>
   have hne:s'≠s:=by simpa [eP] using h
   exact .own s' g len ad cap (by rw[hG s' hne];exact hg) hl fun x hx'=>hx x (by rw[←hA s' g hne];exact hx')
  |win s' g off len n ad cap hg hl hx=>
   have hne:s'≠s:=by simpa [eP] using h
   exact .win s' g off len n ad cap (by rw[hG s' hne];exact hg) hl fun hp x hx'=>hx hp x (by rw[←hA s' g hne];exact hx')
  |mloc s' g b hg hx=>
   have hne:s'≠s:=by simpa [eP] using h
   exact .mloc s' g b (by rw[hG s' hne];exact hg) fun x hx'=>hx x (by rw[←hA s' g hne];exact hx')
  |fn f x y vx vy hx hy h1 h2=>
   simp only[eP,zc4,zd7] at h;exact .fn f x y vx vy hx hy (fun j d v hd hv=>ih d v (h.1 d (List.mem_of_getElem? hd)) (h1 j d v hd hv)) (fun j d v hd hv=>ih d v (h.2 d (List.mem_of_getElem? hd)) (h2 j d v hd hv))
  |ifc t d v h1=>exact .ifc t d v (ih d v (by simpa [eP] using h) h1)
  |agg cs vs hl h1=>
   simp only[eP,zd7] at h;exact .agg cs vs hl fun j d v hd hv=>ih d v (h d (List.mem_of_getElem? hd)) (h1 j d v hd hv)
  |tup cs vs hl h1=>
   simp only[eP,zd7] at h;exact .tup cs vs hl fun j d v hd hv=>ih d v (h d (List.mem_of_getElem? hd)) (h1 j d v hd hv)
def SubA(A' A:Nat→Nat→Option Gh):Prop:=∀s g x,A' s g=some x→∃s1 g1,A s1 g1=some x
theorem SubA.refl(A:Nat→Nat→Option Gh):SubA A A:=fun s g _ hx=>⟨s,g,hx⟩
theorem SubA.trans{A1 A2 A3:Nat→Nat→Option Gh}(h1:SubA A1 A2)(h2:SubA A2 A3):SubA A1 A3:=fun s g x hx=>by
 obtain⟨s1,g1,h⟩:=h1 s g x hx;exact h2 s1 g1 x h
structure Turn(I I':Nat→Prop)(A A':Nat→Nat→Option Gh)(H H':List (Nat×Option Ob))(w:World):Prop where
 sub:SubA A' A
 grow:∀b,I b→I' b
 new:∀b,I' b→I b∨RowB A H w b∨∃s g x,A s g=some x∧x.b=b
 row:∀b,RowB A' H' w b→RowB A H w b
theorem Turn.refl{I:Nat→Prop}{A:Nat→Nat→Option Gh}{H:List (Nat×Option Ob)}{w:World}:Turn I I A A H H w:=⟨.refl A,fun _ hb=>hb,fun _ hb=> .inl hb,fun _ hb=>hb⟩
theorem Turn.trans{I1 I2 I3:Nat→Prop}{A1 A2 A3:Nat→Nat→Option Gh}{H1 H2 H3:List (Nat×Option Ob)}{w:World}(h:Turn I1 I2 A1 A2 H1 H2 w)(k:Turn I2 I3 A2 A3 H2 H3 w):Turn I1 I3 A1 A3 H1 H3 w:=
 ⟨k.sub.trans h.sub,fun b hb=>k.grow b (h.grow b hb),fun b hb=>(k.new b hb).elim (h.new b) fun hr=> .inr (hr.imp (h.row b) fun⟨s,g,x,hx,e⟩=>let⟨s1,g1,h1⟩:=h.sub s g x hx;⟨s1,g1,x,h1,e⟩),fun b hb=>h.row b (k.row b hb)⟩
theorem Rows.left{A A':Nat→Nat→Option Gh}{H H':List (Nat×Option Ob)}{w:World}(hm:∀s g e er nr cs x,bi H' s g=some (.nst e er nr cs)→A' s g=some x→∃s1 g1,bi H s1 g1=some (.nst e er nr cs)∧A s1 g1=some x):∀b,RowB A' H' w b→RowB A H w b:=fun b hb=>by
 obtain⟨x,j,s,g,e,er,nr,cs,c,f,len,rs,cap,k1,k2,k3,k4,k5⟩:=hb;obtain⟨s1,g1,q1,q2⟩:=hm _ _ _ _ _ _ _ k2 k1;exact⟨x,j,s1,g1,e,er,nr,cs,c,f,len,rs,cap,q2,q1,k3,k4,k5⟩
theorem Inv.reset(h:Inv I0 B I A σ a w)(s:Nat)(hT:σ.T.all (eP s depth)=true)(hH:(σ.H.set s (0,none)).all (lU s)=true):∃A',Inv I0 B I A' ⟨σ.T,σ.H.set s (0,none)⟩ a w∧Turn I I A A' σ.H (σ.H.set s (0,none)) w:=by
 let A':Nat→Nat→Option Gh:=fun s' g=>if s'=s then none else A s' g
 have hA:∀s' g,s'≠s→A' s' g=A s' g:=fun s' g e=>by simp[A',e]
 have hG:∀s',s'≠s→bl (σ.H.set s (0,none)) s'=bl σ.H s':=fun s' e=>cq (Ne.symm e);have hlive:∀s' g o,bi (σ.H.set s (0,none)) s' g=some o→s'≠s∧bi σ.H s' g=some o:=fun s' g o ho=>by
  by_cases e:s'=s
  ·subst e;rw[liveH_some] at ho;have hlt:=(zc1.1 ho).1;simp only[List.length_set] at hlt;rw[List.getElem?_set_self hlt] at ho;cases ho
  ·exact⟨e,by rw[bO (Ne.symm e)] at ho;exact ho⟩
 rw[zd7] at hT hH;have hm:∀s' g e er nr cs x,bi (σ.H.set s (0,none)) s' g=some (.nst e er nr cs)→A' s' g=some x→∃s1 g1,bi σ.H s1 g1=some (.nst e er nr cs)∧A s1 g1=some x:=fun s' g e er nr cs x k1 k2=>by
  obtain⟨hne,hl⟩:=hlive s' g _ k1;exact⟨s',g,hl,by rw[←hA s' g hne];exact k2⟩
 refine⟨A',⟨h.tl,fun t d v hd hv=>ko hA hG _ d v (hT d (List.mem_of_getElem? hd)) (h.tv t d v hd hv),fun s' g o ho=> ?_,fun s' g x hx=> ?_,fun s1 g1 x1 s2 g2 x2 h1 h2 he=> ?_,h.iw,h.io,h.ii,h.df,h.rw.sub0 hm fun s' g z hz=> ?_⟩,fun s' g x hx=> ?_,fun _ hb=>hb,fun _ hb=> .inl hb,Rows.left hm⟩
 ·obtain⟨hne,hl⟩:=hlive s' g o ho;obtain⟨x,hx,hxB,hok⟩:=h.ob s' g o hl;refine⟨x,by rw[hA s' g hne];exact hx,hxB,?_⟩;rw[liveH_some] at ho;have hm:=hH _ (List.mem_of_getElem? ho);cases o with
  |box cs fz=>
   obtain⟨c,e,h1,h2,h3,h4⟩:=hok;simp only[lU,zd7] at hm;exact⟨c,e,h1,h2,fun j d v hd hv=>ko hA hG _ d v (hm d (List.mem_of_getElem? hd)) (h3 j d v hd hv),h4⟩
  |arr e n cs fz=>
   obtain⟨c,h1,h2,h3,h4,h5,h6,h7,h8⟩:=hok;exact⟨c,h1,h2,h3,h4,h5,fun j d v hd hv=> .clo ((h6 j d v hd hv).closed (h8 d (List.mem_of_getElem? hd))),h7,h8⟩
  |map ks vs fz=>
   obtain⟨es,ck,h1,h2,h3,h4,h5,h6,h7⟩:=hok;exact⟨es,ck,h1,h2,h3,fun j d v hd hv=> .clo ((h4 j d v hd hv).closed (h7 d (.inl (List.mem_of_getElem? hd)))),fun j d v hd hv=> .clo ((h5 j d v hd hv).closed (h7 d (.inr (List.mem_of_getElem? hd)))),h6,h7⟩
  |mrf ks vs fz=>
   obtain⟨es,ck,h1,h2,h3,h4,h5,h6,h7⟩:=hok;simp only[lU,zd7] at hm;exact⟨es,ck,h1,h2,h3,fun j d v hd hv=> .clo ((h4 j d v hd hv).closed (h7 d (List.mem_of_getElem? hd))),fun j d v hd hv=>ko hA hG _ d v.val (hm d (List.mem_of_getElem? hd)) (h5 j d v hd hv),h6,h7⟩
  |sit b pos=>exact hok
  |raw c e=>exact hok
  |nst e er nr cs=>exact hok
 ·by_cases e:s'=s
  ·simp[A',e] at hx
  ·rw[hA s' g e] at hx;obtain⟨o,ho⟩:=h.ar s' g x hx;exact⟨o,by rw[bO (Ne.symm e)];exact ho⟩
 ·by_cases e1:s1=s
  ·simp[A',e1] at h1
  ·by_cases e2:s2=s
   ·simp[A',e2] at h2
   ·rw[hA _ _ e1] at h1;rw[hA _ _ e2] at h2;exact h.inj s1 g1 x1 s2 g2 x2 h1 h2 he
 ·by_cases e:s'=s
  ·simp[A',e] at hz
  ·exact⟨s',g,by rw[←hA s' g e];exact hz⟩
 ·by_cases e:s'=s
  ·simp[A',e] at hx
  ·rw[hA s' g e] at hx;exact⟨s',g,hx⟩
theorem sb:∀(jk:List Nat) (T:List D),(ic T jk).length=T.length
 |[],_=>rfl
 |t::jk,T=>by simp only[ic];rw[sb jk];simp
theorem Inv.junk:∀(jk:List Nat) {σ:St},Inv I0 B I A σ a w→Inv I0 B I A ⟨ic σ.T jk,σ.H⟩ a w
 |[],_,h=>h
 |t::jk,σ,h=>by
  refine Inv.junk jk (σ:=⟨σ.T.set t .junk,σ.H⟩) ⟨by simpa using h.tl,fun t' d v hd hv=> ?_,h.ob,h.ar,h.inj,h.iw,h.io,h.ii,h.df,h.rw⟩;simp only[List.getElem?_set] at hd;split at hd
  ·split at hd
   ·cases hd;exact .clo (.junk v)
   ·cases hd
  ·exact h.tv t' d v hd hv
end
def mW(s g s':Nat):Nat→D→Option D
 |0,_=>none
 |n+1,d=>match d with
  | .loc s1 g1 o=>if s1=s then(if g1=g then some (.loc s' 0 o) else none) else if s1=s' then none else some (.loc s1 g1 o)
  | .own s1 g1 l=>if s1=s then(if g1=g then some (.own s' 0 l) else none) else if s1=s' then none else some (.own s1 g1 l)
  | .win s1 g1 o l n=>if s1=s then(if g1=g then some (.win s' 0 o l n) else none) else if s1=s' then none else some (.win s1 g1 o l n)
  | .mloc s1 g1=>if s1=s then(if g1=g then some (.mloc s' 0) else none) else if s1=s' then none else some (.mloc s1 g1)
  | .fn f a b=>match cZ (mW s g s' n) a with
   |none=>none
   |some a'=>match cZ (mW s g s' n) b with
    |none=>none
    |some b'=>some (.fn f a' b')
  | .agg cs=>match cZ (mW s g s' n) cs with
   |none=>none
   |some cs'=>some (.agg cs')
  | .tup cs=>match cZ (mW s g s' n) cs with
   |none=>none
   |some cs'=>some (.tup cs')
  | .ifc t d=>match mW s g s' n d with
   |none=>none
   |some d'=>some (.ifc t d')
  |d=>some d
def xG(s g s':Nat):Nat×Option Ob→Option (Nat×Option Ob)
 |(n,some (.box cs fz))=>match cZ (mW s g s' depth) cs with
  |some cs'=>some (n,some (.box cs' fz))
  |none=>none
 |(n,some (.mrf ks vs fz))=>match cZ (mW s g s' depth) vs with
  |some vs'=>some (n,some (.mrf ks vs' fz))
  |none=>none
 |p=>some p
def HT:Option (Nat×Option Ob)→Bool
 |some (_,some _)=>true
 |_=>false
def St.ren1(σ:St)(s s':Nat):Option St:=match σ.H[s]? with
 |some (0,none)=>some σ
 |some (n+1,some _)=>if s'<σ.H.length∧(s=s'∨HT σ.H[s']?=false) then
   match cZ (mW s n s' depth) σ.T,cZ (xG s n s') σ.H with
   |some T',some H'=>match H'[s]? with
    |some (_,some o)=>some ⟨T',(H'.set s (0,none)).set s' (1,some o)⟩
    |_=>none
   |_,_=>none
  else none
 |some (_+1,none)=>if σ.T.all (eP s depth)&&(σ.H.set s (0,none)).all (lU s) then some ⟨σ.T,σ.H.set s (0,none)⟩ else none
 |_=>none
def St.rens(σ:St):List (Nat×Nat)→Option St
 |[]=>some σ
 |(s,s')::l=>match σ.ren1 s s' with
  |some σ'=>σ'.rens l
  |none=>none
section
variable {Fx:Act→Prop}{KK I0:Nat→Prop}{B:Nat→Prop}{I:Nat→Prop}{A A':Nat→Nat→Option Gh}{G G':Nat→Nat}{σ:St}{a:Act}{w w0:World}{s g s':Nat}
theorem gp{α β:Type}{f:α→Option β}{l:List α}{r:List β}(h:cZ f l=some r){j:Nat}{y:β}(hy:r[j]?=some y):∃x,l[j]?=some x∧f x=some y:=by
 obtain⟨h1,h2⟩:=cT h;have hj:j<l.length:=by rw[h1];exact(zc1.1 hy).1
 obtain⟨y',a1,a2⟩:=h2 j _ (zd2 hj);rw[hy] at a2;cases a2;exact⟨_,zd2 hj,a1⟩
theorem vv(hA0:A' s' 0=A s g)(hG0:0<G' s')(hA:∀s1 g1,s1≠s→s1≠s'→A' s1 g1=A s1 g1)(hG:∀s1,s1≠s→s1≠s'→G' s1=G s1):
  ∀(n:Nat) (d d':D) (v:Value),mW s g s' n d=some d'→RelV I A G w d v→RelV I A' G' w d' v
 |0,_,_,_,h,_=>by cases h
 |n+1,d,d',v,h,hr=>by
  have ih:=vv hA0 hG0 hA hG n;have CJ:∀{cs cs':List D} {vs:Array Value},cZ (mW s g s' n) cs=some cs'→cs.length=vs.size→(∀(j:Nat) (d:D) (u:Value),cs[j]?=some d→vs[j]?=some u→RelV I A G w d u)→
    cs'.length=vs.size∧∀(j:Nat) (d:D) (u:Value),cs'[j]?=some d→vs[j]?=some u→RelV I A' G' w d u:=fun hm hl hr=>by
   refine⟨by rw[←(cT hm).1];exact hl,fun j d u hd hu=> ?_⟩;obtain⟨x,hx,hxd⟩:=gp hm hd;exact ih x d u hxd (hr j x u hx hu)
  unfold mW at h;split at h
  ·rename_i s1 g1 o;cases hr with
   |clo hc=>cases hc
   |loc _ _ _ ad hg hx=>
    split at h
    ·rename_i e;subst e;split at h
     ·rename_i e2;subst e2;cases h;exact .loc _ _ _ ad hG0 fun x hx'=>hx x (by rw[←hA0];exact hx')
     ·cases h
    ·rename_i e;split at h
     ·cases h
     ·rename_i e2;cases h;exact .loc _ _ _ ad (by rw[hG _ e e2];exact hg) fun x hx'=>hx x (by rw[←hA _ _ e e2];exact hx')
  ·rename_i s1 g1 l;cases hr with
   |clo hc=>cases hc
   |own _ _ _ ad cap hg hl hx=>
    split at h
    ·rename_i e;subst e;split at h
     ·rename_i e2;subst e2;cases h;exact .own _ _ _ ad cap hG0 hl fun x hx'=>hx x (by rw[←hA0];exact hx')
     ·cases h
    ·rename_i e;split at h
     ·cases h
     ·rename_i e2;cases h;exact .own _ _ _ ad cap (by rw[hG _ e e2];exact hg) hl fun x hx'=>hx x (by rw[←hA _ _ e e2];exact hx')
  ·rename_i s1 g1 o l n;cases hr with
   |clo hc=>cases hc
   |win _ _ _ _ _ ad cap hg hl hx=>
    split at h
    ·rename_i e;subst e;split at h
     ·rename_i e2;subst e2;cases h;exact .win _ _ _ _ _ ad cap hG0 hl fun hp x hx'=>hx hp x (by rw[←hA0];exact hx')
     ·cases h
    ·rename_i e;split at h
     ·cases h
     ·rename_i e2;cases h;exact .win _ _ _ _ _ ad cap (by rw[hG _ e e2];exact hg) hl fun hp x hx'=>hx hp x (by rw[←hA _ _ e e2];exact hx')
  ·rename_i s1 g1;cases hr with
   |clo hc=>cases hc
   |mloc _ _ b hg hx=>
    split at h
    ·rename_i e;subst e;split at h
     ·rename_i e2;subst e2;cases h;exact .mloc _ _ b hG0 fun x hx'=>hx x (by rw[←hA0];exact hx')
     ·cases h
    ·rename_i e;split at h
     ·cases h
     ·rename_i e2;cases h;exact .mloc _ _ b (by rw[hG _ e e2];exact hg) fun x hx'=>hx x (by rw[←hA _ _ e e2];exact hx')
  ·rename_i f x y;split at h
   ·cases h
   ·rename_i x' hx';split at h
    ·cases h
    ·rename_i y' hy';cases h;obtain⟨vx,vy,rfl,l1,l2,r1,r2⟩:=hr.fn_inv;obtain⟨p1,p2⟩:=CJ hx' l1 r1;obtain⟨q1,q2⟩:=CJ hy' l2 r2;exact .fn _ _ _ _ _ p1 q1 p2 q2
  ·rename_i cs;split at h
   ·cases h
   ·rename_i cs' hcs;cases h;obtain⟨vs,rfl,l1,r1⟩:=hr.agg_inv;obtain⟨p1,p2⟩:=CJ hcs l1 r1;exact .agg _ _ p1 p2
  ·rename_i cs;split at h
   ·cases h
   ·rename_i cs' hcs;cases h;obtain⟨vs,rfl,l1,r1⟩:=hr.tup_inv;obtain⟨p1,p2⟩:=CJ hcs l1 r1;exact .tup _ _ p1 p2
  ·rename_i t x;split at h
   ·cases h
   ·rename_i x' hx';cases h;obtain⟨u,rfl,r1⟩:=hr.ifc_inv;exact .ifc _ _ _ (ih _ _ _ hx' r1)
  ·rename_i n1 n2 nw n3 n4 n5 n6 n7;cases h;cases hr with
   |clo h=>exact .clo h
   |loc=>exact absurd rfl (n1 _ _ _)
   |own=>exact absurd rfl (n2 _ _ _)
   |win=>exact absurd rfl (nw _ _ _ _ _)
   |mloc=>exact absurd rfl (n3 _ _)
   |fn=>exact absurd rfl (n4 _ _ _)
   |agg=>exact absurd rfl (n5 _)
   |tup=>exact absurd rfl (n6 _)
   |ifc=>exact absurd rfl (n7 _ _)
theorem y8(hR:∀(d d':D) (v:Value),mW s g s' depth d=some d'→RelV I A G w d v→RelV I A' G' w d' v){k k':Nat}{o o':Ob}(h:xG s g s' (k,some o)=some (k',some o')){x:Gh}(hok:OkOb I A G w x o):OkOb I A' G' w x o':=by
 unfold xG at h;split at h
 ·rename_i n cs fz e;split at h
  ·rename_i cs' hcs;cases e;cases h;obtain⟨c,e,h1,h2,h3,h4⟩:=hok;refine⟨c,e,h1,by rw[←(cT hcs).1];exact h2,fun j d v hd hv=> ?_,h4⟩;obtain⟨x,hx,hxd⟩:=gp hcs hd;exact hR x d v hxd (h3 j x v hx hv)
  ·cases h
 ·rename_i n ks vs fz e;split at h
  ·rename_i vs' hvs;cases e;cases h;obtain⟨es,ck,h1,h2,h3,h4,h5,h6,h7⟩:=hok;refine⟨es,ck,h1,h2,by rw[←(cT hvs).1];exact h3,fun j d v hd hv=> .clo ((h4 j d v hd hv).closed (h7 d (List.mem_of_getElem? hd))),fun j d v hd hv=> ?_,h6,h7⟩;obtain⟨x,hx,hxd⟩:=gp hvs hd;exact hR x d v.val hxd (h5 j x v hx hv)
  ·cases h
 ·rename_i hne hne2;cases h;cases o with
  |box cs fz=>exact absurd rfl (hne _ _ _)
  |mrf ks vs fz=>exact absurd rfl (hne2 _ _ _ _)
  |arr e n cs fz=>
   obtain⟨c,h1,h2,h3,h4,h5,h6,h7,h8⟩:=hok;exact⟨c,h1,h2,h3,h4,h5,fun j d v hd hv=> .clo ((h6 j d v hd hv).closed (h8 d (List.mem_of_getElem? hd))),h7,h8⟩
  |map ks vs fz=>
   obtain⟨es,ck,h1,h2,h3,h4,h5,h6,h7⟩:=hok;exact⟨es,ck,h1,h2,h3,fun j d v hd hv=> .clo ((h4 j d v hd hv).closed (h7 d (.inl (List.mem_of_getElem? hd)))),fun j d v hd hv=> .clo ((h5 j d v hd hv).closed (h7 d (.inr (List.mem_of_getElem? hd)))),h6,h7⟩
  |sit b pos=>exact hok
  |raw c e=>exact hok
  |nst e er nr cs=>exact hok
theorem mb{p p':Nat×Option Ob}(h:xG s g s' p=some p'):p'.1=p.1∧(p'.2.isSome=p.2.isSome):=by
 unfold xG at h;split at h
 ·split at h
  ·cases h;exact⟨rfl,rfl⟩
  ·cases h
 ·split at h
  ·cases h;exact⟨rfl,rfl⟩
  ·cases h
 ·cases h;exact⟨rfl,rfl⟩
theorem vw{s g s' k k':Nat}{o0:Ob}{e er:TypeId}{nr:Nat}{cs:List D}(h:xG s g s' (k,some o0)=some (k',some (.nst e er nr cs))):o0= .nst e er nr cs:=by
 unfold xG at h;split at h
 ·split at h<;>cases h
 ·split at h<;>cases h
 ·cases h;rfl
theorem Inv.ren(h:Inv I0 B I A σ a w){s s':Nat}{σ':St}(hr:σ.ren1 s s'=some σ'):∃A',Inv I0 B I A' σ' a w∧Turn I I A A' σ.H σ'.H w:=by
 unfold St.ren1 at hr;split at hr
 ·cases hr;exact⟨A,h,.refl⟩
 ·rename_i n o0 hs;split at hr
  ·rename_i hcond;obtain⟨hlt',hdead⟩:=hcond;split at hr
   ·rename_i T' H' hT hH;split at hr
    ·rename_i k' o hs1;cases hr;have hsl:s<σ.H.length:=(zc1.1 hs).1;have hlen:σ.H.length=H'.length:=(cT hH).1;obtain⟨p0,hp0,hp1⟩:=gp hH hs1;rw[hs] at hp0;cases hp0;have hlive:bi σ.H s n=some o0:=liveH_some.2 hs;obtain⟨xs,hxs,hxB,hxok⟩:=h.ob s n o0 hlive
     let A':Nat→Nat→Option Gh:=fun s1 g1=>if s1=s' then(if g1=0 then A s n else none) else if s1=s then none else A s1 g1
     have getH:∀s1,s1≠s→s1≠s'→((H'.set s (0,none)).set s' (1,some o))[s1]?=H'[s1]?:=fun s1 e e'=>by
      rw[List.getElem?_set_ne (Ne.symm e'),List.getElem?_set_ne (Ne.symm e)]
     have hnew:((H'.set s (0,none)).set s' (1,some o))[s']?=some (1,some o):=by
      rw[List.getElem?_set_self];simp only[List.length_set];omega
     have hold:s≠s'→((H'.set s (0,none)).set s' (1,some o))[s]?=some (0,none):=fun e=>by
      rw[List.getElem?_set_ne (Ne.symm e),List.getElem?_set_self];omega
     have hG:∀s1,s1≠s→s1≠s'→bl ((H'.set s (0,none)).set s' (1,some o)) s1=bl σ.H s1:=fun s1 e e'=>by
      unfold bl;rw[getH s1 e e'];cases hq:σ.H[s1]? with
      |none=>
       have:H'[s1]?=none:=by
        rw[List.getElem?_eq_none_iff] at hq ⊢;omega
       rw[this]
      |some p=>
       obtain⟨p',a1,a2⟩:=(cT hH).2 s1 p hq;rw[a2];have:=(mb a1).1;obtain⟨x,y⟩:=p;obtain⟨x',y'⟩:=p';simpa using this
     have hG0:0<bl ((H'.set s (0,none)).set s' (1,some o)) s':=by simp only[bl,hnew];omega
     have hR:∀(d d':D) (v:Value),mW s n s' depth d=some d'→RelV I A (bl σ.H) w d v→RelV I A' (bl ((H'.set s (0,none)).set s' (1,some o))) w d' v:=
      vv (by simp[A']) hG0 (fun s1 g1 e e'=>by simp[A',e,e']) hG depth
     have hm:∀s1 g1 e1 er nr cs x,bi ((H'.set s (0,none)).set s' (1,some o)) s1 g1=some (.nst e1 er nr cs)→A' s1 g1=some x→∃s2 g2,bi σ.H s2 g2=some (.nst e1 er nr cs)∧A s2 g2=some x:=fun s1 g1 e1 er nr cs x ho hx=>by
      rw[liveH_some] at ho;by_cases e':s1=s'
      ·subst e';rw[hnew] at ho;have hg:g1=0:=by simp at ho;omega
       subst hg;simp at ho;subst ho;simp only[A',if_true] at hx;refine⟨s,n,?_,hx⟩;rw[hlive];exact congrArg some (vw hp1)
      ·by_cases e:s1=s
       ·subst e;rw[hold e'] at ho;simp at ho
       ·rw[getH s1 e e'] at ho;obtain⟨p,hp,hpp⟩:=gp hH ho;have hf:=mb hpp;obtain⟨pk,po⟩:=p;simp at hf;obtain⟨rfl,hf2⟩:=hf;cases po with
        |none=>simp at hf2
        |some po=>
         have:=vw hpp;subst this;exact⟨s1,g1,liveH_some.2 hp,by simpa [A',e,e'] using hx⟩
     refine⟨A',⟨by rw[←(cT hT).1];exact h.tl,fun t d v hd hv=> ?_,fun s1 g1 o1 ho=> ?_,fun s1 g1 x hx=> ?_,fun s1 g1 x1 s2 g2 x2 h1 h2 he=> ?_,h.iw,h.io,h.ii,h.df,?_⟩,fun s1 g1 x hx=> ?_,fun _ hb=>hb,fun _ hb=> .inl hb,Rows.left hm⟩
     ·obtain⟨x,hx,hxd⟩:=gp hT hd;exact hR x d v hxd (h.tv t x v hx hv)
     ·rw[liveH_some] at ho;by_cases e':s1=s'
      ·subst e';rw[hnew] at ho;have hg:g1=0:=by simp at ho;omega
       subst hg;simp at ho;subst ho;exact⟨xs,by simpa [A'] using hxs,hxB,y8 hR hp1 hxok⟩
      ·by_cases e:s1=s
       ·subst e;rw[hold e'] at ho;simp at ho
       ·rw[getH s1 e e'] at ho;obtain⟨p,hp,hpp⟩:=gp hH ho;have hf:=mb hpp;obtain⟨pk,po⟩:=p;simp at hf;obtain⟨rfl,hf2⟩:=hf;cases po with
        |none=>simp at hf2
        |some po=>
         obtain⟨x,hx,hxB',hok⟩:=h.ob s1 g1 po (liveH_some.2 hp);exact⟨x,by simpa [A',e,e'] using hx,hxB',y8 hR hpp hok⟩
     ·by_cases e':s1=s'
      ·subst e';simp only[A',if_true] at hx;split at hx
       ·rename_i e0;subst e0;exact⟨o,liveH_some.2 hnew⟩
       ·cases hx
      ·by_cases e:s1=s
       ·simp[A',e] at hx;subst e;exact absurd hx.1 (by simpa using e')
       ·simp only[A',e',e,if_false] at hx;obtain⟨o1,ho1⟩:=h.ar s1 g1 x hx;rw[liveH_some] at ho1;obtain⟨p',a1,a2⟩:=(cT hH).2 s1 _ ho1;have hf:=mb a1;obtain⟨pk,po⟩:=p';simp at hf;obtain⟨rfl,hf2⟩:=hf;obtain⟨po,rfl⟩:=Option.isSome_iff_exists.1 hf2;refine⟨po,liveH_some.2 ?_⟩;rw[getH s1 e e'];exact a2
     ·have key:∀s1 g1 x,A' s1 g1=some x→(s1=s'∧g1=0∧A s n=some x)∨(s1≠s'∧s1≠s∧A s1 g1=some x):=fun s1 g1 x hx=>by
       by_cases e':s1=s'
       ·subst e';simp only[A',if_true] at hx;split at hx
        ·rename_i e0;exact .inl ⟨rfl,e0,hx⟩
        ·cases hx
       ·by_cases e:s1=s
        ·simp only[A',e',if_false] at hx;simp[e] at hx
        ·simp only[A',e',e,if_false] at hx;exact .inr ⟨e',e,hx⟩
      rcases key _ _ _ h1 with⟨rfl,rfl,b1⟩|⟨b1,b2,b3⟩<;>rcases key _ _ _ h2 with⟨rfl,rfl,c1⟩|⟨c1,c2,c3⟩
      ·exact⟨rfl,rfl⟩
      ·exact absurd (h.inj _ _ _ _ _ _ b1 c3 he).1.symm c2
      ·exact absurd (h.inj _ _ _ _ _ _ b3 c1 he).1 b2
      ·exact h.inj _ _ _ _ _ _ b3 c3 he
     ·refine h.rw.sub0 hm (fun s1 g1 x hx=> ?_)
      ·by_cases e':s1=s'
       ·subst e';simp only[A',if_true] at hx;split at hx
        ·exact⟨s,n,hx⟩
        ·cases hx
       ·by_cases e:s1=s
        ·simp only[A',e',if_false] at hx;simp[e] at hx
        ·simp only[A',e',e,if_false] at hx;exact⟨s1,g1,hx⟩
     ·by_cases e':s1=s'
      ·subst e';simp only[A',if_true] at hx;split at hx
       ·exact⟨s,n,hx⟩
       ·cases hx
      ·by_cases e:s1=s
       ·simp only[A',e',if_false] at hx;simp[e] at hx
       ·simp only[A',e',e,if_false] at hx;exact⟨s1,g1,hx⟩
    ·cases hr
   ·cases hr
  ·cases hr
 ·split at hr
  ·rename_i hc;cases hr;simp only[zc4] at hc;exact h.reset s hc.1 hc.2
  ·cases hr
 ·cases hr
theorem Inv.rens:∀(l:List (Nat×Nat)) {σ σ':St} {A:Nat→Nat→Option Gh},Inv I0 B I A σ a w→σ.rens l=some σ'→∃A',Inv I0 B I A' σ' a w∧Turn I I A A' σ.H σ'.H w
 |[],σ,σ',A,h,hr=>by cases hr;exact⟨A,h,.refl⟩
 |(s,s')::l,σ,σ',A,h,hr=>by
  simp only[St.rens] at hr;split at hr
  ·rename_i σ1 h1;obtain⟨A1,h2,hs⟩:=h.ren h1;obtain⟨A2,h3,hs2⟩:=Inv.rens l h2 hr;exact⟨A2,h3,hs.trans hs2⟩
  ·cases hr
def canon0:D→D
 | .nils=> .slc true 0 []
 |d=>d
def canon1:D→D
 | .agg cs=> .agg (cs.map canon0)
 |d=>canon0 d
def Oy:D→D
 | .fn _ _ _=> .junk
 | .nilf=> .junk
 |d=>canon0 d
def xH:Ob→Ob
 | .box cs fz=> .box (cs.map Oy) fz
 |o=>o
def EK(p:Nat×Option Ob):Nat×Option Ob:=(p.1,p.2.map xH)
def St.cn(σ:St):Bool→St
 |false=>σ
 |true=>⟨σ.T.map canon1,σ.H.map EK⟩
def KR:D→D
 | .nils=> .osl true 0 []
 |d=>d
def Og:D→D
 | .agg cs=> .agg (cs.map KR)
 |d=>d
def vA:Ob→Ob
 | .box (c0::c1::cs) fz=> .box ((c0::c1::cs).map KR) fz
 |o=>o
def EL(p:Nat×Option Ob):Nat×Option Ob:=(p.1,p.2.map vA)
def St.oc(σ:St):Bool→St
 |false=>σ
 |true=>⟨σ.T.map Og,σ.H.map EL⟩
structure Norm where
 keep:List Nat
 kl:List Nat:=[]
 ren:List (Nat×Nat):=[]
 cn:Bool:=false
 oc:Bool:=false
 cl:List Nat:=[]
 fz:List Nat:=[]
 gc:List Nat:=[]
def St.gcL(σ:St)(ss:List Nat):List Nat:=ss.filter fun s=>σ.T.all (eP s depth)&&σ.H.all (lU s)
def kX:List Nat→Nat→List D→List D
 |_,_,[]=>[]
 |ks,i,d::T=>(if ks.contains i then d else .junk)::kX ks (i+1) T
def tB(H:List (Nat×Option Ob))(s:Nat):List (Nat×Option Ob):=match H[s]? with
 |some (n,some (.nst e _ _ cs))=>H.set s (n,some (.arr e 1 cs false))
 |_=>H
def St.close(σ:St):List Nat→St
 |[]=>σ
 |s::ss=>(St.mk σ.T (tB σ.H s)).close ss
def y9(H:List (Nat×Option Ob))(s:Nat):List (Nat×Option Ob):=match H[s]? with
 |some (g+1,some (.box cs false))=>(match cA (bJ H depth) cs with
  |some (cs',ss)=>if ss.contains s then H else(br H ss).set s (g+1,some (.box cs' false))
  |none=>H)
 |_=>H
def St.snap1(σ:St)(t:Nat):St:=match σ.T[t]? with
 |some d=>(match bJ σ.H depth d with
  |some (d',ss)=>⟨σ.T.set t d',br σ.H ss⟩
  |none=>σ)
 |none=>σ
def St.sea7(σ:St):List Nat→St
 |[]=>σ
 |s::ss=>(if 100000≤s then σ.snap1 (s-100000) else St.mk σ.T (y9 σ.H s)).sea7 ss
def St.norm(σ:St)(i:Norm):Option St:=St.rens (St.kill ⟨kX i.keep 0 ((((σ.sea7 i.fz).close i.cl).cn i.cn).oc i.oc).T,((((σ.sea7 i.fz).close i.cl).cn i.cn).oc i.oc).H⟩ (i.kl++(St.mk (kX i.keep 0 ((((σ.sea7 i.fz).close i.cl).cn i.cn).oc i.oc).T) ((((σ.sea7 i.fz).close i.cl).cn i.cn).oc i.oc).H).gcL i.gc)) i.ren
theorem Inv.close1{a:Act}{w:World}{σ:St}{A:Nat→Nat→Option Gh}(h:Inv I0 KK I A σ a w)(s:Nat):∃I',Inv I0 KK I' A ⟨σ.T,tB σ.H s⟩ a w∧(∀b,I b→I' b)∧(∀b,I' b→I b∨RowB A σ.H w b)∧∀b,RowB A (tB σ.H s) w b→RowB A σ.H w b:=by
 unfold tB;split
 ·rename_i n e er nr cs hs;have hlen:s<σ.H.length:=(zc1.1 hs).1;obtain⟨I',hI'⟩:∃I':Nat→Prop,I'=fun b=>I b∨∃g x j,n=g+1∧A s g=some x∧RowAt A σ.H w x j b:=⟨_,rfl⟩;have hsub:∀b,I b→I' b:=fun b hb=>by rw[hI'];exact .inl hb
  have hG:∀s',bl (σ.H.set s (n,some (.arr e 1 cs false))) s'=bl σ.H s':=fun s'=>by
   by_cases e1:s'=s
   ·subst e1;rw[cu hlen];simp[bl,hs]
   ·exact cq (Ne.symm e1)
  have hGf:bl (σ.H.set s (n,some (.arr e 1 cs false)))=bl σ.H:=funext hG;have hL:∀s' g o,bi (σ.H.set s (n,some (.arr e 1 cs false))) s' g=some o→(s'=s∧n=g+1∧o= .arr e 1 cs false)∨(s'≠s∧bi σ.H s' g=some o):=fun s' g o ho=>by
   by_cases e1:s'=s
   ·subst e1;rw[bQ hlen] at ho;split at ho
    ·rename_i e2;cases ho;exact .inl ⟨rfl,e2,rfl⟩
    ·cases ho
   ·rw[bO (Ne.symm e1)] at ho;exact .inr ⟨e1,ho⟩
  have hR:∀d v,RelV I A (bl σ.H) w d v→RelV I' A (bl σ.H) w d v:=fun d v hr=>hr.mono hsub (fun _ _=>rfl) (fun _=>zb0 _) (fun _ _ _ _ hy=>hy);have hnA:∀s' g x,A s' g=some x→I' x.b→I x.b:=fun s' g x hx hi=>by
   rw[hI'] at hi;rcases hi with hi|⟨g',y,j,_,_,hr⟩
   ·exact hi
   ·exact absurd rfl ((h.rw.sep _ _ _ hr).2.2.2 _ _ _ hx)
  have hrow:∀s' g x j b,s'≠s→A s' g=some x→RowAt A σ.H w x j b→¬I' b:=fun s' g x j b hne hx hr hi=>by
   rw[hI'] at hi;rcases hi with hi|⟨g',y,j',_,hy,hr'⟩
   ·exact(h.rw.sep _ _ _ hr).2.1 hi
   ·exact hne (h.inj _ _ _ _ _ _ hx hy (h.rw.inj _ _ _ _ _ hr hr').1).1
  have hback:∀x j b,RowAt A (σ.H.set s (n,some (.arr e 1 cs false))) w x j b→RowAt A σ.H w x j b∧∃s' g,s'≠s∧A s' g=some x:=fun x j b hb=>by
   obtain⟨s',g',e1,er1,nr1,cs1,c,f,len,rs,cap,k1,k2,k3,k4,k5⟩:=hb;rcases hL _ _ _ k2 with⟨_,_,k2⟩|⟨es,k2⟩
   ·cases k2
   ·exact⟨⟨s',g',e1,er1,nr1,cs1,c,f,len,rs,cap,k1,k2,k3,k4,k5⟩,s',g',es,k1⟩
  refine⟨I',⟨h.tl,fun t d v hd hv=>by show RelV I' A (bl (σ.H.set s _)) w d v;rw[hGf];exact hR _ _ (h.tv t d v hd hv),fun s' g o ho=> ?_,fun s' g x hx=> ?_,h.inj,fun b hb=> ?_,fun b hb=> ?_,fun b hb=>hsub b (h.ii b hb),h.df.mono hsub fun _ _=>rfl,?_⟩,hsub,fun b hb=> ?_,fun b hb=> ?_⟩
  ·show∃x,_∧_∧OkOb I' A (bl (σ.H.set s _)) w x o;rw[hGf];rcases hL s' g o ho with⟨rfl,hn,rfl⟩|⟨hne,ho⟩
   ·have hl:bi σ.H s' g=some (.nst e er nr cs):=liveH_some.2 (by rw[hs,hn]);obtain⟨x,hx,hxB,c,q1,q2,q3,q4,q5,q6⟩:=h.ob s' g _ hl;refine⟨x,hx,hxB.imp (hsub _) id,c,q1,by omega,q3,q4,by omega,?_⟩;have cells:∀(j:Nat) (d:D) (v:Value),cs[j]?=some d→c[j]?=some v→RelC I' w d v:=fun j d v hd hv=>by
     have hok:=h.rw.ok _ _ _ _ _ _ _ _ hl hx q1 j d v hd hv;cases d with
     |junk=>exact .junk v
     |nils=>rw[show v= .slice none 0 0 from hok];exact .nils
     |slc full len rs=>
      obtain⟨hf,b,cap,c2,r1,r2,r3,r4,r5,r6,r7⟩:=hok;subst hf r1;have hle:=Nat.mul_le_mul_right nr r5;have hrb:I' b:=by rw[hI'];exact .inr ⟨g,x,j,hn,hx,⟨s',g,e,er,nr,cs,c,false,len,rs,cap,hx,hl,q1,hd,hv⟩⟩
      refine .slc false len rs ⟨b,0,none⟩ cap (fun j=>c2.getD j undef) (fun _=>hrb) (fun hh=>by cases hh) r5 (fun j dj hj=> ?_) (fun j dj hj=> ?_)
      ·have hlt:=(zc1.1 hj).1;rw[cV r2];simp[show j<c2.size by omega]
      ·have hlt:=(zc1.1 hj).1;exact(r7 j dj _ hj (by simp[show j<c2.size by omega])).mono hsub fun _ _=>rfl
     |_=>cases hok
    refine⟨fun j d v hd hv=> .clo (cells j d v hd hv),⟨(fun hh=>by cases hh),fun hi=>absurd (hnA _ _ _ hx hi) q6⟩,fun d hd=> ?_⟩;obtain⟨j,hj,rfl⟩:=List.getElem_of_mem hd;exact(cells j _ _ (zd2 hj) (Array.getElem?_eq_getElem (by omega))).clo
   ·obtain⟨x,hx,hxB,hok⟩:=h.ob s' g o ho;exact⟨x,hx,hxB.imp (hsub _) id,hok.carry hR rfl ⟨hnA _ _ _ hx,hsub _⟩⟩
  ·obtain⟨o,ho⟩:=h.ar s' g x hx;by_cases e1:s'=s
   ·subst e1;rw[liveH_some,hs] at ho;cases ho;exact⟨.arr e 1 cs false,by show bi (σ.H.set s' _) s' g=_;rw[bQ hlen];simp⟩
   ·exact⟨o,by show bi (σ.H.set s _) s' g=_;rw[bO (Ne.symm e1)];exact ho⟩
  ·rw[hI'] at hb;rcases hb with hb|⟨g,x,j,_,_,hr⟩
   ·exact h.iw b hb
   ·exact(h.rw.sep _ _ _ hr).1
  ·rw[hI'] at hb;rcases hb with hb|⟨g,x,j,_,_,hr⟩
   ·exact h.io b hb
   ·exact .inr (h.rw.sep _ _ _ hr).2.2.1
  ·refine⟨fun s' g e1 er1 nr1 cs1 x c k1 k2 k3 j d v hd hv=> ?_,fun x j b hb=> ?_,fun x j x' j' b k1 k2=>h.rw.inj _ _ _ _ _ (hback _ _ _ k1).1 (hback _ _ _ k2).1⟩
   ·rcases hL _ _ _ k1 with⟨_,_,k1⟩|⟨es,k1⟩
    ·cases k1
    ·exact(h.rw.ok _ _ _ _ _ _ _ _ k1 k2 k3 j d v hd hv).mono hsub (fun _ _=>rfl) fun _ _ _ _ _ _ _=>rfl
   ·obtain⟨hb,s',g,hne,hx⟩:=hback _ _ _ hb;obtain⟨p1,p2,p3,p4⟩:=h.rw.sep _ _ _ hb;exact⟨p1,hrow s' g x j b hne hx hb,p3,p4⟩
  ·rw[hI'] at hb;rcases hb with hb|⟨g,x,j,_,_,hr⟩
   ·exact .inl hb
   ·exact .inr ⟨x,j,hr⟩
  ·obtain⟨x,j,hb⟩:=hb;exact⟨x,j,(hback _ _ _ hb).1⟩
 ·exact⟨I,h,fun _ hb=>hb,fun _ hb=> .inl hb,fun _ hb=>hb⟩
theorem Inv.close{a:Act}{w:World}:∀(ss:List Nat) {σ:St} {I:Nat→Prop} {A:Nat→Nat→Option Gh},Inv I0 KK I A σ a w→∃I',Inv I0 KK I' A (σ.close ss) a w∧Turn I I' A A σ.H (σ.close ss).H w
 |[],σ,I,A,h=>⟨I,h,.refl⟩
 |s::ss,σ,I,A,h=>by
  obtain⟨I1,h1,p1,p2,p3⟩:=h.close1 s;obtain⟨I2,h2,q⟩:=Inv.close ss h1;exact⟨I2,h2,Turn.trans ⟨.refl A,p1,fun b hb=>(p2 b hb).imp id .inl,p3⟩ q⟩
theorem gq{H:List (Nat×Option Ob)}{ss:List Nat}{s g:Nat}{e er:TypeId}{nr:Nat}{cs:List D}(h:bi (br H ss) s g=some (.nst e er nr cs)):bi H s g=some (.nst e er nr cs):=by
 rw[ch] at h;split at h
 ·cases hl:bi H s g with
  |none=>rw[hl] at h;cases h
  |some o1=>
   rw[hl] at h;cases o1<;>first|exact h|cases h
 ·exact h
theorem Inv.seal1{a:Act}{w:World}{σ:St}{A:Nat→Nat→Option Gh}(h:Inv I0 KK I A σ a w)(s:Nat):∃I',Inv I0 KK I' A ⟨σ.T,y9 σ.H s⟩ a w∧Turn I I' A A σ.H (y9 σ.H s) w:=by
 unfold y9;split
 ·rename_i g cs hs;split
  ·rename_i cs' ss hsn;split
   ·exact⟨I,h,.refl⟩
   ·rename_i hc;have hns:s∉ss:=fun hm=>hc (by simpa using hm);have hl:bi σ.H s g=some (.box cs false):=liveH_some.2 hs;obtain⟨y,hy,hyB,c,e,hb,hcl,hrel,hfr⟩:=h.ob s g _ hl;have hnI:¬I y.b:=fun hi=>by have:=hfr.2 hi;cases this
    obtain⟨a1,a2,a3⟩:=dK (I:=I) (A:=A) (w:=w) (cr h depth) _ _ _ hsn;obtain⟨hfz,_⟩:=h.freeze ss a2.free;have hnF:¬du I A ss y.b:=by
     rintro (hi|⟨s',hs',g',y',hy',hb'⟩)
     ·exact hnI hi
     ·exact hns ((h.inj _ _ _ _ _ _ hy hy' hb').1▸hs')
    have hl2:bi (σ.freeze ss).H s g=some (.box cs false):=by
     show bi (br σ.H ss) s g=_;rw[ch,if_neg hns];exact hl
    obtain⟨h6,_⟩:=hfz.set (o':= .box cs' false) hl2 hy hnF (w':=w) rfl (fun _ _=>rfl) (fun _=>⟨c,e,hb,by rw[a1];exact hcl,fun j d v hd hv=>by
     obtain⟨d0,hd0,hr0⟩:=a3 j d hd;exact .clo (hr0 v (hrel j d0 v hd0 hv)),⟨(fun hh=>by cases hh),fun hi=>absurd hi hnF⟩⟩)
    have hst:(σ.freeze ss).setOb s (some (.box cs' false))=⟨σ.T,(br σ.H ss).set s (g+1,some (.box cs' false))⟩:=by
     unfold St.setOb;rw[bT hl2];rfl
    rw[hst] at h6;refine⟨_,h6,.refl A,fun b hb=> .inl hb,fun b hb=> ?_,Rows.left fun s1 g1 e1 er nr cs1 x k1 k2=> ?_⟩
    ·rcases hb with hb|⟨s',_,g',y',hy',e1⟩
     ·exact .inl hb
     ·exact .inr (.inr ⟨s',g',y',hy',e1.symm⟩)
    ·by_cases es:s1=s
     ·subst es;have hlt:s1<(br σ.H ss).length:=by rw[dr];exact dq hl
      rw[bQ hlt] at k1;split at k1<;>cases k1
     ·rw[bO (Ne.symm es)] at k1;exact⟨s1,g1,gq k1,k2⟩
  ·exact⟨I,h,.refl⟩
 ·exact⟨I,h,.refl⟩
theorem Inv.snap1{a:Act}{w:World}{σ:St}{A:Nat→Nat→Option Gh}(h:Inv I0 KK I A σ a w)(t:Nat):∃I',Inv I0 KK I' A (σ.snap1 t) a w∧Turn I I' A A σ.H (σ.snap1 t).H w:=by
 unfold St.snap1;split
 ·rename_i d hd;split
  ·rename_i d' ss hsn;obtain⟨a2,a3⟩:=cr h depth _ _ _ hsn;obtain⟨hfz,_⟩:=h.freeze ss a2.free;have ht:t<σ.T.length:=(zc1.1 hd).1;refine⟨_,⟨by show(σ.T.set t d').length=_;rw[List.length_set];exact h.tl,fun t1 d1 v1 hd1 hv1=> ?_,hfz.ob,hfz.ar,hfz.inj,hfz.iw,hfz.io,hfz.ii,hfz.df,hfz.rw⟩,.refl A,fun b hb=> .inl hb,fun b hb=> ?_,Rows.left fun s1 g1 e1 er nr cs1 x k1 k2=>⟨s1,g1,gq k1,k2⟩⟩
   ·have hd1:(σ.T.set t d')[t1]?=some d1:=hd1;by_cases e:t1=t
    ·subst e;rw[List.getElem?_set_self ht] at hd1;cases hd1;exact .clo (a3 v1 (h.tv t1 d v1 hd hv1))
    ·rw[List.getElem?_set_ne (Ne.symm e)] at hd1;exact hfz.tv t1 d1 v1 hd1 hv1
   ·rcases hb with hb|⟨s',_,g',y',hy',e1⟩
    ·exact .inl hb
    ·exact .inr (.inr ⟨s',g',y',hy',e1.symm⟩)
  ·exact⟨I,h,.refl⟩
 ·exact⟨I,h,.refl⟩
theorem Inv.sea7{a:Act}{w:World}:∀(ss:List Nat) {σ:St} {I:Nat→Prop} {A:Nat→Nat→Option Gh},Inv I0 KK I A σ a w→∃I',Inv I0 KK I' A (σ.sea7 ss) a w∧Turn I I' A A σ.H (σ.sea7 ss).H w
 |[],σ,I,A,h=>⟨I,h,.refl⟩
 |s::ss,σ,I,A,h=>by
  unfold St.sea7;split
  ·obtain⟨I1,h1,p1⟩:=h.snap1 (s-100000);obtain⟨I2,h2,q⟩:=Inv.sea7 ss h1;exact⟨I2,h2,Turn.trans p1 q⟩
  ·obtain⟨I1,h1,p1⟩:=h.seal1 s;obtain⟨I2,h2,q⟩:=Inv.sea7 ss h1;exact⟨I2,h2,Turn.trans p1 q⟩
theorem Inv.kills{a:Act}{w:World}:∀(ks:List Nat) {σ:St} {A:Nat→Nat→Option Gh},Inv I0 KK I A σ a w→∃A',Inv I0 KK I A' (σ.kill ks) a w∧Turn I I A A' σ.H (σ.kill ks).H w
 |[],σ,A,h=>⟨A,h,.refl⟩
 |s::ks,σ,A,h=>by
  have h1:∃A1,Inv I0 KK I A1 (σ.setOb s none) a w∧Turn I I A A1 σ.H (σ.setOb s none).H w:=by
   by_cases hs:s<σ.H.length
   ·obtain⟨A',h',e1,e2,_⟩:=h.kill s hs;refine⟨A',h',fun s1 g x hx=> ?_,fun _ hb=>hb,fun _ hb=> .inl hb,fun b ⟨x,j,hb⟩=>⟨x,j,hb.unkill e1 e2⟩⟩;by_cases e:s1=s
    ·rw[e,e2] at hx;cases hx
    ·exact⟨s1,g,by rw[←e1 s1 g e];exact hx⟩
   ·have:σ.setOb s none=σ:=by
     unfold St.setOb;rw[List.set_eq_of_length_le (by omega)]
    rw[this];exact⟨A,h,.refl⟩
  obtain⟨A1,h1,hs1⟩:=h1;obtain⟨A2,h2,hs2⟩:=Inv.kills ks h1;exact⟨A2,h2,hs1.trans hs2⟩
theorem Good.kill{a:Act}{w:World}(ks:List Nat){σ:St}(hg:Good Fx KK I0 w0 σ a w):Good Fx KK I0 w0 (σ.kill ks) a w:=by
 obtain⟨I,A,h,hb,hfx⟩:=hg;obtain⟨A',h',_⟩:=h.kills ks;exact⟨I,A',h',hb,hfx⟩
theorem sc:∀(ks:List Nat) (i:Nat) (T:List D),(kX ks i T).length=T.length
 |_,_,[]=>rfl
 |ks,i,d::T=>by simp[kX,sc ks (i+1) T]
theorem sd:∀(ks:List Nat) (i:Nat) (T:List D) (t:Nat) (d:D),(kX ks i T)[t]?=some d→d= .junk∨T[t]?=some d
 |_,_,[],t,d,h=>by simp[kX] at h
 |ks,i,d0::T,0,d,h=>by
  simp only[kX,List.getElem?_cons_zero,za0] at h ⊢;split at h
  ·exact .inr h
  ·exact .inl h.symm
 |ks,i,d0::T,t+1,d,h=>by
  simp only[kX,List.getElem?_cons_succ] at h ⊢;exact sd ks (i+1) T t d h
theorem vB{d:D}{v:Value}(h:RelC I w d v):RelC I w (canon0 d) v:=by
 unfold canon0;split
 ·cases h with
  |nils=>exact .slcn true
 ·exact h
theorem lw{d:D}{v:Value}(h:RelV I A G w d v):RelV I A G w (canon0 d) v:=by
 cases d with
 |nils=>rw[h.nils_inv];exact .clo (.slcn true)
 |_=>exact h
theorem xI{d:D}{v:Value}(h:RelV I A G w d v):RelV I A G w (canon1 d) v:=by
 cases d with
 |agg cs=>
  cases h with
  |clo h=>
   cases h with
   |agg _ vs hl hr=>
    refine .clo (.agg _ _ (by simp[hl]) fun j d v hd hv=> ?_);rw[zc3] at hd;cases hc:cs[j]? with
    |none=>rw[hc] at hd;cases hd
    |some d0=>rw[hc] at hd;cases hd;exact vB (hr j d0 v hc hv)
  |agg _ vs hl hr=>
   refine .agg _ _ (by simp[hl]) fun j d v hd hv=> ?_;rw[zc3] at hd;cases hc:cs[j]? with
   |none=>rw[hc] at hd;cases hd
   |some d0=>rw[hc] at hd;cases hd;exact lw (hr j d0 v hc hv)
 |_=>exact lw h
theorem EM{d:D}{v:Value}(h:RelV I A G w d v):RelV I A G w (Oy d) v:=by
 unfold Oy;split
 ·exact .clo (.junk v)
 ·exact .clo (.junk v)
 ·exact lw h
theorem za(H:List (Nat×Option Ob)):bl (H.map EK)=bl H:=by
 funext s
 unfold bl;rw[zc3];cases H[s]? with
 |none=>rfl
 |some p=>rfl
theorem mc(H:List (Nat×Option Ob))(s g:Nat):bi (H.map EK) s g=(bi H s g).map xH:=by
 unfold bi;rw[zc3];cases H[s]? with
 |none=>rfl
 |some p=>
  obtain⟨n,o⟩:=p;cases o with
  |none=>rfl
  |some o=>
   show(if n=g+1 then some (xH o) else none)=(if n=g+1 then some o else none).map xH;split<;>rfl
theorem vC{o:Ob}{e er:TypeId}{nr:Nat}{cs:List D}(h:xH o= .nst e er nr cs):o= .nst e er nr cs:=by
 cases o with
 |nst=>exact h
 |_=>cases h
theorem Inv.cn(h:Inv I0 KK I A σ a w):∀b,Inv I0 KK I A (σ.cn b) a w
 |false=>h
 |true=>by
  refine⟨by show(σ.T.map canon1).length=_;rw[zc2];exact h.tl,fun t d v hd hv=> ?_,fun s g o ho=> ?_,fun s g x hx=> ?_,h.inj,h.iw,h.io,h.ii,h.df,?_⟩
  ·show RelV I A (bl (σ.H.map EK)) w d v;rw[za];have hd:(σ.T.map canon1)[t]?=some d:=hd;rw[zc3] at hd;cases hc:σ.T[t]? with
   |none=>rw[hc] at hd;cases hd
   |some d0=>rw[hc] at hd;cases hd;exact xI (h.tv t d0 v hc hv)
  ·have ho:bi (σ.H.map EK) s g=some o:=ho;rw[mc] at ho;cases hc:bi σ.H s g with
   |none=>rw[hc] at ho;cases ho
   |some o0=>
    rw[hc] at ho;cases ho;obtain⟨x,h1,h2,h3⟩:=h.ob s g o0 hc;refine⟨x,h1,h2,?_⟩;show OkOb I A (bl (σ.H.map EK)) w x (xH o0);rw[za];cases o0 with
    |box cs fz=>
     obtain⟨c,e,q1,q2,q3,q4⟩:=h3;refine⟨c,e,q1,by rw[zc2];exact q2,fun j d v hd hv=> ?_,q4⟩;rw[zc3] at hd;cases hc:cs[j]? with
     |none=>rw[hc] at hd;cases hd
     |some d0=>rw[hc] at hd;cases hd;exact EM (q3 j d0 v hc hv)
    |arr=>exact h3
    |map=>exact h3
    |mrf=>exact h3
    |sit=>exact h3
    |raw=>exact h3
    |nst=>exact h3
  ·obtain⟨o,ho⟩:=h.ar s g x hx;exact⟨xH o,by show bi (σ.H.map EK) s g=_;rw[mc,ho];rfl⟩
  ·refine h.rw.sub0 (fun s g e er nr cs x k1 k2=>⟨s,g,?_,k2⟩) (fun s g z hz=>⟨s,g,hz⟩);have k1:bi (σ.H.map EK) s g=some (.nst e er nr cs):=k1;rw[mc] at k1;cases hc:bi σ.H s g with
   |none=>rw[hc] at k1;cases k1
   |some o0=>rw[hc] at k1;exact congrArg some (vC (Option.some.inj k1))
theorem Cf{d:D}{v:Value}(h:RelC I w d v):RelC I w (KR d) v:=by
 unfold KR;split
 ·cases h with
  |nils=>exact .osln
 ·exact h
theorem zb{d:D}{v:Value}(h:RelV I A G w d v):RelV I A G w (KR d) v:=by
 cases d with
 |nils=>rw[h.nils_inv];exact .clo (.osln)
 |_=>exact h
theorem EN{d:D}{v:Value}(h:RelV I A G w d v):RelV I A G w (Og d) v:=by
 cases d with
 |agg cs=>
  cases h with
  |clo h=>
   cases h with
   |agg _ vs hl hr=>
    refine .clo (.agg _ _ (by simp[hl]) fun j d v hd hv=> ?_);rw[zc3] at hd;cases hc:cs[j]? with
    |none=>rw[hc] at hd;cases hd
    |some d0=>rw[hc] at hd;cases hd;exact Cf (hr j d0 v hc hv)
  |agg _ vs hl hr=>
   refine .agg _ _ (by simp[hl]) fun j d v hd hv=> ?_;rw[zc3] at hd;cases hc:cs[j]? with
   |none=>rw[hc] at hd;cases hd
   |some d0=>rw[hc] at hd;cases hd;exact zb (hr j d0 v hc hv)
 |_=>exact h
theorem zc(H:List (Nat×Option Ob)):bl (H.map EL)=bl H:=by
 funext s
 unfold bl;rw[zc3];cases H[s]? with
 |none=>rfl
 |some p=>rfl
theorem md(H:List (Nat×Option Ob))(s g:Nat):bi (H.map EL) s g=(bi H s g).map vA:=by
 unfold bi;rw[zc3];cases H[s]? with
 |none=>rfl
 |some p=>
  obtain⟨n,o⟩:=p;cases o with
  |none=>rfl
  |some o=>
   show(if n=g+1 then some (vA o) else none)=(if n=g+1 then some o else none).map vA;split<;>rfl
theorem vD{o:Ob}{e er:TypeId}{nr:Nat}{cs:List D}(h:vA o= .nst e er nr cs):o= .nst e er nr cs:=by
 unfold vA at h;split at h
 ·cases h
 ·exact h
theorem Inv.oc(h:Inv I0 KK I A σ a w):∀b,Inv I0 KK I A (σ.oc b) a w
 |false=>h
 |true=>by
  refine⟨by show(σ.T.map Og).length=_;rw[zc2];exact h.tl,fun t d v hd hv=> ?_,fun s g o ho=> ?_,fun s g x hx=> ?_,h.inj,h.iw,h.io,h.ii,h.df,?_⟩
  ·show RelV I A (bl (σ.H.map EL)) w d v;rw[zc];have hd:(σ.T.map Og)[t]?=some d:=hd;rw[zc3] at hd;cases hc:σ.T[t]? with
   |none=>rw[hc] at hd;cases hd
   |some d0=>rw[hc] at hd;cases hd;exact EN (h.tv t d0 v hc hv)
  ·have ho:bi (σ.H.map EL) s g=some o:=ho;rw[md] at ho;cases hc:bi σ.H s g with
   |none=>rw[hc] at ho;cases ho
   |some o0=>
    rw[hc] at ho;cases ho;obtain⟨x,h1,h2,h3⟩:=h.ob s g o0 hc;refine⟨x,h1,h2,?_⟩;show OkOb I A (bl (σ.H.map EL)) w x (vA o0);rw[zc];cases o0 with
    |box cs fz=>
     match cs,h3 with
     |[],h3=>exact h3
     |[_],h3=>exact h3
     |c0::c1::cs,h3=>
      obtain⟨c,e,q1,q2,q3,q4⟩:=h3;refine⟨c,e,q1,by rw[zc2];exact q2,fun j d v hd hv=> ?_,q4⟩;rw[zc3] at hd;cases hc:(c0::c1::cs)[j]? with
      |none=>rw[hc] at hd;cases hd
      |some d0=>rw[hc] at hd;cases hd;exact zb (q3 j d0 v hc hv)
    |arr=>exact h3
    |map=>exact h3
    |mrf=>exact h3
    |sit=>exact h3
    |raw=>exact h3
    |nst=>exact h3
  ·obtain⟨o,ho⟩:=h.ar s g x hx;exact⟨vA o,by show bi (σ.H.map EL) s g=_;rw[md,ho];rfl⟩
  ·refine h.rw.sub0 (fun s g e er nr cs x k1 k2=>⟨s,g,?_,k2⟩) (fun s g z hz=>⟨s,g,hz⟩);have k1:bi (σ.H.map EL) s g=some (.nst e er nr cs):=k1;rw[md] at k1;cases hc:bi σ.H s g with
   |none=>rw[hc] at k1;cases k1
   |some o0=>rw[hc] at k1;exact congrArg some (vD (Option.some.inj k1))
theorem Inv.norm{i:Norm}{σ':St}(hc:σ.norm i=some σ')(h:Inv I0 KK I A σ a w):∃I' A',Inv I0 KK I' A' σ' a w∧Turn I I' A A' σ.H σ'.H w:=by
 obtain⟨I9,h9,t9⟩:=h.sea7 i.fz;obtain⟨I1,h0,t0⟩:=h9.close i.cl;have t0:=Turn.trans t9 t0;have ha:Turn I1 I1 A A ((σ.sea7 i.fz).close i.cl).H ((((σ.sea7 i.fz).close i.cl).cn i.cn).oc i.oc).H w:=by
  refine Turn.trans (A2:=A) (H2:=(((σ.sea7 i.fz).close i.cl).cn i.cn).H) ⟨.refl A,fun _ hb=>hb,fun _ hb=> .inl hb,?_⟩ ⟨.refl A,fun _ hb=>hb,fun _ hb=> .inl hb,?_⟩
  ·cases i.cn with
   |false=>exact fun _ hb=>hb
   |true=>
    refine Rows.left fun s g e er nr cs x k1 k2=>⟨s,g,?_,k2⟩;have k1:bi (((σ.sea7 i.fz).close i.cl).H.map EK) s g=some (.nst e er nr cs):=k1;rw[mc] at k1;cases hc:bi ((σ.sea7 i.fz).close i.cl).H s g with
    |none=>rw[hc] at k1;cases k1
    |some o0=>rw[hc] at k1;exact congrArg some (vC (Option.some.inj k1))
  ·cases i.oc with
   |false=>exact fun _ hb=>hb
   |true=>
    refine Rows.left fun s g e er nr cs x k1 k2=>⟨s,g,?_,k2⟩;have k1:bi ((((σ.sea7 i.fz).close i.cl).cn i.cn).H.map EL) s g=some (.nst e er nr cs):=k1;rw[md] at k1;cases hc:bi (((σ.sea7 i.fz).close i.cl).cn i.cn).H s g with
    |none=>rw[hc] at k1;cases k1
    |some o0=>rw[hc] at k1;exact congrArg some (vD (Option.some.inj k1))
 have h:=(h0.cn i.cn).oc i.oc;have h1:Inv I0 KK I1 A ⟨kX i.keep 0 ((((σ.sea7 i.fz).close i.cl).cn i.cn).oc i.oc).T,((((σ.sea7 i.fz).close i.cl).cn i.cn).oc i.oc).H⟩ a w:=by
  refine⟨by rw[sc];exact h.tl,fun t d v hd hv=> ?_,h.ob,h.ar,h.inj,h.iw,h.io,h.ii,h.df,h.rw⟩;rcases sd _ _ _ _ _ hd with rfl|hd
  ·exact .clo (.junk v)
  ·exact h.tv t d v hd hv
 obtain⟨A2,h2,hs2⟩:=h1.kills _;obtain⟨A',h3,hs3⟩:=h2.rens i.ren hc;exact⟨I1,A',h3,t0.trans (ha.trans (hs2.trans hs3))⟩
theorem Good.norm{i:Norm}{σ':St}(hc:σ.norm i=some σ')(hg:Good Fx KK I0 w0 σ a w):Good Fx KK I0 w0 σ' a w:=by
 obtain⟨I,A,h,hb,hfx⟩:=hg;obtain⟨I',A',h',_⟩:=h.norm hc;exact⟨I',A',h',hb,hfx⟩
end
def tC:Code→Bool
 | .seq a b=>tC a&&tC b
 | .cond _ a b=>tC a&&tC b
 | .block _ c=>tC c
 | .loop c=>tC c
 | .rangeFunc _ _ a b=>tC a&&tC b
 | .scope _=>false
 |_=>true
def EO(o:Oper):Bool:=match o.op with
 | .call k=>(match k.callee with
  | .value _=>o.guard.isNone
  |_=>false)
 | .mapUpdate _ _ _ _=>o.guard.isNone
 |_=>false
def KS(ops:Array Oper)(R:List Nat)(b:Nat):Bool:=decide (b<ops.size)&&((b::(List.range ops.size).drop (b+1)).all fun i=>(List.range b).all fun j=>kL R i j)&&((List.range ops.size).drop (b+1)).all fun i=>kL R i b
def se(ops:Array Oper):Option Nat:=(List.range ops.size).reverse.find? fun b=>(match ops[b]? with
 |some o=>EO o
 |none=>false)&&KS ops (Cd ops) b
def Cg(ops:Array Oper)(ks:List Nat):Bool:=match se ops with
 |some b=>((List.range ops.size).drop b).all fun i=>(match ops[i]? with
  |some o=>(match o.dst with
   |some t=> !ks.contains t
   |none=>true)
  |none=>true)
 |none=>true
def nD(P:Program)(ord:hZ):Code→Bool
 | .region id ops true=>match ord id with
  |none=>eT P ops (List.range ops.size) [] []
  |some i=>match i.no with
   |true=>true
   |false=>match i.bar with
   |true=>eT P ops (List.range ops.size) i.ks i.fs&&Cg ops i.ks
   |false=>eT P ops (i.order ops.size) i.ks i.fs
 | .seq a b=>nD P ord a&&nD P ord b
 | .cond _ a b=>nD P ord a&&nD P ord b
 | .block _ c=>nD P ord c
 | .loop c=>nD P ord c
 | .scope c=>nD P ord c
 | .rangeFunc _ _ a b=>(nD P ord a&&nD P ord b)&&(tC a&&tC b)
 |_=>true
def BB(Fx:Act→Prop):Code→Prop
 | .region _ ops _=>nC Fx ops
 | .seq a b=>BB Fx a∧BB Fx b
 | .cond _ a b=>BB Fx a∧BB Fx b
 | .block _ c=>BB Fx c
 | .loop c=>BB Fx c
 | .scope c=>BB Fx c
 | .rangeFunc _ _ _ _=>∀(x:Act) (d:Deferred),Fx x→Fx {x with defers:=d::x.defers}
 |_=>True
theorem eU:∀(c:Code),BB (fun _=>True) c
 | .region _ _ _=>fun _ _ _ _ _ _=>trivial
 | .seq a b=>⟨eU a,eU b⟩
 | .cond _ a b=>⟨eU a,eU b⟩
 | .block _ c=>eU c
 | .loop c=>eU c
 | .rangeFunc _ _ _ _=>fun _ _ _=>trivial
 | .skip=>trivial
 | .exit _=>trivial
 | .ret=>trivial
 | .scope c=>eU c
 | .label _=>trivial
 | .goto _=>trivial
 | .refuse _=>trivial
def AF:Out→Exit
 | .norm=> .normal
 | .exit id=> .exit id
 | .ret=> .ret
section
variable {E:Env}{Fx:Act→Prop}{KK I0:Nat→Prop}{w0:World}{F:Fence}{n:Nat}
theorem Good.drew(hKs:∀k,KK k→k<w0.heap.size){σ:St}{a:Act}{w:World}(hg:Good Fx KK I0 w0 σ a w)(k:Nat):Good Fx KK I0 w0 σ a {w with drawn:=k}:=by
 obtain⟨I,A,h,hb,hfx⟩:=hg;obtain⟨h',_⟩:=h.world (w':={w with drawn:=k}) (I':=I) (zb0 _) (fun _ _=>rfl) (fun _ hb=>hb) (fun _ hb=> .inl hb) (fun k hk=>zb2 (hKs k hk) hb.size);exact⟨I,A,h',⟨hb.os,hb.tape,hb.output,hb.size,hb.block⟩,hfx⟩
theorem mX:∀(ks:List Nat) (σ:St) (s:Nat),(s∈ks∨Dead σ.H s)→Dead (σ.kill ks).H s
 |[],σ,s,h=>by rcases h with h|h;cases h;exact h
 |k::ks,σ,s,h=>by
  refine mX ks (σ.setOb k none) s ?_;by_cases e:k=s
  ·subst e;refine .inr fun g=> ?_;by_cases hk:k<σ.H.length
   ·simp only[St.setOb,bQ hk,ite_self]
   ·cases hl:bi (σ.setOb k none).H k g with
    |none=>rfl
    |some o=>exact absurd (by simpa [St.setOb] using dq hl) hk
  ·rcases h with h|h
   ·rcases List.mem_cons.1 h with rfl|h
    ·exact absurd rfl e
    ·exact .inl h
   ·exact .inr (h.set e _)
theorem ox(hF:Wide F)(hm:E.P.follows .mixedOrders=true)(hcall:EnvOK E)(hgl:Gl E.gl I0 w0)(hI0:∀b,I0 b→KK b)(hKs:∀k,KK k→k<w0.heap.size)
  {ops:Array Oper} {l ks:List Nat} {fs:List (Nat×Nat)} (hfo:nC Fx ops) (hok:eT E.P ops l ks fs=true) {σ σ':St} {a:Act} {w:World} {id:Nat} {Q:Exit→Act→World→Prop} (hg:Good Fx KK I0 w0 σ a w) (he:da (E.stillF fs) fs ops l (σ.kill ks)=some σ')
  (hQ:∀a' w',Good Fx KK I0 w0 σ' a' w'→Q .normal a' w'):(Code.region id ops true).wpIn F n E.P Q a w:=by
 simp only[eT,zc4,zd7,List.mem_range,zc7] at hok;obtain⟨⟨⟨⟨h1,h2⟩,h3⟩,h4⟩,h5⟩:=hok;have hlt:∀i∈l,i<ops.size:=fun i hi=>by
  obtain⟨u1,u2,hu⟩:=List.append_of_mem hi;obtain⟨oi,b1,_⟩:=fh l [] h5 u1 i u2 hu;exact(zc0.1 b1).1
 have hf:l.filter (dR (Array.replicate ops.size false))=l:=List.filter_eq_self.2 fun i hi=>by
  simp[dR,Array.getD,hlt i hi]
 refine wpIn_region_any hm (lv (E:=E.stillF fs) hF (hcall.stillF fs) (hst:=xE E fs) hgl hI0 hKs hfo (fun i hi=>by simpa using h2 i hi) h3 h4 h5 hQ ops.size _ (σ.kill ks) a _ (by simp) (by rw[hf];exact h1) ?_ ?_ (by rw[hf];exact he) ((hg.kill ks).drew hKs _))
 ·intro k hk;exfalso;simp only[Array.getD,Array.size_replicate] at hk;split at hk<;>simp at hk
 ·intro i oi _ _ s _ hm;exact mX ks σ s (.inl hm)
end
section
variable {P:Program}{I0 B I:Nat→Prop}{A:Nat→Nat→Option Gh}{G:Nat→Nat}{σ:St}{a:Act}{w w':World}{r:Nat}{d:D}{v:Value}
theorem lx{w:World}{ad:Addr}{u:Value}(h:w.cell? ad=some u){q:Option (List Deferred)}{r:Nat}(hr:w.heap[r]?=some (.deferred q)):ad.block≠r:=by
 intro e;unfold World.cell? at h;rw[e,hr] at h;cases h
theorem RelC.shut(h:RelC I w d v){q:Option (List Deferred)}(hr:w.heap[r]?=some (.deferred q))(hw:∀b,b≠r→w'.heap[b]?=w.heap[b]?):RelC (fun b=>I b∧b≠r) w' d v:=by
 have cell:∀(ad:Addr) (u:Value),w.cell? ad=some u→w'.cell? ad=some u:=fun ad u h=>by
  rw[World.cell?_of_block (w:=w) (hw _ (lx h hr))];exact h
 induction h with
 |bool=>exact .bool _
 |int=>exact .int _ _
 |str=>exact .str _
 |nilp=>exact .nilp
 |nils=>exact .nils
 |mnil=>exact .mnil
 |nilf=>exact .nilf
 |nilif=>exact .nilif
 |snap cs off a us h1 hc _ ih=>
  refine .snap cs off a us (fun h=>⟨h1 h,?_⟩) (fun j d hj=>cell _ _ (hc j d hj)) ih;have:=lx (hc 0 _ (zd2 h)) hr
  rwa [eG] at this
 |slc full len cs a cap us h1 hf hl hc _ ih=>
  refine .slc full len cs a cap us (fun h=>⟨h1 h,?_⟩) hf hl (fun j d hj=>cell _ _ (hc j d hj)) ih;have:=lx (hc 0 _ (zd2 h)) hr
  rwa [eG] at this
 |slcn full=>exact .slcn full
 |osln=>exact .osln
 |osls len cs a cap hp _ ih=>exact .osls len cs a cap hp ih
 |msnap ks vs b es clock h1 hb hk hv _ _ ihk ihv=>
  have hne:b≠r:=fun e=>by subst e;rw[hb] at hr;cases hr
  exact .msnap ks vs b es clock ⟨h1,hne⟩ ((hw _ hne).trans hb) hk hv ihk ihv
 |fn f x y vx vy hx hy _ _ ihx ihy=>exact .fn f x y vx vy hx hy ihx ihy
 |ifc t d v _ ih=>exact .ifc t d v ih
 |junk v=>exact .junk v
 |agg cs vs hl _ ih=>exact .agg cs vs hl ih
 |tup cs vs hl _ ih=>exact .tup cs vs hl ih
theorem RelV.shut(h:RelV I A G w d v){q:Option (List Deferred)}(hr:w.heap[r]?=some (.deferred q))(hw:∀b,b≠r→w'.heap[b]?=w.heap[b]?):RelV (fun b=>I b∧b≠r) A G w' d v:=by
 induction h with
 |clo h=>exact .clo (h.shut hr hw)
 |loc s g off ad hg h=>exact .loc s g off ad hg h
 |own s g len ad cap hg hl h=>exact .own s g len ad cap hg hl h
 |win s g off len n ad cap hg hl h=>exact .win s g off len n ad cap hg hl h
 |mloc s g b hg h=>exact .mloc s g b hg h
 |fn f x y vx vy hx hy _ _ ihx ihy=>exact .fn f x y vx vy hx hy ihx ihy
 |ifc t d v _ ih=>exact .ifc t d v ih
 |agg cs vs hl _ ih=>exact .agg cs vs hl ih
 |tup cs vs hl _ ih=>exact .tup cs vs hl ih
theorem Inv.shut(h:Inv I0 B I A σ a w)(hI0:∀b,I0 b→B b){dd:Deferred}{ds:List Deferred}(hd:a.defers=dd::ds):
  ∃r,dd.target= .collected r∧(Instr.takeDeferred r).run P w= .ok [] (w.putObj r (.deferred none))∧¬B r∧Inv I0 B (fun b=>I b∧b≠r) A σ {a with defers:=ds} (w.putObj r (.deferred none)):=by
 obtain⟨rs,h1,h2,h3⟩:=h.df;rw[hd] at h2;cases rs with
 |nil=>simp at h2
 |cons r rs=>
  simp only[List.map_cons,zc5] at h2;obtain⟨hIr,hBr,hr⟩:=h3 r (by simp);have hlt:r<w.heap.size:=(zc0.1 hr).1;have hw:∀b,b≠r→(w.putObj r (.deferred none)).heap[b]?=w.heap[b]?:=fun b hb=>World.putObj_heap_other hb;refine⟨r,h2.1,run_takeDeferred hr,hBr,⟨h.tl,fun t d v hd hv=>(h.tv t d v hd hv).shut hr hw,fun s g o ho=> ?_,h.ar,h.inj,fun b hb=> ?_,fun b hb=>h.io b hb.1,fun b hb=>⟨h.ii b hb,fun e=>hBr (e▸hI0 b hb)⟩,?_,?_⟩⟩
  ·obtain⟨x,hx,hxB,hok⟩:=h.ob s g o ho;have hne:x.b≠r:=fun e=>by
    cases o with
    |box cs fz=>obtain⟨c,e',hb,_⟩:=hok;rw[e,hr] at hb;cases hb
    |arr e' n cs fz=>obtain⟨c,hb,_⟩:=hok;rw[e,hr] at hb;cases hb
    |map ks vs fz=>obtain⟨c,e',hb,_⟩:=hok;rw[e,hr] at hb;cases hb
    |mrf ks vs fz=>obtain⟨c,e',hb,_⟩:=hok;rw[e,hr] at hb;cases hb
    |sit s pos=>have hb:=hok.1;rw[e,hr] at hb;cases hb
    |raw c0 e0=>have hb:=hok.1;rw[e,hr] at hb;cases hb
    |nst e' er nr cs=>obtain⟨c,hb,_⟩:=hok;rw[e,hr] at hb;cases hb
   exact⟨x,hx,hxB.imp (fun hi=>⟨hi,hne⟩) id,hok.carry (fun d v hr'=>hr'.shut hr hw) (hw _ hne) ⟨fun hi=>hi.1,fun hi=>⟨hi,hne⟩⟩⟩
  ·have:=h.iw b hb.1;show b<(w.heap.setIfInBounds r _).size;simpa using this
  ·refine⟨rs,(List.nodup_cons.1 h1).2,h2.2,fun r' hr'=> ?_⟩;have hne:r'≠r:=fun e=>(List.nodup_cons.1 h1).1 (e▸hr');obtain⟨q1,q2,q3⟩:=h3 r' (za5 _ hr');exact⟨⟨q1,hne⟩,q2,(hw _ hne).trans q3⟩
  ·have hnx:∀s g x,A s g=some x→x.b≠r:=fun s g x hx e=>by
    obtain⟨o,ho⟩:=h.ar s g x hx;obtain⟨x',hx',_,hok⟩:=h.ob s g o ho;rw[hx] at hx';cases hx';cases o with
    |box cs fz=>obtain⟨c,e',hb,_⟩:=hok;rw[e,hr] at hb;cases hb
    |arr e' n cs fz=>obtain⟨c,hb,_⟩:=hok;rw[e,hr] at hb;cases hb
    |map ks vs fz=>obtain⟨c,e',hb,_⟩:=hok;rw[e,hr] at hb;cases hb
    |mrf ks vs fz=>obtain⟨c,e',hb,_⟩:=hok;rw[e,hr] at hb;cases hb
    |sit s pos=>have hb:=hok.1;rw[e,hr] at hb;cases hb
    |raw c0 e0=>have hb:=hok.1;rw[e,hr] at hb;cases hb
    |nst e' er nr cs=>obtain⟨c,hb,_⟩:=hok;rw[e,hr] at hb;cases hb
   have hrb:∀x j b,RowAt A σ.H w x j b→b≠r:=fun x j b hb e=>(h.rw.sep x j b hb).2.1 (e▸hIr);have hback:∀x j b,RowAt A σ.H (w.putObj r (.deferred none)) x j b→RowAt A σ.H w x j b:=fun x j b hb=>hb.back fun s g y hy=>hw _ (hnx s g y hy);refine⟨fun s g e er nr cs x c k1 k2 k3 j d v hd hv=> ?_,fun x j b hb=> ?_,fun x j x' j' b k1 k2=>h.rw.inj x j x' j' b (hback _ _ _ k1) (hback _ _ _ k2)⟩
   ·rw[hw _ (hnx s g x k2)] at k3;have hok:=h.rw.ok s g e er nr cs x c k1 k2 k3 j d v hd hv;cases d with
    |junk=>trivial
    |nils=>exact hok
    |slc full len rs=>
     obtain⟨hf,b,cap,c',q1,q2,q3,q4,q5,q6,q7⟩:=hok;subst q1;exact⟨hf,b,cap,c',rfl,(hw _ (hrb x j b ⟨s,g,e,er,nr,cs,c,full,len,rs,cap,k2,k1,k3,hd,hv⟩)).trans q2,q3,q4,q5,q6,fun j d v hd hv=>(q7 j d v hd hv).shut hr hw⟩
    |_=>exact hok
   ·obtain⟨q1,q2,q3,q4⟩:=h.rw.sep x j b (hback _ _ _ hb);exact⟨by simpa [World.putObj] using q1,fun hi=>q2 hi.1,q3,q4⟩
end
def jQ(P:Program)(ord:hZ)(fn:Func):Bool:=match fn.body with
 |none=>true
 |some c=> !(fn.name== "runtime.NumGoroutine")&&nD P ord c
def AG(tmps:Array Value):ResultVar→Sem Value
 | .tmp t=>pure (tmps.getD t undef)
 | .cell a t=>do loadVar t (←asAddr (tmps.getD a undef))
theorem iR(fn:Func)(tmps:Array Value):results fn tmps=(do let vs←fn.results.mapM (AG tmps);pure (if h:vs.size=1 then vs[0] else .tuple vs)):=by
 unfold results
 congr 1
section
variable {E:Env}{I0:Nat→Prop}{w0:World}
theorem AH{KK:Nat→Prop}{σ:St}{a:Act}{w:World}{I:Nat→Prop}{A:Nat→Nat→Option Gh}(h:Inv I0 KK I A σ a w){x:ResultVar}{d:D}(hr:pi E σ x=some d):
  ∃v,(AG a.tmps x).run E.P w= .ok v w∧∃ss,Sites σ.H ss∧RelC (du I A ss) w d v:=by
 have hv:∀{t:Nat} {d:D},σ.T[t]?=some d→RelV I A (bl σ.H) w d (a.tmps.getD t undef):=fun {t d} hd=>by
  have hlt:t<a.tmps.size:=by rw[←h.tl];exact(zc1.1 hd).1
  exact h.tv t d _ hd (by simp[hlt])
 unfold pi at hr;split at hr
 ·rename_i t;split at hr
  ·rename_i d0 hd0;split at hr
   ·rename_i d' ss hs;simp only[za0] at hr;subst hr;obtain⟨s1,s2⟩:=cr h _ _ _ _ hs;exact⟨_,by simp[AG],ss,s1,s2 _ (hv hd0)⟩
   ·cases hr
  ·cases hr
 ·rename_i b t;split at hr
  ·rename_i p hp;split at hr
   ·rename_i d0 hd0;split at hr
    ·rename_i d' ss hs;simp only[za0] at hr;subst hr;obtain⟨u,r1,r2⟩:=rM h hd0 (hv hp);have hp':=hv hp;unfold dT at hd0;split at hd0
     ·cases hd0
     ·rename_i cs off hc;obtain⟨ad,us,hva,_⟩:=pj h hc hp';obtain⟨s1,s2⟩:=cr h _ _ _ _ hs;refine⟨u,?_,ss,s1,s2 _ r2⟩;rw[hva] at r1;simp only[AG,hva];simpa [Instr.loadAt,Instr.sureAddr,asAddr] using r1
    ·cases hr
   ·cases hr
  ·cases hr
def tD(I:Nat→Prop)(A:Nat→Nat→Option Gh)(b:Nat):Prop:=I b∨∃s g x,A s g=some x∧b=x.b
theorem Ch{I:Nat→Prop}{A:Nat→Nat→Option Gh}{ss:List Nat}{b:Nat}:du I A ss b→tD I A b
 | .inl h=> .inl h
 | .inr ⟨s,_,g,x,hx,e⟩=> .inr ⟨s,g,x,hx,e⟩
theorem HU{σ:St}{a:Act}{w:World}{I:Nat→Prop}{A:Nat→Nat→Option Gh}(h:Inv I0 (·<w0.heap.size) I A σ a w){d:D}{v:Value}(hr:RelC (tD I A) w d v):
  RelC (fun b=>I0 b∨(w0.heap.size≤b∧b<w.heap.size)) w d v:=by
 refine hr.mono (fun b hb=> ?_) (fun _ _=>rfl);rcases hb with hb|⟨s,g,x,hx,rfl⟩
 ·rcases h.io b hb with h1|h1
  ·exact .inl h1
  ·exact .inr ⟨Nat.le_of_not_lt h1,h.iw b hb⟩
 ·obtain⟨o,ho⟩:=h.ar s g x hx;obtain⟨y,hy,hB,_⟩:=h.ob s g o ho;rw[hx] at hy;cases hy;rcases hB with hi|hn
  ·rcases h.io _ hi with h1|h1
   ·exact .inl h1
   ·exact .inr ⟨Nat.le_of_not_lt h1,h.A_lt hx⟩
  ·exact .inr ⟨Nat.le_of_not_lt hn,h.A_lt hx⟩
theorem sh{KK:Nat→Prop}{σ:St}{a:Act}{w:World}{I:Nat→Prop}{A:Nat→Nat→Option Gh}(h:Inv I0 KK I A σ a w):∀(l:List ResultVar) (ds:List D),cZ (pi E σ) l=some ds→
  ∃vs:List Value,(l.mapM (AG a.tmps)).run E.P w= .ok vs w∧ds.length=vs.length∧
   ∀(j:Nat) (d:D) (v:Value),ds[j]?=some d→vs[j]?=some v→RelC (tD I A) w d v
 |[],ds,hs=>by
  simp only[cZ,za0] at hs;subst hs;exact⟨[],by simp,rfl,fun j d v hd=>by simp at hd⟩
 |x::l,ds,hs=>by
  simp only[cZ] at hs;split at hs
  ·cases hs
  ·rename_i d0 hd0;split at hs
   ·cases hs
   ·rename_i ds0 hds;simp only[za0] at hs;subst hs;obtain⟨vs,r1,r2,r3⟩:=sh h l ds0 hds;obtain⟨v,q1,ss,_,q2⟩:=AH h hd0;refine⟨v::vs,?_,by simp[r2],fun j d u hd hu=> ?_⟩
    ·rw[List.mapM_cons,Sem.run_bind,q1,Result.andThen_ok,Sem.run_bind,r1,Result.andThen_ok,Sem.run_pure]
    ·cases j with
     |zero=>simp at hd hu;subst hd hu;exact q2.mono (fun _ hb=>Ch hb) fun _ _=>rfl
     |succ j=>simp at hd hu;exact r3 j d u hd hu
theorem vE{KK:Nat→Prop}{σ:St}{a:Act}{w:World}{I:Nat→Prop}{A:Nat→Nat→Option Gh}(h:Inv I0 KK I A σ a w){fn:Func}{d:D}(hr:qY E σ fn.results.toList=some d):
  ∃v,(results fn a.tmps).run E.P w= .ok v w∧RelC (tD I A) w d v:=by
 unfold qY at hr;have main:∀ds,cZ (pi E σ) fn.results.toList=some ds→∃vs:List Value,(results fn a.tmps).run E.P w= .ok (if h:vs.toArray.size=1 then vs.toArray[0] else .tuple vs.toArray) w∧ds.length=vs.length∧
   ∀(j:Nat) (d:D) (v:Value),ds[j]?=some d→vs[j]?=some v→RelC (tD I A) w d v:=fun ds hd=>by
  obtain⟨vs,r1,r2,r3⟩:=sh h _ ds hd;refine⟨vs,?_,r2,r3⟩;rw[iR,Array.mapM_eq_mapM_toList];simp only[map_eq_pure_bind,bind_assoc,pure_bind,Sem.run_bind,r1,Result.andThen_ok,Sem.run_pure]
 split at hr
 ·rename_i d0 hd;simp only[za0] at hr;subst hr;obtain⟨vs,r1,r2,r3⟩:=main _ hd
  match vs,r2 with
  |[v],_=>exact⟨v,r1,r3 0 _ v rfl rfl⟩
 ·rename_i ds hne hd;simp only[za0] at hr;subst hr;obtain⟨vs,r1,r2,r3⟩:=main _ hd;have hn:vs.toArray.size≠1:=fun e=>by
   simp at e
   match ds,r2.trans e,hne,hd with
   |[x],_,hne,hd=>exact hne x rfl
  refine⟨_,r1,?_⟩;rw[dif_neg hn];exact .tup _ _ (by simp[r2]) fun j d v hd hv=>r3 j d v hd (by simpa using hv)
 ·cases hr
theorem EP{σ:St}{a:Act}{w:World}{I:Nat→Prop}{A:Nat→Nat→Option Gh}(h:Inv I0 (·<w0.heap.size) I A σ a w){fn:Func}{d:D}(hr:qY E σ fn.results.toList=some d):
  ∃v,(results fn a.tmps).run E.P w= .ok v w∧RelC (fun b=>I0 b∨(w0.heap.size≤b∧b<w.heap.size)) w d v:=by
 obtain⟨v,h1,h2⟩:=vE h hr;exact⟨v,h1,HU h h2⟩
theorem iS:∀n,(gS n).length=n
 |0=>rfl
 |n+1=>by simp[gS,iS n]
theorem iT:∀(n j:Nat) (d:D),(gS n)[j]?=some d→d= .tup []
 |0,j,d,h=>by simp[gS] at h
 |n+1,0,d,h=>by simp[gS] at h;exact h.symm
 |n+1,j+1,d,h=>by simp[gS] at h;exact iT n j d h
theorem iU:∀(n s g:Nat),bi (fB n) s g=none:=by
 have:∀(n s:Nat) (p:Nat×Option Ob),(fB n)[s]?=some p→p=(0,none):=by
  intro n
  induction n with
  |zero=>intro s p h;simp[fB] at h
  |succ n ih=>
   intro s p h;cases s with
   |zero=>simp[fB] at h;exact h.symm
   |succ s=>simp[fB] at h;exact ih s p h
 intro n s g;cases hl:bi (fB n) s g with
 |none=>rfl
 |some o=>rw[liveH_some] at hl;have:=this _ _ _ hl;cases this
theorem sk{B:Nat→Prop}{fn:Func}{ds:List D}{vs:Array Value}{w:World}{I:Nat→Prop}(hI:∀b,I b→b<w.heap.size)(hl:ds.length=vs.size)(hr:∀(j:Nat) (d:D) (v:Value),ds[j]?=some d→vs[j]?=some v→RelC I w d v):
  Inv I B I (fun _ _=>none) (cz fn ds) {tmps:=vs++Array.replicate (fn.ntmps-vs.size) undef,defers:=[]} w:=by
 refine⟨?_,fun t d v hd hv=> ?_,fun s g o ho=> ?_,(fun s g x hx=>by cases hx),(fun _ _ _ _ _ _ h=>by cases h),hI,fun b hb=> .inl hb,fun b hb=>hb,Marks.nil,.none fun s g o ho=> ?_⟩
 ·simp[cz,iS,hl]
 ·simp only[cz] at hd;by_cases ht:t<ds.length
  ·rw[zb9 ht] at hd;rw[Array.getElem?_append_left (by omega)] at hv;exact .clo (hr t d v hd hv)
  ·rw[zb8 (by omega)] at hd;rw[Array.getElem?_append_right (by omega)] at hv;have e1:=iT _ _ _ hd;have e2:v=undef:=by
    rw[Array.getElem?_replicate] at hv;split at hv
    ·simpa using hv.symm
    ·cases hv
   subst e1 e2;exact fL
 ·rw[show(cz fn ds).H=fB (ds.length+(fn.ntmps-ds.length)) from rfl,iU] at ho;cases ho
 ·rw[show(cz fn ds).H=fB (ds.length+(fn.ntmps-ds.length)) from rfl,iU] at ho;cases ho
theorem vF{fn:Func}{ds:List D}{vs:Array Value}{w:World}{I:Nat→Prop}(hI:∀b,I b→b<w.heap.size)(hl:ds.length=vs.size)(hr:∀(j:Nat) (d:D) (v:Value),ds[j]?=some d→vs[j]?=some v→RelC I w d v):
  Good (fun _=>True) (·<w.heap.size) I w (cz fn ds) {tmps:=vs++Array.replicate (fn.ntmps-vs.size) undef,defers:=[]} w:=⟨I,_,sk hI hl hr,Blw.refl _ _,trivial⟩
theorem sm{F:Fence}{n:Nat}{fn:Func}{σ:St}{d:D}(hI0:∀b,I0 b→b<w0.heap.size):∀(ds:List Deferred) (I:Nat→Prop) (A:Nat→Nat→Option Gh) (a:Act) (w:World),a.defers=ds→Inv I0 (·<w0.heap.size) I A σ a w→Blw (·<w0.heap.size) w0 w→
  qY E σ fn.results.toList=some d→∀{d':D},(∀{J:Nat→Prop} {w:World} {v:Value},RelC J w d v→RelC J w d' v)→
  LeavesInM F n E.P fn a.tmps (fun e w'=>∃v,e= .returned v∧RelC (fun b=>I0 b∨(w0.heap.size≤b∧b<w'.heap.size)) w' d' v∧Blw (·<w0.heap.size) w0 w') ds .returning w
 |[],I,A,a,w,_,h,hb,hr,d',hd'=>by
  obtain⟨v,r1,r2⟩:=EP h hr;exact⟨v,r1,v,rfl,hd' r2,hb⟩
 |dd::ds,I,A,a,w,hd,h,hb,hr,d',hd'=>by
  obtain⟨r,q1,q2,q3,q4⟩:=h.shut (P:=E.P) (fun b hb=>hI0 b hb) hd;refine⟨by simp,.inl ⟨r,_,q1,q2,?_⟩⟩;refine sm hI0 ds _ A {a with defers:=ds} _ rfl q4 (hb.trans ⟨rfl,rfl,rfl,by simp[World.putObj],fun k hk=>World.putObj_heap_other (fun e=>q3 (e▸hk))⟩) hr hd'
end
end Go.Pd
end
