import Derived.Test.YtjhoaknnmfifgaaGreatDoorPdFa
import Derived.Laws.CopyRow
import Derived.Laws.Cells
import Derived.Laws.MakeOwn
import Derived.Great.BuildSlice
import Derived.ChangeKeysEq
import Derived.Maps.AppendAt
import Derived.Laws.AppendOwnNone
import Derived.Laws.StructEq
import Derived.MapKept
section
namespace Go.Pd
open Go.RowKit
def RelG(I:Nat→Prop)(w:World)(d:D)(g:Nat):Prop:=RelC I w d (.pointer (some ⟨g,0,none⟩))∧∀cs,d= .snap cs 0→I g∧∃c e t,w.heap[g]?=some (.cells c e t)∧c.size=cs.length
theorem RelG.mono{I I':Nat→Prop}{w w':World}{d:D}{g:Nat}(h:RelG I w d g)(hI:∀b,I b→I' b)(hw:∀b,I b→w'.heap[b]?=w.heap[b]?):RelG I' w' d g:=
 ⟨h.1.mono hI hw,fun cs hd=>by
  obtain⟨h1,c,e,t,h2,h3⟩:=h.2 cs hd;exact⟨hI _ h1,c,e,t,(hw _ h1).trans h2,h3⟩⟩
def Gl(gl:Nat→Option D)(I:Nat→Prop)(w:World):Prop:=∀g d,gl g=some d→RelG I w d g
def Step(I0:Nat→Prop)(B:Nat→Prop)(I:Nat→Prop)(a:Act)(w:World)(d:D)(σ':St)(v:Value)(w':World):Prop:=
 ∃I' A',Inv I0 B I' A' σ' a w'∧RelV I' A' (bl σ'.H) w' d v∧(∀b,I b→I' b)∧(∀b,I b→w'.heap[b]?=w.heap[b]?)∧Blw B w w'
section
variable {E:Env}{I0:Nat→Prop}{B:Nat→Prop}{I:Nat→Prop}{A:Nat→Nat→Option Gh}{σ:St}{a:Act}{w:World}
theorem Step.pure(h:Inv I0 B I A σ a w){d:D}{v:Value}(hr:RelV I A (bl σ.H) w d v):Step I0 B I a w d σ v w:=
 ⟨I,A,h,hr,fun _ hb=>hb,fun _ _=>rfl,Blw.refl _ _⟩
theorem bN(h:Inv I0 B I A σ a w)(hgl:Gl E.gl I w){x:Operand}{d:D}(hx:σ.val E x=some d):RelV I A (bl σ.H) w d (a.eval x):=by
 cases x with
 |tmp t=>
  simp only[St.val] at hx;have hlt:t<a.tmps.size:=by rw[←h.tl];exact(zc1.1 hx).1
  refine h.tv t d _ hx ?_;simp[Act.eval,hlt]
 |const v=>exact .clo (eu hx)
 |global g=>exact .clo (hgl g d hx).1
 |func f=>
  simp only[St.val,za0] at hx;subst hx;exact .clo (.fn _ _ _ _ _ rfl rfl (fun j d v h=>by simp at h) (fun j d v h=>by simp at h))
theorem Ew(h:Inv I0 B I A σ a w)(hgl:Gl E.gl I w){o:Oper}{d:D}(hs:dD E σ o=some d):∃v,(execOp a.eval o).run E.P w= .ok (.value v) w∧RelV I A (bl σ.H) w d v:=by
 have hsel:∀cs b,o.op≠ .select cs b:=by
  intro cs b e;unfold dD at hs;rw[e] at hs;cases hs
 have hs':(if o.op.operands.all (dS E σ) then match cb E.P (execOp (gh E σ) o) with|some (.value v)=>BA v|_=>none else none)=some d:=by
  unfold dD at hs;split at hs
  ·exact absurd ‹_› (hsel _ _)
  ·exact hs
 split at hs'
 ·rename_i hall;split at hs'
  ·rename_i v hp;refine⟨v,?_,.clo (eu hs')⟩;have hc:execOp a.eval o=execOp (gh E σ) o:=execOp_congr o hsel fun x hx=>by
    have h1:=Array.all_eq_true_iff_forall_mem.1 hall x hx;simp only[dS] at h1;split at h1
    ·rename_i d' hd';unfold D.plain at h1;obtain⟨u,hu⟩:=Option.isSome_iff_exists.1 h1;have:=(bN h hgl hd').toV hu;simp only[gh,hd',hu,this]
    ·cases h1
   rw[hc];exact ti hp w
  ·cases hs'
 ·cases hs'
theorem km{P:Program}{t:TypeId}{n:Nat}(h:sz P t=some n):∃i,P.info? t=some i∧i.size=n:=by
 unfold sz at h;split at h
 ·rename_i i hi;cases h;exact⟨i,hi,rfl⟩
 ·cases h
theorem rL{P:Program}{t:TypeId}{n:Nat}(h:Ak P t=some n):∃i,P.info? t=some i∧i.bytes=n:=by
 unfold Ak at h;split at h
 ·rename_i i hi;cases h;exact⟨i,hi,rfl⟩
 ·cases h
theorem eE{P:Program}{t:TypeId}{d:D}(h:ia P t=some d):∃i v,P.info? t=some i∧i.zero=some v∧BA v=some d:=by
 unfold ia at h;split at h
 ·rename_i i hi;split at h
  ·rename_i v hv;exact⟨i,v,hi,hv,h⟩
  ·cases h
 ·cases h
theorem bU{P:Program}{t:TypeId}{n:Nat}(h:sz P t=some n)(w:World):(sizeOf t).run P w= .ok n w:=by
 obtain⟨i,hi,rfl⟩:=km h;simp[sizeOf,typeInfo,hi]
theorem gj{P:Program}{t:TypeId}{b:Bool}(h:c5 P t=some b)(w:World):(isAgg t).run P w= .ok b w:=by
 unfold c5 at h;cases hu:P.underlying t with
 |none=>rw[hu] at h;cases h
 |some d=>
  rw[hu] at h;simp only[isAgg,Sem.run_bind,run_underlying hu,Result.andThen_ok];cases d<;>simp only[za0] at h<;>subst h<;>rfl
theorem cM{P:Program}{t e:TypeId}(h:fx P t=some e):P.underlying t=some (.slice e):=by
 unfold fx at h;split at h
 ·rename_i hu;cases h;exact hu
 ·cases h
theorem fT{P:Program}{t:TypeId}{fs:Array Field}(h:lN P t=some fs):P.underlying t=some (.struct fs):=by
 unfold lN at h;split at h
 ·rename_i hu;cases h;exact hu
 ·cases h
theorem pj(h:Inv I0 B I A σ a w){p:D}{cs:List D}{off:Nat}(hc:fq σ.H p=some (cs,off)){v:Value}(hv:RelV I A (bl σ.H) w p v):
  ∃(ad:Addr) (us:Nat→Value),v= .pointer (some (ad.add off))∧∀(j:Nat) (d:D),cs[j]?=some d→w.cell? (ad.add j)=some (us j)∧RelV I A (bl σ.H) w d (us j):=by
 unfold fq at hc;split at hc
 ·rename_i s g off';split at hc
  ·rename_i cs' fz hl;simp only[za0,zb3] at hc;obtain⟨rfl,rfl⟩:=hc;obtain⟨x,hx,hxB,c,e,hb,hlen,hrel,hfz⟩:=h.ob s g _ hl;refine⟨⟨x.b,0,none⟩,fun j=>c.getD j undef,by rw[hv.loc_inv hx,dB];simp,fun j d hj=> ?_⟩;have hlt:=(zc1.1 hj).1;have hcj:c[j]?=some (c.getD j undef):=by simp[show j<c.size by omega]
   exact⟨by rw[cV hb];simpa using hcj,hrel j d _ hj hcj⟩
  ·rename_i e0 n0 cs' fz hl;simp only[za0,zb3] at hc;obtain⟨rfl,rfl⟩:=hc;obtain⟨x,hx,hxB,c,hb,hcs,hm,hlc,hlen,hrel,hfz⟩:=h.ob s g _ hl;have hle:x.len*n0≤x.cap*n0:=Nat.mul_le_mul_right _ hlc;refine⟨⟨x.b,0,none⟩,fun j=>c.getD j undef,by rw[hv.loc_inv hx,dB];simp,fun j d hj=> ?_⟩;have hlt:=(zc1.1 hj).1;have hcj:c[j]?=some (c.getD j undef):=by simp[show j<c.size by omega]
   exact⟨by rw[cV hb];simpa using hcj,hrel j d _ hj hcj⟩
  ·cases hc
 ·rename_i cs' off';simp only[za0,zb3] at hc;obtain⟨rfl,rfl⟩:=hc;cases hv with
  |clo hv=>cases hv with
   |snap _ _ ad us hI hc' hr=>exact⟨ad,us,rfl,fun j d hj=>⟨hc' j d hj,.clo (hr j d hj)⟩⟩
 ·cases hc
theorem rM(h:Inv I0 B I A σ a w){t:TypeId}{p d:D}(hl:dT E σ t p=some d){v:Value}(hv:RelV I A (bl σ.H) w p v):
  ∃u,(Instr.loadAt t v).run E.P w= .ok u w∧RelV I A (bl σ.H) w d u:=by
 unfold dT at hl;split at hl
 ·cases hl
 ·rename_i cs off hc;obtain⟨ad,us,rfl,hus⟩:=pj h hc hv;split at hl
  ·rename_i ha;split at hl
   ·rename_i n hn;split at hl
    ·rename_i hle;simp only[za0] at hl;subst hl;have hcell:∀j,j<n→w.cell? ((ad.add off).add j)=some (us (off+j)):=fun j hj=>by
      rw[kk];exact(hus (off+j) _ (zd2 (by omega))).1
     refine⟨.agg ((List.range n).map fun j=>us (off+j)).toArray,?_,?_⟩
     ·simp[Instr.loadAt,Instr.sureAddr,loadVar,gj ha,bU hn,run_loadCells w (ad.add off) n (fun j=>us (off+j)) hcell]
     ·refine .agg _ _ (by simp;omega) fun j d' u hd hu=> ?_;have hj:j<n:=by
       have:=(zc1.1 hd).1;simp at this;omega
      simp[hj] at hd;simp[hj] at hu;subst hu;exact(hus _ _ hd).2
    ·cases hl
   ·cases hl
  ·rename_i ha;obtain⟨h1,h2⟩:=hus off d hl;refine⟨us off,?_,h2⟩;simp[Instr.loadAt,Instr.sureAddr,loadVar,gj ha,h1]
  ·cases hl
theorem eH(w:World)(o:Obj){b:Nat}(hb:b<w.heap.size):(w.alloc o).heap[b]?=w.heap[b]?:=Below.heap_alloc w o b hb
theorem rN(h:Inv I0 B I A σ a w){dst:Option Tmp}{o:Ob}{mk:Nat→Nat→D}{d:D}{σ':St}(hn:ce σ dst o mk=some (d,σ')){w':World}{v:Value}{x:Gh}
  (hB:¬B x.b) (KB:∀s' g' y,A s' g'=some y→y.b≠x.b) (hwI:∀b,I b→w'.heap[b]?=w.heap[b]?) (hwA:∀s' g' y,A s' g'=some y→w'.heap[y.b]?=w.heap[y.b]?) (hrow:∀y j b,RowAt A σ.H w y j b→x.b≠b∧w'.heap[b]?=w.heap[b]?) (hno:o.isNst=false) (hb1:Blw B w w')
  (hok:∀A' G',(∀d v,RelV I A (bl σ.H) w d v→RelV I A' G' w' d v)→OkOb I A' G' w' x o)
  (hmk:∀s g A' G',A' s g=some x→g<G' s→RelV I A' G' w' (mk s g) v):Step I0 B I a w d σ' v w':=by
 unfold ce at hn;split at hn
 ·rename_i s;split at hn
  ·rename_i hs;simp only[za0,zb3] at hn;obtain⟨rfl,rfl⟩:=hn;obtain⟨A',hi',hA',hR,_⟩:=h.new hs (w':=w') (x:=x) (o:=o) hB KB hb1.size hwI hwA hok hrow hno;refine⟨I,A',hi',hmk _ _ _ _ hA' ?_,fun _ hb=>hb,hwI,hb1⟩;simp only[St.newOb,cu hs];omega
  ·cases hn
 ·cases hn
theorem jH(h:Inv I0 B I A σ a w)(hB:∀k,B k→k<w.heap.size){dst:Option Tmp}{o:Ob}{mk:Nat→Nat→D}{d:D}{σ':St}(hn:ce σ dst o mk=some (d,σ')){w1:World}{obj:Obj}{v:Value}{x:Gh}
  (hw1:∀b,b<w.heap.size→w1.heap[b]?=w.heap[b]?) (hb1:Blw B w w1) (hsz:w1.heap.size=w.heap.size) (hxb:x.b=w.heap.size) (hno:o.isNst=false)
  (hok:∀A' G',(∀d v,RelV I A (bl σ.H) w d v→RelV I A' G' (w1.alloc obj) d v)→OkOb I A' G' (w1.alloc obj) x o)
  (hmk:∀s g A' G',A' s g=some x→g<G' s→RelV I A' G' (w1.alloc obj) (mk s g) v):Step I0 B I a w d σ' v (w1.alloc obj):=
 rN h hn (x:=x) (fun hk=>by have:=hB _ hk;omega) (fun s' g' y hy=>by have:=h.A_lt hy;omega)
  (fun b hb=>(eH w1 obj (by have:=h.iw b hb;omega)).trans (hw1 b (h.iw b hb))) (fun s' g' y hy=>(eH w1 obj (by have:=h.A_lt hy;omega)).trans (hw1 _ (h.A_lt hy))) (fun y j b hb=>by
   have hlt:=(h.rw.sep y j b hb).1;exact⟨by omega,(eH w1 obj (by omega)).trans (hw1 b hlt)⟩) hno (hb1.alloc (fun k hk=>by have:=hB k hk;omega) _) hok hmk
theorem cE(w:World)(o:Obj):(w.alloc o).heap[w.heap.size]?=some o:=heap_alloc_new w o
theorem mQ(h:Inv I0 B I A σ a w)(hB:∀k,B k→k<w.heap.size){dst:Option Tmp}{cs:List D}{d:D}{σ':St}(hn:ce σ dst (.box cs false) (fun s g=> .loc s g 0)=some (d,σ'))
  {c:Array Value} {t:TypeId} (hl:cs.length=c.size) (hr:∀(j:Nat) (x:D) (u:Value),cs[j]?=some x→c[j]?=some u→RelV I A (bl σ.H) w x u):
  Step I0 B I a w d σ' (.pointer (some ⟨w.heap.size,0,none⟩)) (w.alloc (.cells c t)):=by
 refine jH (w1:=w) (x:=⟨w.heap.size,0,0⟩) h hB hn (fun _ _=>rfl) (Blw.refl _ _) rfl rfl rfl (fun A' G' hR=> ?_) (fun s g A' G' hA hg=> ?_)
 ·exact⟨c,t,cE w _,hl,fun j x u hx hu=>hR _ _ (hr j x u hx hu),by
   constructor
   ·intro h1;cases h1
   ·intro h1;have:=h.iw _ h1;exact absurd this (zc8 _)⟩
 ·exact .loc _ _ _ _ hg fun y hy=>by rw[hA] at hy;cases hy;rfl
theorem xc(h:Inv I0 B I A σ a w)(hB:∀k,B k→k<w.heap.size){dst:Option Tmp}{t:TypeId}{d:D}{σ':St}(hn:iF E σ dst t=some (d,σ')):
  ∃v w',(Instr.alloc t true (.tuple #[])).run E.P w= .ok v w'∧Step I0 B I a w d σ' v w':=by
 unfold iF at hn;split at hn
 ·rename_i z hz;split at hn
  ·rename_i h1;obtain⟨i,v,hi,hv,ho⟩:=eE hz;have hrun:(Instr.alloc t true (.tuple #[])).run E.P w= .ok (.pointer (some ⟨w.heap.size,0,none⟩)) (w.alloc (.cells v.cells t)):=by simp[Instr.alloc,zeroValue,typeInfo,hi,hv,newVar,newRow]
   obtain⟨c1,c2,c3⟩:=(RelV.clo (eu (w:=w) (I:=I) ho):RelV I A (bl σ.H) w z v).cells h1;split at hn
   ·rename_i hb;have hz2:z= .agg [.nilp,.nils]:=by
     simp only[zc4] at hb;have hb:=hb.2;unfold GU at hb;split at hb
     ·rfl
     ·cases hb
    subst hz2;have hvc:v.cells=BG:=by
     have hs:v.cells.size=2:=c1.symm;have e0:=c2 0 .nilp v.cells[0] rfl (by simp);have e1:=c2 1 .nils v.cells[1] rfl (by simp);have g0:∀u,RelV I A (bl σ.H) w .nilp u→u= .pointer none:=fun u hu=>by cases hu with|clo h=>cases h;rfl
     have g1:∀u,RelV I A (bl σ.H) w .nils u→u= .slice none 0 0:=fun u hu=>by cases hu with|clo h=>cases h;rfl
     have f0:=g0 _ e0;have f1:=g1 _ e1;apply Array.ext
     ·rw[hs];rfl
     ·intro i h1 h2
      match i,h1 with
      |0,_=>exact f0
      |1,_=>exact f1
      |i+2,h1=>omega
    refine⟨_,_,hrun,jH (w1:=w) (x:=⟨w.heap.size,0,0⟩) h hB hn (fun _ _=>rfl) (Blw.refl _ _) rfl rfl rfl (fun A' G' hR=> ?_) (fun s g A' G' hA hg=> ?_)⟩
    ·exact⟨by rw[←hvc];exact cE w _,fun h1=>absurd (h.iw _ h1) (zc8 _)⟩
    ·exact .loc _ _ _ _ hg fun y hy=>by rw[hA] at hy;cases hy;rfl
   ·exact⟨_,_,hrun,mQ h hB hn (c:=v.cells) (t:=t) c1 c2⟩
  ·cases hn
 ·cases hn
theorem BI(h:Inv I0 B I A σ a w)(hB:∀k,B k→k<w.heap.size){dst:Option Tmp}{t:TypeId}{x d:D}{σ':St}(hn:o9 σ dst x=some (d,σ')){v:Value}(hv:RelV I A (bl σ.H) w x v):
  ∃u w',(Instr.box t v).run E.P w= .ok u w'∧Step I0 B I a w d σ' u w':=by
 unfold o9 at hn;split at hn
 ·rename_i h1;obtain⟨c1,c2,c3⟩:=hv.cells h1;refine⟨_,_,?_,mQ h hB hn (c:=v.cells) (t:=t) c1 c2⟩;simp[Instr.box,newVar,newRow]
 ·cases hn
theorem dU:∀(ds cs:List D) (off:Nat),(co cs off ds).length=cs.length
 |[],cs,off=>rfl
 |d::ds,cs,off=>by simp only[co];rw[dU ds];simp
theorem gC:∀(ds cs:List D) (off:Nat) (d:D),d∈co cs off ds→d∈cs∨d∈ds
 |[],cs,off,d,h=> .inl h
 |x::ds,cs,off,d,h=>by
  rcases gC ds (cs.set off x) (off+1) d h with h1|h1
  ·rcases List.mem_or_eq_of_mem_set h1 with h2|h2
   ·exact .inl h2
   ·exact .inr (by rw[h2];exact za4 ..)
  ·exact .inr (za5 _ h1)
theorem nx:∀(ds cs:List D) (off j:Nat),off+ds.length≤cs.length→(co cs off ds)[j]?=if off≤j∧j<off+ds.length then ds[j-off]? else cs[j]?
 |[],cs,off,j,h=>by
  have:¬(off≤j∧j<off+0):=by omega
  simp only[co,zb5,this,if_false]
 |d::ds,cs,off,j,h=>by
  simp only[za7] at h;simp only[co,za7];rw[nx ds (cs.set off d) (off+1) j (by simp;omega)];by_cases e:j=off
  ·subst e;have h1:¬(j+1≤j∧j<j+1+ds.length):=by omega
   have h2:j≤j∧j<j+(ds.length+1):=by omega
   have h3:j<cs.length:=by omega
   simp[h1,h2,h3]
  ·by_cases h1:off+1≤j∧j<off+1+ds.length
   ·have h2:off≤j∧j<off+(ds.length+1):=by omega
    rw[if_pos h1,if_pos h2];have:j-off=(j-(off+1))+1:=by omega
    rw[this];rfl
   ·have h2:¬(off≤j∧j<off+(ds.length+1)):=by omega
    rw[if_neg h1,if_neg h2,List.getElem?_set_ne (Ne.symm e)]
theorem xd(c vs:List Value)(off j:Nat)(h:off+vs.length≤c.length):(c.take off++vs++c.drop (off+vs.length))[j]?=if off≤j∧j<off+vs.length then vs[j-off]? else c[j]?:=by
 have hl:(c.take off).length=off:=by simp;omega
 by_cases h1:off≤j∧j<off+vs.length
 ·rw[if_pos h1,za8,zb8 (by omega),hl,zb9 (by omega)]
 ·rw[if_neg h1];by_cases h2:j<off
  ·rw[za8,zb9 (by omega),List.getElem?_take];simp[h2]
  ·rw[zb8 (by simp;omega)];simp only[za6,hl,List.getElem?_drop]
   congr 1
   omega
theorem xe(c vs:List Value)(off:Nat)(h:off+vs.length≤c.length):(c.take off++vs++c.drop (off+vs.length)).length=c.length:=by
 simp;omega
theorem fE(c:Array Value)(vs:List Value)(off:Nat)(h:off+vs.length≤c.size):(c.toList.take off++vs++c.toList.drop (off+vs.length)).toArray.size=c.size:=by
 have:=xe c.toList vs off (by simpa using h);simpa using this
theorem jI{t:TypeId}{n b off:Nat}{v:Value}{c:Array Value}{e:TypeId}(hn:sz E.P t=some n)(hv:v.cells.size=n)(hb:w.heap[b]?=some (.cells c e (0,0)))(hle:off+n≤c.size)
  (h1:∀u∈v.cells.toList,u.oneCell'=true):
  (Instr.storeAt t (.pointer (some ⟨b,off,none⟩)) v).run E.P w= .ok () (w.setRow b (c.toList.take off++v.cells.toList++c.toList.drop (off+v.cells.toList.length)).toArray):=by
 have:=run_storeCells_at (P:=E.P) b off e v.cells.toList 0 c w hb (by simp;omega) h1;simp only[Nat.add_zero] at this;simp[Instr.storeAt,Instr.sureAddr,storeVar,bU hn,hv,this]
theorem eQ{B:Nat→Prop}{w:World}{b:Nat}(hb:¬B b)(c:Array Value):Blw B w (w.setRow b c):=
 ⟨rfl,rfl,rfl,by simp,fun k hk=>setRow_other w b k c (fun e=>hb (e▸hk))⟩
theorem fL{I:Nat→Prop}{A:Nat→Nat→Option Gh}{G:Nat→Nat}{w:World}:RelV I A G w (.tup []) undef:= .clo (.tup [] #[] rfl fun j d v h=>by simp at h)
theorem eR{R:D→Value→Prop}{cs ds:List D}{c vs:List Value}{off:Nat}(hl:cs.length≤c.length)(hle:off+ds.length≤cs.length)(hd:ds.length=vs.length)
  (hr:∀(j:Nat) (d:D) (v:Value),cs[j]?=some d→c[j]?=some v→R d v) (hn:∀(j:Nat) (d:D) (v:Value),ds[j]?=some d→vs[j]?=some v→R d v):
  ∀(j:Nat) (d:D) (v:Value),(co cs off ds)[j]?=some d→(c.take off++vs++c.drop (off+vs.length))[j]?=some v→R d v:=by
 intro j d v h1 h2;rw[nx _ _ _ _ hle] at h1;rw[xd _ _ _ _ (by omega)] at h2;by_cases hc:off≤j∧j<off+ds.length
 ·rw[if_pos hc] at h1;rw[if_pos (by omega)] at h2;exact hn _ _ _ h1 h2
 ·rw[if_neg hc] at h1;rw[if_neg (by omega)] at h2;exact hr _ _ _ h1 h2
theorem xf(h:Inv I0 B I A σ a w){t:TypeId}{p x:D}{σ':St}(hs:dN E σ t p x=some σ'){vp vx:Value}(hp:RelV I A (bl σ.H) w p vp)(hx:RelV I A (bl σ.H) w x vx):
  ∃w',(Instr.storeAt t vp vx).run E.P w= .ok () w'∧Step I0 B I a w (.tup []) σ' undef w':=by
 unfold dN at hs;split at hs
 ·rename_i s g off;split at hs
  ·cases hs
  ·rename_i n hn;split at hs
   ·rename_i hlen;split at hs
    ·rename_i cs hl;split at hs
     ·rename_i hcond;simp only[za0] at hs;subst hs;obtain⟨hle,hone⟩:off+n≤cs.length∧x.cells.all D.one=true:=by simpa using hcond
      obtain⟨c1,c2,c3⟩:=hx.cells hone;obtain⟨y,hy,hyB,c,e,hb,hcl,hrel,hfz⟩:=h.ob s g _ hl;have hnI:¬I y.b:=fun hi=>by have:=hfz.2 hi;cases this
      rw[hp.loc_inv hy];have hvs:vx.cells.size=n:=by omega
      have hvl:vx.cells.toList.length=n:=by simpa using hvs
      refine⟨_,jI hn hvs hb (by omega) c3,?_⟩;obtain⟨hi',hR⟩:=h.set (o':= .box (co cs off x.cells) false) hl hy hnI (w':=w.setRow y.b (c.toList.take off++vx.cells.toList++c.toList.drop (off+vx.cells.toList.length)).toArray) (by simp) (fun b hb'=>setRow_other w y.b b _ hb') (fun hR=>by
       refine⟨_,e,setRow_heap w y.b c _ e _ hb,?_,fun j d v hd hv=> ?_,hfz⟩
       ·rw[dU,hcl,fE _ _ _ (by omega)]
       ·refine hR _ _ (eR (R:=RelV I A (bl σ.H) w) (c:=c.toList) (vs:=vx.cells.toList) (by simp;omega) (by omega) (by omega) (fun j d v hd hv=>hrel j d v hd (by simpa using hv)) (fun j d v hd hv=>c2 j d v hd (by simpa using hv)) j d v hd (by simpa using hv)))
      exact⟨I,A,hi',fL,fun _ hb=>hb,fun b hb'=>setRow_other w y.b b _ (fun e=>hnI (e▸hb')),eQ (hyB.resolve_left hnI) _⟩
     ·cases hs
    ·rename_i e m cs hl;split at hs
     ·rename_i hcond;obtain⟨hle,hone⟩:off+n≤cs.length∧x.cells.all D.one=true:=by simpa using hcond
      obtain⟨c1,c2,c3⟩:=hx.cells hone;obtain⟨y,hy,hyB,c,hb,hcs,hm,hlc,hcl,hrel,hfz,hclo⟩:=h.ob s g _ hl;have hle':y.len*m≤y.cap*m:=Nat.mul_le_mul_right _ hlc;have hnI:¬I y.b:=fun hi=>by have:=hfz.2 hi;cases this
      have hvs:vx.cells.size=n:=by omega
      have hvl:vx.cells.toList.length=n:=by simpa using hvs
      have key:∀(ds:List D) (ss:List Nat),cA (bJ σ.H depth) x.cells=some (ds,ss)→ss.contains s=false→σ'=(σ.freeze ss).setOb s (some (.arr e m (co cs off ds) false))→
        ∃w',(Instr.storeAt t vp vx).run E.P w= .ok () w'∧Step I0 B I a w (.tup []) σ' undef w':=by
       intro ds ss hsn hns hσ;obtain⟨a1,a2,a3⟩:=dK (I:=I) (A:=A) (w:=w) (cr h depth) _ _ _ hsn;have hns':s∉ss:=by simpa using hns
       rw[hp.loc_inv hy];refine⟨_,jI hn hvs hb (by omega) c3,?_⟩;obtain⟨hf,hRf⟩:=h.freeze ss a2.free;have hlf:bi (σ.freeze ss).H s g=some (.arr e m cs false):=by
        have:=ch ss σ.H s g;simpa [hns',hl,St.freeze] using this
       have hnI':¬du I A ss y.b:=by
        rintro (hi|⟨s',hs',g',y',hy',hb'⟩)
        ·exact hnI hi
        ·exact hns' ((h.inj _ _ _ _ _ _ hy hy' hb').1▸hs')
       have hdl:ds.length=vx.cells.toList.length:=by omega
       have hgf:bl (σ.freeze ss).H=bl σ.H:=funext (genH_freeze ss σ.H);obtain⟨hi',hR⟩:=hf.set (o':= .arr e m (co cs off ds) false) hlf hy hnI' (w':=w.setRow y.b (c.toList.take off++vx.cells.toList++c.toList.drop (off+vx.cells.toList.length)).toArray) (by simp) (fun b hb'=>setRow_other w y.b b _ hb') (fun hR=>by
        refine⟨_,setRow_heap w y.b c _ e _ hb,?_,hm,hlc,by rw[dU,hcl],fun j d v hd hv=> ?_,⟨(fun hh=>by cases hh),fun hi=>absurd hi hnI'⟩,fun d hd=> ?_⟩
        ·rw[fE _ _ _ (by omega),hcs]
        ·refine hR _ _ (eR (R:=RelV (du I A ss) A (bl (σ.freeze ss).H) w) (c:=c.toList) (vs:=vx.cells.toList) (by simp;omega) (by omega) hdl (fun j d v hd hv=>hRf _ _ (hrel j d v hd (by simpa using hv))) (fun j d v hd hv=>by
          obtain⟨z,hz,hzr⟩:=a3 j d hd;exact .clo (hzr _ (c2 j z v hz (by simpa using hv)))) j d v hd (by simpa using hv))
        ·rcases gC _ _ _ _ hd with h1|h1
         ·exact hclo d h1
         ·obtain⟨j,hj,rfl⟩:=List.getElem_of_mem h1;obtain⟨z,hz,hzr⟩:=a3 j _ (zd2 hj);have hjv:j<vx.cells.size:=by omega
          exact(hzr _ (c2 j z vx.cells[j] hz (Array.getElem?_eq_getElem hjv))).clo)
       rw[hσ];exact⟨du I A ss,A,hi',fL,fun _ hb=> .inl hb,fun b hb'=>setRow_other w y.b b _ (fun e=>hnI (e▸hb')),eQ (hyB.resolve_left hnI) _⟩
      split at hs
      ·rename_i ds ss hsn;split at hs
       ·cases hs
       ·rename_i hns;simp only[za0] at hs;exact key ds ss hsn (by simpa using hns) hs.symm
      ·cases hs
     ·cases hs
    ·cases hs
   ·cases hs
 ·cases hs
theorem dV{σ:St}{s g:Nat}{o:Ob}{o':Option Ob}(ho:bi σ.H s g=some o)(s' g':Nat):bi (σ.setOb s o').H s' g'=if s'=s then(if g'=g then o' else none) else bi σ.H s' g':=by
 have hs:=dq ho;have hg:=bT ho;by_cases e:s'=s
 ·subst e;simp only[St.setOb,bQ hs,if_true,hg];by_cases e2:g'=g
  ·simp[e2]
  ·simp[e2,Ne.symm e2]
 ·simp only[St.setOb,bO (Ne.symm e),e,if_false]
theorem Inv.taken(h:Inv I0 B I A σ a w){s g:Nat}{e er:TypeId}{nr:Nat}{cs:List D}{x:Gh}{off b:Nat}(ho:bi σ.H s g=some (.nst e er nr cs))(hx:A s g=some x)(hr:RowAt A σ.H w x off b):
  Inv I0 B I A (σ.setOb s (some (.nst e er nr (cs.set off .junk)))) a w∧∀y j,¬RowAt A (σ.setOb s (some (.nst e er nr (cs.set off .junk)))).H w y j b:=by
 obtain⟨x',hx',hxB,c,q1,q2,q3,q4,q5,q6⟩:=h.ob s g _ ho;rw[hx] at hx';cases hx';have hback:∀y j b',RowAt A (σ.setOb s (some (.nst e er nr (cs.set off .junk)))).H w y j b'→RowAt A σ.H w y j b'∧¬(y.b=x.b∧j=off):=fun y j b' hb'=>by
  obtain⟨s',g',e1,er1,nr1,cs1,c1,f,len,rs,cap,h1,h2,h3,h4,h5⟩:=hb';rw[dV ho] at h2;split at h2
  ·rename_i es;split at h2
   ·rename_i eg;subst es eg;cases h2;rw[List.getElem?_set] at h4;split at h4
    ·split at h4<;>cases h4
    ·rename_i hne;rw[hx] at h1;cases h1;exact⟨⟨s',g',e,er,nr,cs,c1,f,len,rs,cap,hx,ho,h3,h4,h5⟩,fun hh=>hne hh.2.symm⟩
   ·cases h2
  ·rename_i es;exact⟨⟨s',g',e1,er1,nr1,cs1,c1,f,len,rs,cap,h1,h2,h3,h4,h5⟩,fun hh=>es (h.inj _ _ _ _ _ _ h1 hx hh.1).1⟩
 refine⟨(h.setG (o':= .nst e er nr (cs.set off .junk)) ho hx q6 rfl (fun _ _=>rfl) (fun _=>⟨c,q1,q2,q3,q4,by simpa using q5,q6⟩) ?_).1,fun y j hb'=> ?_⟩
 ·refine⟨fun s' g' e1 er1 nr1 cs1 y c1 k1 k2 k3 j d v hd hv=> ?_,fun y j b' hb'=>h.rw.sep y j b' (hback _ _ _ hb').1,fun y j y' j' b' k1 k2=>h.rw.inj y j y' j' b' (hback _ _ _ k1).1 (hback _ _ _ k2).1⟩;rw[dV ho] at k1;split at k1
  ·rename_i es;split at k1
   ·rename_i eg;subst es eg;cases k1;rw[List.getElem?_set] at hd;split at hd
    ·split at hd
     ·cases hd;trivial
     ·cases hd
    ·exact h.rw.ok _ _ _ _ _ _ _ _ ho k2 k3 j d v hd hv
   ·cases k1
  ·exact h.rw.ok _ _ _ _ _ _ _ _ k1 k2 k3 j d v hd hv
 ·obtain⟨k1,k2⟩:=hback _ _ _ hb';exact k2 (h.rw.inj _ _ _ _ _ k1 hr)
theorem Am(h:Inv I0 B I A σ a w){dst:Option Tmp}{t:TypeId}{p d:D}{σ':St}(hl:jC E σ dst t p=some (d,σ')){v:Value}(hv:RelV I A (bl σ.H) w p v):
  ∃u,(Instr.loadAt t v).run E.P w= .ok u w∧Step I0 B I a w d σ' u w:=by
 unfold jC at hl;split at hl
 ·rename_i s g off ha;split at hl
  ·rename_i e er nr cs ho;obtain⟨x,hx,hxB,c,q1,q2,q3,q4,q5,q6⟩:=h.ob s g _ ho;rw[hv.loc_inv hx];have run:∀u,c[off]?=some u→(Instr.loadAt t (.pointer (some ⟨x.b,off,none⟩))).run E.P w= .ok u w:=fun u hu=>by
    have hcell:w.cell? ⟨x.b,off,none⟩=some u:=by simp[World.cell?,q1,hu]
    simp[Instr.loadAt,Instr.sureAddr,loadVar,gj ha,hcell]
   split at hl
   ·rename_i hc;cases hl;have hlt:=(zc1.1 hc).1;have hcv:c[off]?=some c[off]:=Array.getElem?_eq_getElem (by omega);have hok:=h.rw.ok s g e er nr cs x c ho hx q1 off _ _ hc hcv;refine⟨_,run _ hcv,Step.pure h ?_⟩;rw[show c[off]= .slice none 0 0 from hok];exact .clo .nils
   ·rename_i len rs dt hc;split at hl
    ·rename_i hdt;cases hl;have hlt:=(zc1.1 hc).1;have hcv:c[off]?=some c[off]:=Array.getElem?_eq_getElem (by omega);obtain⟨_,b,cap,c2,r1,r2,r3,r4,r5,r6,r7⟩:=h.rw.ok s g e er nr cs x c ho hx q1 off _ _ hc hcv;have hr:RowAt A σ.H w x off b:=⟨s,g,e,er,nr,cs,c,false,len,rs,cap,hx,ho,q1,hc,by rw[hcv,r1]⟩;obtain⟨p1,p2,p3,p4⟩:=h.rw.sep _ _ _ hr;obtain⟨h1,hn1⟩:=h.taken ho hx hr;refine⟨_,run _ hcv,?_⟩;rw[r1];obtain⟨A',hi',hA',hR,_⟩:=h1.new (s:=dt) (by simpa [St.setOb] using hdt) (w':=w) (x:=⟨b,cap,len⟩) (o:= .arr er nr rs false) p3 p4 (zb0 _) (fun _ _=>rfl) (fun _ _ _ _=>rfl) (fun A' G' _=>by
      have hle:=Nat.mul_le_mul_right nr r5;refine⟨c2,r2,r3,r4,r5,r6,fun j d v hd hv=> .clo (r7 j d v hd hv),⟨(fun hh=>by cases hh),fun hi=>absurd hi p2⟩,fun d hd=> ?_⟩;obtain⟨j,hj,rfl⟩:=List.getElem_of_mem hd;exact(r7 j _ _ (zd2 hj) (Array.getElem?_eq_getElem (by omega))).clo) (fun y j b' hb'=>⟨fun e=>hn1 y j (by rw[show b=b' from e];exact hb'),rfl⟩)
     refine⟨I,A',hi',.own _ _ _ _ _ ?_ r5 (fun y hy=>by rw[hA'] at hy;cases hy;exact⟨rfl,rfl,rfl⟩),fun _ hb=>hb,fun _ _=>rfl,Blw.refl _ _⟩;have:dt<(σ.setOb s (some (.nst e er nr (cs.set off .junk)))).H.length:=by simpa [St.setOb] using hdt
     simp only[St.newOb,cu this];omega
    ·cases hl
   ·cases hl
  ·cases hl
 ·cases hl
theorem BJ(h:Inv I0 B I A σ a w){t:TypeId}{p x:D}{σ':St}(hs:nt E σ t p x=some σ'){vp vx:Value}(hp:RelV I A (bl σ.H) w p vp)(hx:RelV I A (bl σ.H) w x vx):
  ∃w',(Instr.storeAt t vp vx).run E.P w= .ok () w'∧Step I0 B I a w (.tup []) σ' undef w':=by
 unfold nt at hs;split at hs
 ·rename_i s g off s2 g2 len;split at hs
  ·rename_i e er nr cs er' nr' rs hn ho ho2;split at hs
   ·rename_i hcond;obtain⟨rfl,rfl,hlt⟩:=hcond;cases hs;obtain⟨x1,hx1,hxB,c,q1,q2,q3,q4,q5,q6⟩:=h.ob s g _ ho;obtain⟨x2,hx2,hxB2,c2,r1,r2,r3,r4,r5,r6,r7,r8⟩:=h.ob s2 g2 _ ho2;have hI2:¬I x2.b:=fun hi=>by have:=r7.2 hi;cases this
    have hB2:=hxB2.resolve_left hI2;have hne:s2≠s:=fun e=>by
     subst e;have e1:=bT ho;have e2:=bT ho2;have:g=g2:=by omega
     subst this;rw[ho] at ho2;cases ho2
    have hbne:x2.b≠x1.b:=fun e=>hne (h.inj _ _ _ _ _ _ hx2 hx1 e).1;rw[hp.loc_inv hx1];obtain⟨hvx,hlen⟩:=hx.own_inv hx2;subst hvx;obtain⟨A1,hk,k1,k2,k3⟩:=h.kill s2 (dq ho2);have hx1':A1 s g=some x1:=by rw[k1 s g (Ne.symm hne)];exact hx1
    have ho':bi (σ.setOb s2 none).H s g=some (.nst e er' nr' cs):=by rw[dV ho2,if_neg (Ne.symm hne)];exact ho
    have hsubA:∀s' g' z,A1 s' g'=some z→s'≠s2∧A s' g'=some z:=fun s' g' z hz=>by
     by_cases es:s'=s2
     ·subst es;rw[k2] at hz;cases hz
     ·exact⟨es,by rw[←k1 s' g' es];exact hz⟩
    obtain⟨v2,hv2⟩:∃v2:Value,v2= .slice (some ⟨x2.b,0,none⟩) len x2.cap:=⟨_,rfl⟩;rw[←hv2];have hcell:v2.cells= #[v2]:=by rw[hv2];rfl
    have hcs:(c.toList.take off++v2.cells.toList++c.toList.drop (off+v2.cells.toList.length)).toArray=c.setIfInBounds off v2:=by
     apply Array.ext';rw[hcell];have:off<c.toList.length:=by simp;omega
     simp[Array.toList_setIfInBounds,List.set_eq_take_append_cons_drop];omega
    have hrun:(Instr.storeAt t (.pointer (some ⟨x1.b,off,none⟩)) v2).run E.P w= .ok () (w.setRow x1.b (c.setIfInBounds off v2)):=by
     rw[←hcs];exact jI hn (by rw[hcell];rfl) q1 (by omega) (fun u hu=>by rw[hcell] at hu;simp at hu;subst hu;rw[hv2];rfl)
    have hw:∀b,b≠x1.b→(w.setRow x1.b (c.setIfInBounds off v2)).heap[b]?=w.heap[b]?:=fun b hb=>setRow_other w x1.b b _ hb;have hw1:(w.setRow x1.b (c.setIfInBounds off v2)).heap[x1.b]?=some (.cells (c.setIfInBounds off v2) e (0,0)):=setRow_heap w x1.b c _ e _ q1;have hbl:Blw B w (w.setRow x1.b (c.setIfInBounds off v2)):=eQ (hxB.resolve_left q6) _;have hsz:(w.setRow x1.b (c.setIfInBounds off v2)).heap.size=w.heap.size:=by simp
    refine⟨_,hrun,?_⟩;generalize w.setRow x1.b (c.setIfInBounds off v2)=w' at hw hw1 hbl hsz ⊢;have hliv:∀s' g' o',bi ((σ.setOb s2 none).setOb s (some (.nst e er' nr' (cs.set off (.slc false len rs))))).H s' g'=some o'→(s'=s∧g'=g∧o'= .nst e er' nr' (cs.set off (.slc false len rs)))∨(s'≠s∧s'≠s2∧bi σ.H s' g'=some o'):=fun s' g' o' h2=>by
     rw[dV ho'] at h2;split at h2
     ·rename_i es;split at h2
      ·rename_i eg;cases h2;exact .inl ⟨es,eg,rfl⟩
      ·cases h2
     ·rename_i es;rw[dV ho2] at h2;split at h2
      ·split at h2<;>cases h2
      ·rename_i es2;exact .inr ⟨es,es2,h2⟩
    have hback:∀y j b,RowAt A1 ((σ.setOb s2 none).setOb s (some (.nst e er' nr' (cs.set off (.slc false len rs))))).H w' y j b→(y.b=x1.b∧j=off∧b=x2.b)∨RowAt A σ.H w y j b:=fun y j b hb=>by
     obtain⟨s',g',e1,er1,nr1,cs1,c1,f,len1,rs1,cap,h1,h2,h3,h4,h5⟩:=hb;rcases hliv s' g' _ h2 with⟨rfl,rfl,h2⟩|⟨es,es2,h2⟩
     ·cases h2;rw[hx1'] at h1;cases h1;rw[hw1] at h3;cases h3;by_cases ej:j=off
      ·subst ej;rw[Array.getElem?_setIfInBounds_self] at h5;split at h5
       ·rw[hv2] at h5;cases h5;exact .inl ⟨rfl,rfl,rfl⟩
       ·cases h5
      ·rw[List.getElem?_set_ne (Ne.symm ej)] at h4;rw[Array.getElem?_setIfInBounds_ne (Ne.symm ej)] at h5;exact .inr ⟨s',g',e,er',nr',cs,c,f,len1,rs1,cap,hx1,ho,q1,h4,h5⟩
     ·have hy:=(hsubA _ _ _ h1).2;have hne':y.b≠x1.b:=fun eb=>es (h.inj _ _ _ _ _ _ hy hx1 eb).1;rw[hw _ hne'] at h3;exact .inr ⟨s',g',e1,er1,nr1,cs1,c1,f,len1,rs1,cap,hy,h2,h3,h4,h5⟩
    have old:∀s' g' e1 er1 nr1 cs1 y c1,bi σ.H s' g'=some (.nst e1 er1 nr1 cs1)→A s' g'=some y→w.heap[y.b]?=some (.cells c1 e1 (0,0))→∀(j:Nat) (d:D) (v:Value),cs1[j]?=some d→c1[j]?=some v→OkRow I w' er1 nr1 d v:=fun s' g' e1 er1 nr1 cs1 y c1 k1 k2 k3 j d v hd hv=>
     (h.rw.ok _ _ _ _ _ _ _ _ k1 k2 k3 j d v hd hv).mono (fun _ hb=>hb) (fun b hb=>hw b fun eb=>q6 (eb▸hb)) fun f len1 rs1 b cap e1' e2'=>hw b fun eb=>by
      subst e1' e2';exact(h.rw.sep y j b ⟨s',g',e1,er1,nr1,cs1,c1,f,len1,rs1,cap,k2,k1,k3,hd,hv⟩).2.2.2 _ _ _ hx1 eb.symm
    refine⟨I,A1,(hk.setG (o':= .nst e er' nr' (cs.set off (.slc false len rs))) ho' hx1' q6 hsz hw (fun _=>⟨_,hw1,by simpa using q2,q3,q4,by simpa using q5,q6⟩) ⟨fun s' g' e1 er1 nr1 cs1 y c1 k1' k2' k3' j d v hd hv=> ?_,fun y j b hb=> ?_,fun y j y' j' b hb hb'=> ?_⟩).1,fL,fun _ hb=>hb,fun b hb=>hw b fun eb=>q6 (eb▸hb),hbl⟩
    ·rcases hliv s' g' _ k1' with⟨rfl,rfl,h2⟩|⟨es,es2,h2⟩
     ·cases h2;rw[hx1'] at k2';cases k2';rw[hw1] at k3';cases k3';by_cases ej:j=off
      ·subst ej;rw[List.getElem?_set_self hlt] at hd;cases hd;rw[Array.getElem?_setIfInBounds_self] at hv;split at hv
       ·cases hv;refine⟨rfl,x2.b,x2.cap,c2,hv2,(hw _ hbne).trans r1,r2,r3,by omega,by rw[hlen];exact r5,fun i d v hd hv=> ?_⟩;exact((r6 i d v hd hv).closed (r8 d (List.mem_of_getElem? hd))).mono (fun _ hb=>hb) fun b hb=>hw b fun eb=>q6 (eb▸hb)
       ·cases hv
      ·rw[List.getElem?_set_ne (Ne.symm ej)] at hd;rw[Array.getElem?_setIfInBounds_ne (Ne.symm ej)] at hv;exact old s' g' e er' nr' cs x1 c ho hx1 q1 j d v hd hv
     ·have hy:=(hsubA _ _ _ k2').2;have hne':y.b≠x1.b:=fun eb=>es (h.inj _ _ _ _ _ _ hy hx1 eb).1;rw[hw _ hne'] at k3';exact old s' g' e1 er1 nr1 cs1 y c1 h2 hy k3' j d v hd hv
    ·rcases hback _ _ _ hb with⟨_,_,rfl⟩|hb
     ·refine⟨by rw[hsz];exact h.A_lt hx2,hI2,hB2,fun s' g' z hz eb=> ?_⟩;obtain⟨z1,z2⟩:=hsubA _ _ _ hz;exact z1 (h.inj _ _ _ _ _ _ z2 hx2 eb).1
     ·obtain⟨p1,p2,p3,p4⟩:=h.rw.sep _ _ _ hb;exact⟨by rw[hsz];exact p1,p2,p3,fun s' g' z hz=>p4 _ _ _ (hsubA _ _ _ hz).2⟩
    ·rcases hback _ _ _ hb with⟨b1,b2,rfl⟩|hb<;>rcases hback _ _ _ hb' with⟨b1',b2',b3'⟩|hb'
     ·exact⟨b1.trans b1'.symm,b2.trans b2'.symm⟩
     ·exact absurd rfl ((h.rw.sep _ _ _ hb').2.2.2 _ _ _ hx2)
     ·subst b3';exact absurd rfl ((h.rw.sep _ _ _ hb).2.2.2 _ _ _ hx2)
     ·exact h.rw.inj _ _ _ _ _ hb hb'
   ·cases hs
  ·cases hs
 ·cases hs
theorem mR:∀(n:Nat) (d:D),d∈dQ n (D.nils).cells→d= .nils
 |0,d,h=>by cases h
 |n+1,d,h=>by
  rcases za9.1 h with h1|h1
  ·exact zd1.1 h1
  ·exact mR n d h1
theorem xg{e:TypeId}{n:Nat}{z:D}{q:TypeId×Nat}(h:rH E e n z=some q):n=1∧z= .nils:=by
 unfold rH at h;split at h
 ·exact⟨rfl,rfl⟩
 ·cases h
theorem Inv.renst{s n m:Nat}(hm:m=1){e er:TypeId}{nr:Nat}(h:Inv I0 B I A (σ.newOb s (.arr e m (dQ n (D.nils).cells) false)) a w)(hs:s<σ.H.length):Inv I0 B I A (σ.newOb s (.nst e er nr (dQ n (D.nils).cells))) a w∧bl (σ.newOb s (.nst e er nr (dQ n (D.nils).cells))).H=bl (σ.newOb s (.arr e m (dQ n (D.nils).cells) false)).H:=by
 subst hm;have ho:bi (σ.newOb s (.arr e 1 (dQ n (D.nils).cells) false)).H s (bl σ.H s)=some (.arr e 1 (dQ n (D.nils).cells) false):=by
  simp only[St.newOb,bQ hs,if_true]
 have he:(σ.newOb s (.arr e 1 (dQ n (D.nils).cells) false)).setOb s (some (.nst e er nr (dQ n (D.nils).cells)))=σ.newOb s (.nst e er nr (dQ n (D.nils).cells)):=by
  simp only[St.newOb,St.setOb,cu hs,List.set_set]
 obtain⟨x,hx,hxB,c,q1,q2,q3,q4,q5,q6,q7,q8⟩:=h.ob _ _ _ ho;have hI:¬I x.b:=fun hi=>by have:=q7.2 hi;cases this
 have hback:∀y j b,RowAt A ((σ.newOb s (.arr e 1 (dQ n (D.nils).cells) false)).setOb s (some (.nst e er nr (dQ n (D.nils).cells)))).H w y j b→RowAt A (σ.newOb s (.arr e 1 (dQ n (D.nils).cells) false)).H w y j b:=fun y j b hb=>by
  obtain⟨s',g',e1,er1,nr1,cs1,c1,f,len1,rs1,cap,h1,h2,h3,h4,h5⟩:=hb;rw[dV ho] at h2;split at h2
  ·split at h2
   ·cases h2;have:=mR n _ (List.mem_of_getElem? h4);cases this
   ·cases h2
  ·exact⟨s',g',e1,er1,nr1,cs1,c1,f,len1,rs1,cap,h1,h2,h3,h4,h5⟩
 have:=h.setG (o':= .nst e er nr (dQ n (D.nils).cells)) ho hx hI rfl (fun _ _=>rfl) (fun _=>⟨c,q1,by omega,q3,q4,by omega,hI⟩) ⟨fun s' g' e1 er1 nr1 cs1 y c1 k1 k2 k3 j d v hd hv=>by
  rw[dV ho] at k1;split at k1
  ·rename_i es;split at k1
   ·rename_i eg;subst es eg;cases k1;rw[hx] at k2;cases k2;rw[q1] at k3;cases k3;have hz:=mR n _ (List.mem_of_getElem? hd);subst hz;exact(q6 j _ _ hd hv).nils_inv
   ·cases k1
  ·exact h.rw.ok _ _ _ _ _ _ _ _ k1 k2 k3 j d v hd hv,fun y j b hb=>h.rw.sep _ _ _ (hback _ _ _ hb),fun y j y' j' b hb hb'=>h.rw.inj _ _ _ _ _ (hback _ _ _ hb) (hback _ _ _ hb')⟩
 rw[he] at this;refine⟨this.1,?_⟩
 funext s'
 by_cases es:s'=s
 ·subst es;simp only[St.newOb,cu hs]
 ·simp only[St.newOb,cq (Ne.symm es)]
end
section
variable {E:Env}{I0:Nat→Prop}{B:Nat→Prop}{I:Nat→Prop}{A:Nat→Nat→Option Gh}{σ:St}{a:Act}{w:World}{G:Nat→Nat}
theorem qZ{t:TypeId}{f k:Nat}(h:lP E t f=some k):∃fs fd n,E.P.underlying t=some (.struct fs)∧fs[f]?=some fd∧sz E.P fd.type=some n∧n≠0∧fd.offset=k:=by
 unfold lP at h;split at h
 ·cases h
 ·rename_i fs hfs;split at h
  ·cases h
  ·rename_i fd hfd;split at h
   ·cases h
   ·rename_i n hn0 hn;simp only[za0] at h;exact⟨fs,fd,n,fT hfs,hfd,hn,fun e=>hn0 e,h⟩
   ·cases h
theorem ny{t:TypeId}{f k:Nat}(h:lP E t f=some k)(ad:Addr):(Instr.fieldAt t (.pointer (some ad)) f).run E.P w= .ok (.pointer (some (ad.add k))) w:=by
 obtain⟨fs,fd,n,hu,hf,hn,h0,rfl⟩:=qZ h;simp[Instr.fieldAt,run_underlying hu,hf,Instr.sureAddr,fieldPlace,bU hn,h0]
theorem tq{s g off k:Nat}{v:Value}(hv:RelV I A G w (.loc s g off) v):∃ad,v= .pointer (some ad)∧RelV I A G w (.loc s g (off+k)) (.pointer (some (ad.add k))):=by
 cases hv with
 |clo h=>cases h
 |loc _ _ _ ad hg h=>exact⟨ad,rfl,.loc _ _ _ _ hg fun x hx=>by rw[h x hx,dB]⟩
theorem pm{cs:List D}{off k:Nat}{v:Value}(hv:RelV I A G w (.snap cs off) v):∃ad,v= .pointer (some ad)∧RelV I A G w (.snap cs (off+k)) (.pointer (some (ad.add k))):=by
 cases hv with
 |clo h=>cases h with
  |snap _ _ ad us hI hc hr=>exact⟨_,rfl,by rw[kk];exact .clo (.snap cs (off+k) ad us hI hc hr)⟩
theorem pn{t:TypeId}{x d:D}{f:Nat}(h:jD E t x f=some d){v:Value}(hv:RelV I A G w x v):∃u,(Instr.fieldAt t v f).run E.P w= .ok u w∧RelV I A G w d u:=by
 unfold jD at h;split at h
 ·cases h
 ·rename_i k hk;split at h
  ·simp only[za0] at h;subst h;obtain⟨ad,rfl,hr⟩:=tq (k:=k) hv;exact⟨_,ny hk ad,hr⟩
  ·simp only[za0] at h;subst h;obtain⟨ad,rfl,hr⟩:=pm (k:=k) hv;exact⟨_,ny hk ad,hr⟩
  ·cases h
theorem xi{t:TypeId}{x d:D}{f:Nat}(h:tg E t x f=some d){v:Value}(hv:RelV I A G w x v):∃u,(Instr.field t v f).run E.P w= .ok u w∧RelV I A G w d u:=by
 unfold tg at h;split at h
 ·rename_i fs cs hfs;obtain⟨vs,rfl,hl,hr⟩:=hv.agg_inv;split at h
  ·cases h
  ·rename_i fd hfd;split at h
   ·rename_i ha;split at h
    ·rename_i n hn;simp only[za0] at h;subst h;refine⟨.agg (vs.extract fd.offset (fd.offset+n)),?_,?_⟩
     ·simp[Instr.field,run_underlying (fT hfs),hfd,asAgg,part,gj ha,bU hn]
     ·refine .agg _ _ (by simp;omega) fun j d' u hd hu=> ?_;by_cases hj:j<n
      ·rw[List.getElem?_take,if_pos hj,List.getElem?_drop] at hd;rw[Array.getElem?_extract] at hu;split at hu
       ·exact hr _ _ _ hd hu
       ·cases hu
      ·rw[List.getElem?_take,if_neg hj] at hd;cases hd
    ·cases h
   ·rename_i ha;have hlt:fd.offset<vs.size:=by rw[←hl];exact(zc1.1 h).1
    refine⟨vs[fd.offset],?_,hr _ _ _ h (Array.getElem?_eq_getElem hlt)⟩;simp[Instr.field,run_underlying (fT hfs),hfd,asAgg,part,gj ha,hlt]
   ·cases h
 ·cases h
theorem lW{s g len k:Nat}{v:Value}(hv:RelV I A G w (.own s g len) v):∃ad cap,v= .slice (some ad) len cap∧RelV I A G w (.loc s g k) (.pointer (some (ad.add k))):=by
 cases hv with
 |clo h=>cases h
 |own _ _ _ ad cap hg hl h=>exact⟨ad,cap,rfl,.loc _ _ _ _ hg fun x hx=>by rw[(h x hx).1,dB];simp⟩
theorem BK{s g off len n k:Nat}{v:Value}(hp:0<len)(hv:RelV I A G w (.win s g off len n) v):∃ad cap,v= .slice (some ad) len cap∧RelV I A G w (.loc s g (off+k)) (.pointer (some (ad.add k))):=by
 cases hv with
 |clo h=>cases h
 |win _ _ _ _ _ ad cap hg hl h=>exact⟨ad,cap,rfl,.loc _ _ _ _ hg fun x hx=>by rw[(h hp x hx).1,dB]⟩
theorem An{full:Bool}{len:Nat}{cs:List D}{v:Value}(hv:RelV I A G w (.slc full len cs) v):∃(ad:Option Addr) (cap:Nat),v= .slice ad len cap:=by
 cases hv with
 |clo h=>cases h with
  |slc _ _ _ ad cap us hI hf hl hc hr=>exact⟨_,cap,rfl⟩
  |slcn _=>exact⟨none,0,rfl⟩
theorem pp{full:Bool}{len k:Nat}{cs:List D}{v:Value}(hp:0<len)(hv:RelV I A G w (.slc full len cs) v):∃ad cap,v= .slice (some ad) len cap∧RelV I A G w (.snap cs k) (.pointer (some (ad.add k))):=by
 cases hv with
 |clo h=>cases h with
  |slc _ _ _ ad cap us hI hf hl hc hr=>exact⟨ad,cap,rfl,.clo (.snap cs k ad us hI hc hr)⟩
  |slcn _=>exact absurd hp (zc8 0)
theorem pq{t:TypeId}{x i d:D}(h:fy E t x i=some d){v vi:Value}(hv:RelV I A G w x v)(hi:RelV I A G w i vi):∃u,(Instr.indexAt t v vi).run E.P w= .ok u w∧RelV I A G w d u:=by
 unfold fy at h;split at h
 ·rename_i kd n;rw[hi.int_inv];split at h
  ·rename_i e hu;split at h
   ·cases h
   ·rename_i k hk;split at h
    ·rename_i s g len;split at h
     ·rename_i hb;simp only[za0] at h;subst h;obtain⟨ad,cap,rfl,hr⟩:=lW (k:=n.toNat*k) hv;refine⟨_,?_,hr⟩;simp[Instr.indexAt,asIntOf,run_underlying hu,hb,bU hk]
     ·cases h
    ·rename_i s g off len _;split at h
     ·rename_i hb;simp only[za0] at h;subst h;obtain⟨ad,cap,rfl,hr⟩:=BK (k:=n.toNat*k) (by omega) hv;refine⟨_,?_,hr⟩;simp[Instr.indexAt,asIntOf,run_underlying hu,hb,bU hk]
     ·cases h
    ·rename_i full len cs;split at h
     ·rename_i hb;simp only[za0] at h;subst h;obtain⟨ad,cap,rfl,hr⟩:=pp (k:=n.toNat*k) (by omega) hv;refine⟨_,?_,hr⟩;simp[Instr.indexAt,asIntOf,run_underlying hu,hb,bU hk]
     ·cases h
    ·cases h
  ·rename_i len e hu;split at h
   ·cases h
   ·rename_i k hk;split at h
    ·split at h
     ·rename_i hb;simp only[za0] at h;subst h;obtain⟨ad,rfl,hr⟩:=tq (k:=n.toNat*k) hv;refine⟨_,?_,hr⟩;simp[Instr.indexAt,asIntOf,run_underlying hu,Instr.sureAddr,hb,bU hk]
     ·cases h
    ·split at h
     ·rename_i hb;simp only[za0] at h;subst h;obtain⟨ad,rfl,hr⟩:=pm (k:=n.toNat*k) hv;refine⟨_,?_,hr⟩;simp[Instr.indexAt,asIntOf,run_underlying hu,Instr.sureAddr,hb,bU hk]
     ·cases h
    ·cases h
  ·cases h
 ·cases h
theorem BL{t e:TypeId}(hu:E.P.underlying t=some (.slice e)){x d:D}(h:BH x=some d){v:Value}(hv:RelV I A G w x v)(ty:TypeId):∃u,(Builtin.len_ #[t] ty #[v]).run E.P w= .ok u w∧RelV I A G w d u:=by
 unfold BH at h;split at h
 ·simp only[za0] at h;subst h;obtain⟨ad,cap,rfl,_⟩:=lW (k:=0) hv;refine⟨_,?_,.clo (.int _ _)⟩;simp[Builtin.len_,run_underlying hu,goInt]
 ·simp only[za0] at h;subst h;obtain⟨ad,cap,rfl,_⟩:=hv.win_inv;refine⟨_,?_,.clo (.int _ _)⟩;simp[Builtin.len_,run_underlying hu,goInt]
 ·simp only[za0] at h;subst h;obtain⟨ad,cap,rfl⟩:=An hv;refine⟨_,?_,.clo (.int _ _)⟩;simp[Builtin.len_,run_underlying hu,goInt]
 ·simp only[za0] at h;subst h;rw[hv.nils_inv];refine⟨_,?_,.clo (.int _ _)⟩;simp[Builtin.len_,run_underlying hu,goInt]
 ·cases h
theorem Ao(h0:Inv I0 B I A σ a w){t k e:TypeId}(hu:E.P.underlying t=some (.map k e)){x d:D}(h:lh σ.H x=some d){v:Value}(hv:RelV I A (bl σ.H) w x v)(ty:TypeId):
  ∃u,(Builtin.len_ #[t] ty #[v]).run E.P w= .ok u w∧RelV I A (bl σ.H) w d u:=by
 unfold lh at h;split at h
 ·split at h
  ·rename_i ks vs fz hl;simp only[za0] at h;subst h;obtain⟨x,hx,_,es,ck,hb,hk,_⟩:=h0.ob _ _ _ hl;rw[hv.mloc_inv hx];refine⟨_,?_,.clo (.int _ _)⟩;simp[Builtin.len_,run_underlying hu,goInt,getObj,Sem.run,hb,hk]
  ·cases h
 ·simp only[za0] at h;subst h;cases hv with
  |clo hv=>cases hv with
   |msnap _ _ b es ck hI hb hk hv'=>
    refine⟨_,?_,.clo (.int _ _)⟩;simp[Builtin.len_,run_underlying hu,goInt,getObj,Sem.run,hb,hk]
 ·simp only[za0] at h;subst h;rw[hv.mnil_inv];refine⟨_,?_,.clo (.int _ _)⟩;simp[Builtin.len_,run_underlying hu,goInt]
 ·cases h
theorem mS(h:Inv I0 B I A σ a w)(hgl:Gl E.gl I w):∀{l:List (Nat×Operand)} {r:List (Nat×D)},eM E σ l=some r→
  r.length=l.length∧∀(j:Nat) (i:Nat) (d:D),r[j]?=some (i,d)→∃x,l[j]?=some (i,x)∧RelV I A (bl σ.H) w d (a.eval x)
 |[],r,hr=>by
  simp only[eM,za0] at hr;subst hr;exact⟨rfl,fun j i d h=>by simp at h⟩
 |(i0,x)::l,r,hr=>by
  simp only[eM] at hr;split at hr
  ·cases hr
  ·rename_i d0 hd0;split at hr
   ·cases hr
   ·rename_i r' hr';simp only[za0] at hr;subst hr;obtain⟨h1,h2⟩:=mS h hgl hr';refine⟨by simp[h1],fun j i d hj=> ?_⟩;cases j with
    |zero=>simp at hj;obtain⟨rfl,rfl⟩:=hj;exact⟨x,rfl,bN h hgl hd0⟩
    |succ j=>simp at hj ⊢;exact h2 j i d hj
theorem pt:∀(vs:List Value) (cs:Array Value) (off k:Nat),off+k+vs.length≤cs.size→
  ((vs.zipIdx k).foldl (fun cs (c,j)=>cs.setIfInBounds (off+j) c) cs).toList=cs.toList.take (off+k)++vs++cs.toList.drop (off+k+vs.length)
 |[],cs,off,k,h=>by simp
 |v::vs,cs,off,k,h=>by
  simp only[List.zipIdx_cons,List.foldl_cons];simp only[za7] at h;rw[pt vs (cs.setIfInBounds (off+k) v) off (k+1) (by simp;omega)];have e:=list_seg_step cs.toList (off+k) v vs (by simp;omega);simpa [Array.toList_setIfInBounds,ze0] using e
theorem om{R:D→Value→Prop}{place:Nat→Option (Nat×Nat)}:
  ∀{ps:List (Nat×D)} {vps:List (Nat×Value)} {cells:List D} {vcells:Array Value} {cs:List D},pb place cells ps=some cs→cells.length=vcells.size→
   (∀(j:Nat) (d:D) (v:Value),cells[j]?=some d→vcells[j]?=some v→R d v)→ps.length=vps.length→
   (∀(j i:Nat) (d:D) (v:Value) (i':Nat),ps[j]?=some (i,d)→vps[j]?=some (i',v)→i=i'∧d.cells.length=v.cells.size∧∀(k:Nat) (x:D) (u:Value),d.cells[k]?=some x→v.cells[k]?=some u→R x u)→
   ∃vcs,Instr.fill place vcells vps=some vcs∧cs.length=vcs.size∧∀(j:Nat) (d:D) (v:Value),cs[j]?=some d→vcs[j]?=some v→R d v
 |[],vps,cells,vcells,cs,h,hl,hr,hp,_=>by
  simp only[pb,za0] at h;subst h;cases vps with
  |nil=>exact⟨vcells,rfl,hl,hr⟩
  |cons=>simp at hp
 |(i,d)::ps,vps,cells,vcells,cs,h,hl,hr,hp,hps=>by
  cases vps with
  |nil=>simp at hp
  |cons q vps=>
   obtain⟨i',v⟩:=q;obtain⟨rfl,hdl,hdr⟩:=hps 0 i d v i' rfl rfl;simp only[pb] at h;split at h
   ·cases h
   ·rename_i off size hpl;split at h
    ·cases h
    ·rename_i hc;have hc':d.cells.length=size∧off+d.cells.length≤cells.length:=by
      simp only[Bool.or_eq_true,zc7,not_or,Nat.not_lt] at hc;exact⟨by have:=hc.1;simp at this;exact this,by have:=hc.2;simpa using this⟩
     have hvl:v.cells.toList.length=d.cells.length:=by simpa using hdl.symm
     have e:=pt v.cells.toList vcells off 0 (by omega);have e2:v.cells.zipIdx.foldl (fun cs (c,j)=>cs.setIfInBounds (off+j) c) vcells=(vcells.toList.take off++v.cells.toList++vcells.toList.drop (off+v.cells.toList.length)).toArray:=by
      apply Array.ext';rw[←Array.foldl_toList];simp only[Array.toList_zipIdx];simpa using e
     obtain⟨vcs,h1,h2,h3⟩:=om (place:=place) (R:=R) (vps:=vps) (vcells:=(vcells.toList.take off++v.cells.toList++vcells.toList.drop (off+v.cells.toList.length)).toArray) h
      (by rw[dU,fE _ _ _ (by omega),hl]) (fun j x u hx hu=>by
       refine eR (R:=R) (c:=vcells.toList) (vs:=v.cells.toList) (by simp;omega) (by omega) (by omega) (fun j x u hx hu=>hr j x u hx (by simpa using hu)) (fun j x u hx hu=>hdr j x u hx (by simpa using hu)) j x u hx (by simpa using hu))
      (by simpa using hp) (fun j i x u i' hx hu=>hps (j+1) i x u i' (by simpa using hx) (by simpa using hu))
     refine⟨vcs,?_,h2,h3⟩;simp only[Instr.fill,hpl];have hcond:(decide (v.cells.size≠size)||decide (off+v.cells.size>vcells.size))=false:=by
      simp only[zc9,decide_eq_false_iff_not];exact⟨by omega,by omega⟩
     rw[if_neg (by rw[hcond];simp),e2];exact h1
theorem pu{P:Program}:∀{fs:List Field} {pl:List (Nat×Nat)},lO P fs=some pl→
  ∀(w:World),(fs.mapM fun f=>do pure (f.offset,←sizeOf f.type):Sem (List (Nat×Nat))).run P w= .ok pl w
 |[],pl,h,w=>by simp only[lO,za0] at h;subst h;simp
 |f::fs,pl,h,w=>by
  simp only[lO] at h;split at h
  ·cases h
  ·rename_i n hn;split at h
   ·cases h
   ·rename_i r hr;simp only[za0] at h;subst h;simp only[List.mapM_cons,Sem.run_bind,bU hn,Result.andThen_ok,Sem.run_pure,pu hr w]
end
section
variable {E:Env}{I0:Nat→Prop}{B:Nat→Prop}{I:Nat→Prop}{A:Nat→Nat→Option Gh}{σ:St}{a:Act}{w:World}{G:Nat→Nat}
theorem RelV.cells2{d:D}{v:Value}(h:RelV I A G w d v)(hnj:d.nj=true):d.cells.length=v.cells.size∧∀(j:Nat) (x:D) (u:Value),d.cells[j]?=some x→v.cells[j]?=some u→RelV I A G w x u:=by
 by_cases ha:∃cs,d= .agg cs
 ·obtain⟨cs,rfl⟩:=ha;obtain⟨vs,rfl,hl,hr⟩:=h.agg_inv;exact⟨hl,hr⟩
 ·have e:d.cells=[d]:=by cases d<;>first|rfl|exact absurd ⟨_,rfl⟩ ha
  have ev:v.cells= #[v]:=by
   cases h with
   |clo h=>cases h<;>first|rfl|exact absurd ⟨_,rfl⟩ ha|(simp[D.nj] at hnj)
   |agg=>exact absurd ⟨_,rfl⟩ ha
   |_=>rfl
  rw[e,ev];refine⟨rfl,fun j x u hx hu=> ?_⟩;cases j with
  |zero=>simp at hx hu;subst hx hu;exact h
  |succ j=>simp at hx
theorem xj{t:TypeId}{l:List (Nat×D)}{d:D}(h:tf E t l=some d){vl:Array (Nat×Value)}(hl:l.length=vl.toList.length)
  (hr:∀(j i:Nat) (x:D) (v:Value) (i':Nat),l[j]?=some (i,x)→vl.toList[j]?=some (i',v)→i=i'∧RelV I A G w x v):
  ∃u,(Instr.build t vl).run E.P w= .ok u w∧RelV I A G w d u:=by
 unfold tf at h;split at h
 ·rename_i fs z hfs hz;obtain⟨i,zv,hi,hzv,ho⟩:=eE hz;split at h
  ·cases h
  rename_i hnj;have hnj':∀(j i:Nat) (x:D),l[j]?=some (i,x)→x.nj=true:=fun j i x hx=>by
   simp only[Bool.not_eq_true',Bool.not_eq_false,zd7] at hnj;exact hnj (i,x) (List.mem_of_getElem? hx)
  split at h
  ·cases h
  ·rename_i pl hpl;split at h
   ·rename_i cs hf;simp only[za0] at h;subst h;obtain⟨c1,c2⟩:=(RelV.clo (eu (w:=w) (I:=I) ho):RelV I A G w z zv).cells2 (tj ho);obtain⟨vcs,h1,h2,h3⟩:=om (R:=RelV I A G w) (vps:=vl.toList) (vcells:=zv.cells) hf c1 c2 hl (fun j i x v i' hx hv=>by
     obtain⟨e,hrx⟩:=hr j i x v i' hx hv;exact⟨e,hrx.cells2 (hnj' j i x hx)⟩)
    refine⟨.agg vcs,?_,.agg _ _ h2 h3⟩;have hm:(fs.mapM fun f=>do pure (f.offset,←sizeOf f.type):Sem (Array (Nat×Nat))).run E.P w= .ok pl.toArray w:=by
     rw[Array.mapM_eq_mapM_toList];simp only[Sem.run_map,pu hpl w,Result.andThen_ok]
    have h1':Instr.fill (fun x=>pl.toArray[x]?) zv.cells vl.toList=some vcs:=by
     rw[←h1];congr 1;funext x;simp
    have hzr:(zeroValue t).run E.P w= .ok zv w:=by simp[zeroValue,typeInfo,hi,hzv]
    simp only[Instr.build,Sem.run_bind,hzr,Result.andThen_ok,run_underlying (fT hfs),hm,h1'];rfl
   ·cases h
 ·cases h
theorem lX(h:Inv I0 B I A σ a w):∀{l r:List (Nat×D)} {ss:List Nat},dz σ.H l=some (r,ss)→
  r.length=l.length∧Sites σ.H ss∧∀(j i:Nat) (d':D),r[j]?=some (i,d')→∃d,l[j]?=some (i,d)∧∀v,RelV I A (bl σ.H) w d v→RelC (du I A ss) w d' v
 |[],r,ss,hs=>by
  simp only[dz,za0,zb3] at hs;obtain⟨rfl,rfl⟩:=hs;exact⟨rfl,(fun s hs=>by cases hs),fun j i d' h=>by simp at h⟩
 |(i0,d0)::l,r,ss,hs=>by
  simp only[dz] at hs;split at hs
  ·cases hs
  ·rename_i d1 s1 h1;split at hs
   ·cases hs
   ·rename_i r1 s2 h2;simp only[za0,zb3] at hs;obtain⟨rfl,rfl⟩:=hs;obtain⟨a1,a2,a3⟩:=lX h h2;obtain⟨b1,b2⟩:=cr h depth d0 d1 s1 h1;refine⟨by simp[a1],b1.append a2,fun j i d' hj=> ?_⟩;cases j with
    |zero=>
     simp at hj;obtain⟨rfl,rfl⟩:=hj;exact⟨d0,rfl,fun v hv=>(b2 v hv).mono (fun b hb=>eA (fun s hs=>List.mem_append_left _ hs) hb) (fun _ _=>rfl)⟩
    |succ j=>
     simp at hj;obtain⟨x,hx,hr⟩:=a3 j i d' hj;exact⟨x,by simpa using hx,fun v hv=>(hr v hv).mono (fun b hb=>eA (fun s hs=>List.mem_append_right _ hs) hb) (fun _ _=>rfl)⟩
theorem gk(z:List D):∀n,(dQ n z).length=n*z.length
 |0=>by simp[dQ]
 |n+1=>by simp only[dQ,za6,gk z n];rw[Nat.add_mul];omega
theorem lY(z:List D):∀(n j:Nat),j<n*z.length→(dQ n z)[j]?=z[j%z.length]?
 |0,j,h=>by simp at h
 |n+1,j,h=>by
  simp only[dQ];by_cases e:j<z.length
  ·rw[zb9 e,Nat.mod_eq_of_lt e]
  ·rw[zb8 (by omega),lY z n (j-z.length) (by rw[Nat.add_mul] at h;omega)]
   congr 1
   rw[Nat.mod_eq_sub_mod (by omega:z.length≤j)]
theorem pv{R:D→Value→Prop}{z:List D}{vz:Array Value}(hl:z.length=vz.size)(hr:∀(j:Nat) (x:D) (u:Value),z[j]?=some x→vz[j]?=some u→R x u)(n:Nat):
  (dQ n z).length=((Array.range (n*vz.size)).map (vz[·%vz.size]!)).size∧
  ∀(j:Nat) (x:D) (u:Value),(dQ n z)[j]?=some x→((Array.range (n*vz.size)).map (vz[·%vz.size]!))[j]?=some u→R x u:=by
 refine⟨by rw[gk,hl];simp,fun j x u hx hu=> ?_⟩;have hj:j<n*z.length:=by have:=(zc1.1 hx).1;rwa [gk] at this
 rw[lY z n j hj] at hx;have hpos:0<vz.size:=by
  rcases Nat.eq_zero_or_pos z.length with h0|h0
  ·rw[h0] at hj;simp at hj
  ·omega
 have hm:j%vz.size<vz.size:=zd9 _ hpos;have hj2:j<n*vz.size:=by rw[←hl];exact hj
 have hu':u=vz[j%vz.size]'hm:=by
  simp[hj2] at hu;rw[←hu,getElem!_pos vz _ hm]
 rw[hl] at hx;exact hr _ _ _ hx (by rw[hu'];exact Array.getElem?_eq_getElem hm)
theorem nT{P:Program}(w:World)(t e:TypeId)(len:Nat)(parts:Array (Nat×Value))(cells:Array Value)(ie:TypeInfo)
  (hu:P.underlying t=some (.slice e)) (hie:P.info? e=some ie) (hpos:len*ie.size=0) (h:Instr.fill (fun i=>some (i*ie.size,ie.size)) #[] parts.toList=some cells):
  (Instr.buildSlice t len parts).run P w= .ok (.slice (some ⟨w.heap.size,0,none⟩) len len) (w.alloc (.cells cells e)):=by
 have hr:Array.range 0= #[]:=rfl;simp only[Instr.buildSlice,Sem.run_bind,run_underlying hu,Result.andThen_ok,sizeOf,typeInfo,run_program,hie,Sem.run_pure,hpos,if_true,hr,Array.map_empty,h];simp[newRow]
theorem nU(h:Inv I0 B I A σ a w)(hB:∀k,B k→k<w.heap.size){t:TypeId}{len:Nat}{l:List (Nat×D)}{d:D}{σ':St}(hs:cQ E σ t len l=some (d,σ')){vl:Array (Nat×Value)}(hl:l.length=vl.toList.length)
  (hr:∀(j i:Nat) (x:D) (v:Value) (i':Nat),l[j]?=some (i,x)→vl.toList[j]?=some (i',v)→i=i'∧RelV I A (bl σ.H) w x v):
  ∃u w',(Instr.buildSlice t len vl).run E.P w= .ok u w'∧Step I0 B I a w d σ' u w':=by
 unfold cQ at hs;split at hs
 ·cases hs
 ·rename_i e he;split at hs
  ·rename_i n z ps ss hn hz hps;split at hs
   ·rename_i hcond;simp only[zc4,zc7] at hcond;obtain⟨⟨hsm,hzl⟩,hnj⟩:=hcond;have hnj':∀(j i:Nat) (x:D),ps[j]?=some (i,x)→x.nj=true:=fun j i x hx=>by
     have:=zd7.1 hnj (i,x) (List.mem_of_getElem? hx);simp only[zc4] at this;exact this.1
    split at hs
    ·rename_i cs hf;simp only[za0,zb3] at hs;obtain⟨rfl,rfl⟩:=hs;obtain⟨i,hi,rfl⟩:=km hn;obtain⟨i',zv,hi',hzv,ho⟩:=eE hz;rw[hi] at hi';cases hi';obtain⟨a1,a2,a3⟩:=lX h hps;obtain⟨hfz,hRf⟩:=h.freeze ss a2.free;have hzc:RelC (du I A ss) w z zv:=eu ho;obtain⟨c1,c2⟩:=(RelV.clo hzc:RelV (du I A ss) (fun _ _=>none) (fun _=>0) w z zv).cells2 (tj ho);have hzs:zv.cells.size=i.size:=by omega
     have hcl:∀{x:D} {v:Value},RelV (du I A ss) (fun _ _=>none) (fun _=>0) w x v→RelC (du I A ss) w x v:=fun {x v} hx=>by
      induction hx with
      |clo h=>exact h
      |loc _ _ _ _ hg=>exact absurd hg (Nat.not_lt_zero _)
      |own _ _ _ _ _ hg=>exact absurd hg (Nat.not_lt_zero _)
      |win _ _ _ _ _ _ _ hg=>exact absurd hg (Nat.not_lt_zero _)
      |mloc _ _ _ hg=>exact absurd hg (Nat.not_lt_zero _)
      |fn f x y vx vy hx hy _ _ ihx ihy=>exact .fn f x y vx vy hx hy ihx ihy
      |ifc t d v _ ih=>exact .ifc t d v ih
      |agg cs vs hl _ ih=>exact .agg cs vs hl ih
      |tup cs vs hl _ ih=>exact .tup cs vs hl ih
     have key:∃vcs:Array Value,(Instr.buildSlice t len vl).run E.P w= .ok (.slice (some ⟨w.heap.size,0,none⟩) len len) (w.alloc (.cells vcs e))∧cs.length=vcs.size∧
       ∀(j:Nat) (x:D) (u:Value),cs[j]?=some x→vcs[j]?=some u→RelC (du I A ss) w x u:=by
      have hparts:∀(j i1:Nat) (x:D) (v:Value) (i2:Nat),ps[j]?=some (i1,x)→vl.toList[j]?=some (i2,v)→i1=i2∧x.cells.length=v.cells.size∧∀(k:Nat) (y:D) (u:Value),x.cells[k]?=some y→v.cells[k]?=some u→RelC (du I A ss) w y u:=by
       intro j i1 x v i2 hx hv;obtain⟨x0,hx0,hxr⟩:=a3 j i1 x hx;obtain⟨e1,hrv⟩:=hr j i1 x0 v i2 hx0 hv;obtain⟨k1,k2⟩:=(RelV.clo (hxr v hrv):RelV (du I A ss) (fun _ _=>none) (fun _=>0) w x v).cells2 (hnj' j i1 x hx);exact⟨e1,k1,fun k y u hy hu=>hcl (k2 k y u hy hu)⟩
      have hzr:=pv (R:=RelC (du I A ss) w) c1 (fun j x u hx hu=>hcl (c2 j x u hx hu)) len;by_cases hpos:len*i.size=0
      ·
       have hrep:dQ len z.cells=[]:=by apply List.eq_nil_of_length_eq_zero;rw[gk,hzl];exact hpos
       rw[hrep] at hf;obtain⟨vcs,h1,h2,h3⟩:=om (R:=RelC (du I A ss) w) (vps:=vl.toList) (vcells:= #[]) hf rfl (fun j x u hx=>by simp at hx) (by omega) hparts;refine⟨vcs,?_,h2,h3⟩;exact nT w t e len vl vcs i (cM he) hi hpos h1
      ·obtain⟨hz1,hz2⟩:=hzr;rw[hzs] at hz1 hz2;have hf':pb (fun i1=>some (i1*i.size,i.size)) (dQ len z.cells) ps=some cs:=hf;obtain⟨vcs,h1,h2,h3⟩:=om (R:=RelC (du I A ss) w) (vps:=vl.toList) (vcells:=(Array.range (len*i.size)).map (zv.cells[·%i.size]!)) hf' hz1 hz2 (by omega) hparts;refine⟨vcs,?_,h2,h3⟩;exact run_buildSlice w t e len vl vcs i zv (cM he) hi hzv (by omega) hpos (by rw[hzs];exact h1)
     obtain⟨vcs,hrun,hvl,hvr⟩:=key;refine⟨_,_,hrun,?_⟩;have hw:∀b,b<w.heap.size→(w.alloc (.cells vcs e)).heap[b]?=w.heap[b]?:=fun b hb=>eH w _ hb;obtain⟨hi',hR'⟩:=hfz.world (w':=w.alloc (.cells vcs e)) (I':=fun b=>du I A ss b∨b=w.heap.size) (by simp) hw (fun b hb=> .inl hb) (fun b hb=>by
      rcases hb with hb|rfl
      ·exact .inl hb
      ·exact .inr ⟨zb0 _,by simp⟩) hB
     refine⟨_,A,hi',.clo ?_,fun b hb=> .inl (.inl hb),fun b hb=>hw b (h.iw b hb),(Blw.refl B w).alloc hB _⟩;refine .slc true len cs ⟨w.heap.size,0,none⟩ len (fun j=>vcs.getD j undef) (fun _=> .inr rfl) (fun _=>rfl) (zb0 _) (fun j x hx=> ?_) (fun j x hx=> ?_)
     ·have hlt:=(zc1.1 hx).1;rw[cV (cE w _)];simp[show j<vcs.size by omega]
     ·have hlt:=(zc1.1 hx).1;have hc:vcs[j]?=some (vcs.getD j undef):=by simp[show j<vcs.size by omega]
      exact(hvr j x _ hx hc).mono (fun b hb=> .inl hb) (fun b hb=>hw b (hfz.iw b hb))
    ·cases hs
   ·cases hs
  ·cases hs
end
theorem Step.weaken{I0:Nat→Prop}{B:Nat→Prop}{I I1:Nat→Prop}{a:Act}{w:World}{d:D}{σ':St}{v:Value}{w':World}(h:Step I0 B I1 a w d σ' v w')(hI:∀b,I b→I1 b):Step I0 B I a w d σ' v w':=by
 obtain⟨I',A',h1,h2,h3,h4,h5⟩:=h;exact⟨I',A',h1,h2,fun b hb=>h3 b (hI b hb),fun b hb=>h4 b (hI b hb),h5⟩
section
variable {E:Env}{I0:Nat→Prop}{B:Nat→Prop}{I:Nat→Prop}{A:Nat→Nat→Option Gh}{σ:St}{a:Act}{w:World}{G:Nat→Nat}
theorem RelC.slc_inv{full:Bool}{len:Nat}{cs:List D}{v:Value}(h:RelC I w (.slc full len cs) v):(len=0∧cs=[]∧v= .slice none 0 0)∨∃(ad:Addr) (cap:Nat) (us:Nat→Value),v= .slice (some ad) len cap∧(0<cs.length→I ad.block)∧(full=true→cap=len)∧len≤cap∧
  (∀(j:Nat) (d:D),cs[j]?=some d→w.cell? (ad.add j)=some (us j))∧(∀(j:Nat) (d:D),cs[j]?=some d→RelC I w d (us j)):=by
 cases h with
 |slc _ _ _ ad cap us h1 h2 h3 h4 h5=>exact .inr ⟨ad,cap,us,rfl,h1,h2,h3,h4,h5⟩
 |slcn _=>exact .inl ⟨rfl,rfl,rfl⟩
theorem RelC.nils_inv{v:Value}(h:RelC I w .nils v):v= .slice none 0 0:=by cases h;rfl
def ll(d:Nat)(x:Option D)(v:Option Value):Prop:=∀n,cR d x=some n→(v=none∧n=d)∨∃k,v=some (.int k n)
theorem rO{d:Nat}{x:Option D}{v:Option Value}(h:match x,v with|none,none=>True|some y,some u=>RelV I A G w y u|_,_=>False):ll d x v:=by
 intro n hn;cases x with
 |none=>cases v with
  |none=>simp only[cR,za0] at hn;exact .inl ⟨rfl,hn.symm⟩
  |some=>exact h.elim
 |some y=>cases v with
  |none=>exact h.elim
  |some u=>
   cases y<;>simp only[cR,za0] at hn<;>(try cases hn);exact .inr ⟨_,by rw[(h:RelV I A G w _ u).int_inv]⟩
theorem gD{t e:TypeId}{n len cap:Nat}{ad:Option Addr}(he:E.P.underlying t=some (.slice e))(hn:sz E.P e=some n){l h:Int}{lo hi:Option Value}(hlo:(lo=none∧l=0)∨∃k,lo=some (.int k l))(hhi:(hi=none∧h=len)∨∃k,hi=some (.int k h))
  (h1:0≤l) (h2:l≤h) (h3:h≤len) (h4:len≤cap):
  (Instr.sliceAt t (.slice ad len cap) lo hi none).run E.P w= .ok (.slice (if cap=l.toNat then ad else ad.map (·.add (l.toNat*n))) (h-l).toNat (cap-l.toNat)) w:=by
 obtain⟨l,rfl⟩:=Int.eq_ofNat_of_zero_le h1;obtain⟨h,rfl⟩:=Int.eq_ofNat_of_zero_le (Int.le_trans h1 h2);have c1:h≤cap:=by omega
 have c2:l≤h:=by omega
 have e1:((h:Int)-(l:Int)).toNat=h-l:=by omega
 rcases hlo with⟨rfl,hl0⟩|⟨kl,rfl⟩<;>rcases hhi with⟨rfl,hh0⟩|⟨kh,rfl⟩
 ·have:l=0:=by omega
  subst this;have:h=len:=by omega
  subst this;simp[Instr.sliceAt,Instr.slice,run_underlying he,Instr.sliceBounds,bU hn]
 ·have:l=0:=by omega
  subst this;simp[Instr.sliceAt,Instr.slice,run_underlying he,Instr.sliceBounds,Instr.sliceBound,asIntOf,c1,bU hn]
 ·have:h=len:=by omega
  subst this;simp[Instr.sliceAt,Instr.slice,run_underlying he,Instr.sliceBounds,Instr.sliceBound,asIntOf,c2,bU hn,e1]
 ·simp[Instr.sliceAt,Instr.slice,run_underlying he,Instr.sliceBounds,Instr.sliceBound,asIntOf,c1,c2,bU hn,e1]
theorem ig{G:Nat→Nat}{x:D}{s g off len:Nat}(hx:gx x=some (s,g,off,len)){v:Value}(hv:RelV I A G w x v):∃ad cap,v= .slice (some ad) len cap∧len≤cap∧g<G s∧(0<len→∀y,A s g=some y→ad=⟨y.b,off,none⟩∧(off=0→cap=y.cap)∧∀n,xb x n=true→off+cap*n=y.cap*n):=by
 unfold gx at hx;split at hx
 ·simp only[za0,zb3] at hx;obtain⟨rfl,rfl,rfl,rfl⟩:=hx;cases hv with
  |clo h=>cases h
  |own _ _ _ ad cap hg hl h=>exact⟨ad,cap,rfl,hl,hg,fun _ y hy=>⟨(h y hy).1,fun _=>(h y hy).2.1,fun n _=>by rw[(h y hy).2.1,Nat.zero_add]⟩⟩
 ·simp only[za0,zb3] at hx;obtain⟨rfl,rfl,rfl,rfl⟩:=hx;cases hv with
  |clo h=>cases h
  |win _ _ _ _ m ad cap hg hl h=>exact⟨ad,cap,rfl,hl,hg,fun hp y hy=>⟨(h hp y hy).1,(h hp y hy).2.1,fun n hn=>by
   have hmn:=(by simpa [xb] using hn:_=n);subst hmn;exact(h hp y hy).2.2⟩⟩
 ·cases hx
theorem uQ(h:Inv I0 B I A σ a w){t:TypeId}{x:D}{lo hi:Option D}{d:D}{σ':St}(hs:eN E σ t x lo hi=some (d,σ')){v:Value}{vlo vhi:Option Value}(hv:RelV I A (bl σ.H) w x v)
  (hlo:∀d,ll d lo vlo) (hhi:∀d,ll d hi vhi):∃u w',(Instr.sliceAt t v vlo vhi none).run E.P w= .ok u w'∧Step I0 B I a w d σ' u w':=by
 unfold eN at hs;split at hs
 ·rename_i n e s g ha;split at hs
  ·rename_i m cs fz l h' hm hl hl' hh';split at hs
   ·rename_i hc;obtain⟨hp,⟨c1,c2,c3⟩,c4⟩:=hc;simp only[za0,zb3] at hs;obtain⟨rfl,rfl⟩:=hs;unfold Es at ha;split at ha
    ·rename_i n' e' hu;cases ha;obtain⟨x,hx,hxB,c,e2,hb,hlen,hrel,hfz⟩:=h.ob s g _ hl;rw[hv.loc_inv hx];obtain⟨l,rfl⟩:=Int.eq_ofNat_of_zero_le c1;obtain⟨h',rfl⟩:=Int.eq_ofNat_of_zero_le (Int.le_trans c1 c2);have d1:l≤h':=by omega
     have d2:h'≤n:=by omega
     have e1:((h':Int)-(l:Int)).toNat=h'-l:=by omega
     obtain⟨hfi,hRf⟩:=h.freeze [s] (fun s' hs' g' o ho=>by
      rw[zd1.1 hs'] at ho;have k1:=bT ho;have k2:=bT hl;have:g'=g:=by omega
      subst this;rw[hl] at ho;cases ho;rfl)
     have hrun:(Instr.sliceAt t (.pointer (some ⟨x.b,0,none⟩)) vlo vhi none).run E.P w= .ok (.slice (some (if n=l then⟨x.b,0,none⟩ else(⟨x.b,0,none⟩:Addr).add (l*m))) (h'-l) (n-l)) w:=by
      rcases hlo 0 l hl' with⟨rfl,hl0⟩|⟨kl,rfl⟩<;>rcases hhi n h' hh' with⟨rfl,hh0⟩|⟨kh,rfl⟩
      ·have:l=0:=by omega
       subst this;have:h'=n:=by omega
       subst this;simp[Instr.sliceAt,run_underlying hu,Instr.sliceBounds,bU hm,Instr.sureAddr]
      ·have:l=0:=by omega
       subst this;simp[Instr.sliceAt,run_underlying hu,Instr.sliceBounds,Instr.sliceBound,asIntOf,d2,bU hm,Instr.sureAddr]
      ·have:h'=n:=by omega
       subst this;simp[Instr.sliceAt,run_underlying hu,Instr.sliceBounds,Instr.sliceBound,asIntOf,d1,bU hm,Instr.sureAddr]
      ·simp[Instr.sliceAt,run_underlying hu,Instr.sliceBounds,Instr.sliceBound,asIntOf,d1,d2,bU hm,Instr.sureAddr]
     refine⟨_,w,hrun,_,A,hfi,?_,fun _ hb=> .inl hb,fun _ _=>rfl,Blw.refl _ _⟩;rw[e1];have hmul:l*m+(h'-l)*m≤n*m:=by
      rw[←Nat.add_mul];exact Nat.mul_le_mul_right _ (by omega)
     by_cases hz:n=l
     ·have:h'=l:=by omega
      subst this;rw[if_pos hz];simp only[Nat.sub_self,Nat.zero_mul,List.take_zero];exact .clo (.slc _ 0 [] _ _ (fun _=>undef) (fun hh=>by simp at hh) (fun hh=>by omega) (by omega) (fun j d hj=>by simp at hj) (fun j d hj=>by simp at hj))
     ·rw[if_neg hz,dB,Nat.zero_add];refine .clo (.slc _ _ _ ⟨x.b,l*m,none⟩ (n-l) (fun j=>c.getD (l*m+j) undef) (fun _=> .inr ⟨s,by simp,g,x,hx,rfl⟩) (fun hh=> ?_) (by omega) (fun j dj hj=> ?_) (fun j dj hj=> ?_))
      ·have:=of_decide_eq_true hh;omega
      ·rw[List.getElem?_take] at hj;split at hj
       ·rw[List.getElem?_drop] at hj;have hlt:=(zc1.1 hj).1;rw[cV hb];simp[show l*m+j<c.size by omega]
       ·cases hj
      ·rw[List.getElem?_take] at hj;split at hj
       ·rw[List.getElem?_drop] at hj;have hlt:=(zc1.1 hj).1;have hcc:c[l*m+j]?=some (c.getD (l*m+j) undef):=by simp[show l*m+j<c.size by omega]
        have hr:=hrel _ dj _ hj hcc;have hpd:=zd7.1 hp dj (List.mem_of_getElem? hj);unfold D.plain at hpd;cases hu':dj.toV with
        |none=>rw[hu'] at hpd;cases hpd
        |some u=>
         rw[hr.toV hu'];exact ew hu'
       ·cases hj
    ·cases ha
   ·cases hs
  ·cases hs
 ·cases hs
theorem xk(h:Inv I0 B I A σ a w){t:TypeId}{x:D}{lo hi:Option D}{d:D}{σ':St}(hs:dn E σ t x lo hi=some (d,σ')){v:Value}{vlo vhi:Option Value}(hv:RelV I A (bl σ.H) w x v)
  (hlo:∀d,ll d lo vlo) (hhi:∀d,ll d hi vhi):∃u w',(Instr.sliceAt t v vlo vhi none).run E.P w= .ok u w'∧Step I0 B I a w d σ' u w':=by
 unfold dn at hs;split at hs
 ·split at hs
  ·rename_i d0 hd0;cases hs;unfold uH at hd0;split at hd0
   ·rename_i n e cs off ha;split at hd0
    ·rename_i m hm;split at hd0
     ·rename_i hb;cases hd0;unfold Es at ha;split at ha
      ·rename_i n' e' hu;cases ha;have hr:RelC I w (.snap cs off) v:=by cases hv with|clo h=>exact h
       cases hr with
       |snap _ _ a us h1 h2 h3=>
        have none_of:∀vl:Option Value,(∀d,ll d none vl)→vl=none:=fun vl hvl=>by
         rcases hvl 0 0 rfl with h|⟨k,h⟩
         ·exact h.1
         ·rcases hvl 1 1 rfl with h'|⟨k',h'⟩
          ·exact h'.1
          ·rw[h] at h';cases h'
        obtain rfl:=none_of vlo hlo;obtain rfl:=none_of vhi hhi;have hne:¬n=0:=by omega
        refine⟨.slice (some ((a.add off).add (0*m))) n n,w,?_,Step.pure h (.clo ?_)⟩
        ·simp[Instr.sliceAt,run_underlying hu,Instr.sliceBounds,bU hm,Instr.sureAddr,hne]
        ·refine .slc _ _ _ ((a.add off).add (0*m)) n (fun j=>us (off+j)) (fun hp=> ?_) (fun _=>rfl) (zb0 _) (fun j d hj=> ?_) (fun j d hj=> ?_)
         ·rw[eG,eG];refine h1 ?_;simp at hp;omega
         ·rw[List.getElem?_take] at hj;split at hj
          ·rw[List.getElem?_drop] at hj;have:=h2 _ _ hj;rw[Nat.zero_mul,kk,kk,Nat.zero_add];exact this
          ·cases hj
         ·rw[List.getElem?_take] at hj;split at hj
          ·rw[List.getElem?_drop] at hj;exact h3 _ _ hj
          ·cases hj
      ·cases ha
     ·cases hd0
    ·cases hd0
   ·cases hd0
  ·exact uQ h hs hv hlo hhi
 ·rename_i e he;split at hs
  ·rename_i y hy;obtain⟨s,g,off,len⟩:=y;obtain⟨ad,cap,rfl,hcap,hg,had⟩:=ig hy hv;unfold pc at hs;split at hs
   ·rename_i n l hh hn hl hhd;split at hs
    ·rename_i hb;obtain⟨⟨h0,hwn⟩,h1,h2,h3⟩:=hb;simp only at h3;simp only[za0,zb3] at hs;obtain⟨rfl,rfl⟩:=hs;refine⟨_,_,gD (cM he) hn (hlo 0 l hl) (hhi len hh hhd) h1 h2 h3 hcap,?_⟩;refine Step.pure h ?_;by_cases hc:cap=l.toNat
     ·rw[if_pos hc];exact .win _ _ _ _ _ ad _ hg (by omega) fun hp=>by omega
     ·rw[if_neg hc];refine .win _ _ _ _ _ (ad.add (l.toNat*n)) _ hg (by omega) fun hp x hx=> ?_;obtain⟨k1,k2,k3⟩:=had (by omega) x hx;refine⟨by rw[k1,dB],fun h=> ?_,by
       rw[←k3 n hwn,ze0,←Nat.add_mul]
       congr 2
       omega⟩
      have hz:l.toNat*n=0:=by omega
      have hl0:l.toNat=0:=by
       rcases Nat.mul_eq_zero.1 hz with h|h
       ·exact h
       ·omega
      rw[hl0,Nat.sub_zero];exact k2 (by omega)
    ·cases hs
   ·cases hs
  split at hs
  ·rename_i n full len cs ss hn hsn;split at hs
   ·rename_i l hh hl hhd;split at hs
    ·rename_i hb;obtain⟨h1,h2,h3⟩:=hb;simp only[za0,zb3] at hs;obtain⟨rfl,rfl⟩:=hs;obtain⟨b1,b2⟩:=cr h depth _ _ _ hsn;obtain⟨hfz,hRf⟩:=h.freeze ss b1.free;rcases(b2 v hv).slc_inv with⟨rfl,rfl,rfl⟩|⟨ad,cap,us,rfl,q1,q2,q3,q4,q5⟩
     ·have hl0:l=0:=by omega
      have hh0:hh=0:=by omega
      subst hl0 hh0;refine⟨_,_,gD (cM he) hn (hlo 0 _ hl) (hhi 0 _ hhd) (by omega) (by omega) (by omega) (zb0 0),?_⟩;refine(Step.pure hfz (.clo ?_)).weaken (fun _ hb=> .inl hb);simp only[List.drop_nil,List.take_nil];exact .slcn _
     refine⟨_,_,gD (cM he) hn (hlo 0 l hl) (hhi len hh hhd) h1 h2 h3 q3,?_⟩;refine(Step.pure hfz (.clo ?_)).weaken (fun _ hb=> .inl hb);by_cases hc:cap=l.toNat
     ·have hz:(hh-l).toNat=0:=by omega
      rw[if_pos hc,hz];simp only[Nat.zero_mul,List.take_zero];refine .slc _ _ _ ad _ (fun _=>undef) (fun h=>by simp at h) (fun hf=> ?_) (Nat.zero_le _) (fun j d hj=>by simp at hj) (fun j d hj=>by simp at hj);omega
     ·rw[if_neg hc];refine .slc _ _ _ (ad.add (l.toNat*n)) _ (fun j=>us (l.toNat*n+j)) (fun hp=> ?_) (fun hf=> ?_) (by omega) (fun j d hj=> ?_) (fun j d hj=> ?_)
      ·rw[eG];refine q1 ?_;simp at hp;omega
      ·simp at hf;have:=q2 hf.1;omega
      ·rw[List.getElem?_take] at hj;split at hj
       ·rw[List.getElem?_drop] at hj;rw[kk];exact q4 _ _ hj
       ·cases hj
      ·rw[List.getElem?_take] at hj;split at hj
       ·rw[List.getElem?_drop] at hj;exact q5 _ _ hj
       ·cases hj
    ·cases hs
   ·cases hs
  ·rename_i n ss hn hsn;split at hs
   ·rename_i l hh hl hhd;split at hs
    ·rename_i hb;obtain⟨rfl,rfl⟩:=hb;simp only[za0,zb3] at hs;obtain⟨rfl,rfl⟩:=hs;obtain⟨b1,b2⟩:=cr h depth _ _ _ hsn;have hv0:=(b2 v hv).nils_inv;subst hv0;refine⟨_,_,gD (cM he) hn (hlo 0 0 hl) (hhi 0 0 hhd) (Int.le_refl _) (Int.le_refl _) (Int.le_refl _) (zb0 _),?_⟩;exact Step.pure h (.clo .nils)
    ·cases hs
   ·cases hs
  ·cases hs
theorem ga(h:Inv I0 B I A σ a w){dst:Option Tmp}{e:TypeId}{n L:Nat}{cs:List D}{d:D}{σ':St}(hn:ce σ dst (.arr e n cs false) (fun s g=> .own s g L)=some (d,σ')){w':World}{g cap:Nat}{cur:Array Value}
  (hg:¬B g) (hgI:¬I g) (hgA:∀s' g' y,A s' g'=some y→y.b≠g) (hwI:∀b,I b→w'.heap[b]?=w.heap[b]?) (hwA:∀s' g' y,A s' g'=some y→w'.heap[y.b]?=w.heap[y.b]?) (hrow:∀y j b,RowAt A σ.H w y j b→g≠b∧w'.heap[b]?=w.heap[b]?) (hbel:Blw B w w')
  (hheap:w'.heap[g]?=some (.cells cur e (0,0))) (hcur:cur.size=cap*n) (hm:cap≤maxLen) (hL:L≤cap) (hcs:cs.length=L*n)
  (hrel:∀(j:Nat) (x:D) (u:Value),cs[j]?=some x→cur[j]?=some u→RelC I w x u):Step I0 B I a w d σ' (.slice (some ⟨g,0,none⟩) L cap) w':=by
 refine rN h hn (x:=⟨g,cap,L⟩) hg hgA hwI hwA hrow rfl hbel (fun A' G' hR=> ?_) (fun s g' A' G' hA hg'=> ?_)
 ·exact⟨cur,hheap,hcur,hm,hL,hcs,fun j x u hx hu=>hR _ _ (.clo (hrel j x u hx hu)),⟨(fun hh=>by cases hh),fun hi=>absurd hi hgI⟩,fun d hd=>by
   obtain⟨j,hj,rfl⟩:=List.getElem_of_mem hd;have hjv:j<cur.size:=by rw[hcur];have:=Nat.mul_le_mul_right n hL;omega
   exact(hrel j _ _ (zd2 hj) (Array.getElem?_eq_getElem hjv)).clo⟩
 ·exact .own _ _ _ _ _ hg' hL fun y hy=>by rw[hA] at hy;cases hy;exact⟨rfl,rfl,rfl⟩
theorem pw(h:Inv I0 B I A σ a w)(hB:∀k,B k→k<w.heap.size){dst:Option Tmp}{t:TypeId}{x y d:D}{σ':St}(hs:dg E σ dst t x y=some (d,σ')){vx vy:Value}(hx:RelV I A (bl σ.H) w x vx)(hy:RelV I A (bl σ.H) w y vy):
  ∃u w',(Instr.makeSlice t vx vy).run E.P w= .ok u w'∧Step I0 B I a w d σ' u w':=by
 unfold dg at hs;split at hs
 ·rename_i e kl l kc c he;rw[hx.int_inv,hy.int_inv];split at hs
  ·rename_i n by_ z hn hby hz;split at hs
   ·rename_i hcond;simp only[zc4,zc7] at hcond;obtain⟨⟨⟨hzl,hone⟩,hn0⟩,h0,hlc,hbytes,h63⟩:=hcond;have hzl:z.cells.length=n:=by simpa using hzl
    obtain⟨i,hi,rfl⟩:=km hn;obtain⟨i',hi',rfl⟩:=rL hby;rw[hi] at hi';cases hi';obtain⟨i',zv,hi',hzv,ho⟩:=eE hz;rw[hi] at hi';cases hi';obtain⟨c1,c2⟩:=(RelV.clo (eu ho):RelV I (fun _ _=>none) (fun _=>0) w z zv).cells2 (tj ho);have hzs:zv.cells.size=i.size:=by omega
    have hb':(i.bytes:Int)*c≤281474976710656:=by rw[Int.mul_comm];omega
    refine⟨_,_,run_make (P:=E.P) w t e i zv (cM he) hi hzv kl kc l c h0 hlc hb' h63,?_⟩;obtain⟨z1,z2⟩:=pv (R:=RelC I w) c1 (fun j x u hx hu=>(c2 j x u hx hu).toC) c.toNat;rw[hzs] at z1 z2;have key:∀(d:D) (σ':St),ce σ dst (.arr e i.size (dQ l.toNat z.cells) false) (fun s g=> .own s g l.toNat)=some (d,σ')→Step I0 B I a w d σ' (.slice (some ⟨w.heap.size,0,none⟩) l.toNat c.toNat) (w.alloc (.cells (madeCells zv.cells (c.toNat*i.size)) e)):=fun d σ' hs=> ?_
    ·split at hs
     ·exact key d σ' hs
     ·rename_i q hq;obtain⟨hn1,hz1⟩:=xg hq;subst hz1;unfold ce at hs;split at hs
      ·rename_i s;split at hs
       ·rename_i hlt;cases hs;obtain⟨I',A',p1,p2,p3,p4,p5⟩:=key (.own s (bl σ.H s) l.toNat) (σ.newOb s (.arr e i.size (dQ l.toNat (D.nils).cells) false)) (by simp[ce,hlt]);obtain⟨p1',pg⟩:=Inv.renst hn1 (er:=q.1) (nr:=q.2) p1 hlt;refine⟨I',A',p1',?_,p3,p4,p5⟩;rw[pg];exact p2
       ·cases hs
      ·cases hs
    refine ga h hs (g:=w.heap.size) (fun hk=>zc8 _ (hB _ hk)) (fun hi'=>by have:=h.iw _ hi';omega) (fun s' g' y hy=>by have:=h.A_lt hy;omega) (fun b hb=>eH w _ (h.iw b hb)) (fun s' g' y hy=>eH w _ (h.A_lt hy)) (fun y j b hb=>⟨by have:=(h.rw.sep y j b hb).1;omega,eH w _ (h.rw.sep y j b hb).1⟩) ((Blw.refl _ _).alloc hB _) (cE w _)
     (by rw[size_madeCells]) (by simp only[maxLen];omega) (by omega) (by rw[gk,hzl]) (fun j x u hx hu=> ?_)
    refine z2 j x u ?_ (by simpa [madeCells,hzs] using hu);have hj:j<l.toNat*z.cells.length:=by have:=(zc1.1 hx).1;rwa [gk] at this
    have hj2:j<c.toNat*z.cells.length:=zb2 hj (Nat.mul_le_mul_right _ (by omega));rw[lY _ _ _ hj] at hx;rw[lY _ _ _ hj2];exact hx
   ·cases hs
  ·cases hs
 ·cases hs
end
def Ap(w:World)(vx:Value)(m:Nat)(vnews:List Value):Prop:=
 (vx= .slice none 0 0∧m=0∧vnews=[])∨∃ad cap,vx= .slice (some ad) m cap∧∀(j:Nat) (u:Value),vnews[j]?=some u→w.cell? (ad.add j)=some u
theorem jJ{P:Program}(w:World)(base:Nat)(t ty e:TypeId)(i:TypeInfo)(z:Value)(ht:P.underlying t=some (.slice e))(hi:P.info? e=some i)(hz:i.zero=some z)
  (hzs:z.cells.size=i.size) (hsz:0<i.size) (v:Value) (k:Nat) (xs:List Value) (hown:w.ownsRow base e i.size v k xs) (vx:Value) (m:Nat) (vnews:List Value) (hn:Ap w vx m vnews)
  (hl:vnews.length=m*i.size) (h1:∀u∈vnews,u.oneCell'=true) (h63:k+m≤maxLen) (hbytes:(k+m)*i.bytes≤140737488355328) (hbase:base≤w.heap.size):
  ∃v' w',(Builtin.append_ #[t,t] ty #[v,vx]).run P w= .ok v' w'∧w'.ownsRow base e i.size v' (k+m) (xs++vnews)∧w.grownBy w' v.ownBlock∧(v'= .slice none 0 0↔v= .slice none 0 0∧m=0)∧
   (v'.ownBlock=v.ownBlock∨v'.ownBlock=some w.heap.size):=by
 rcases hn with⟨rfl,rfl,rfl⟩|⟨ad,cap,rfl,hc⟩
 ·refine⟨v,w,run_append_owned_none w base t ty e i i.size ht hi v k xs hown,by simpa using hown,⟨rfl,rfl,rfl,zb0 _,fun _ _ _=>rfl⟩,by simp,.inl rfl⟩
 ·exact run_append_own_at w base t ty e i z i.size i.bytes ht hi hz rfl rfl hzs hsz v k xs hown ad m cap vnews hl hc h1 h63 hbytes hbase
theorem nz{R:D→Value→Prop}{xs ys:List D}{us vs:List Value}(hl:xs.length=us.length)(h1:∀(j:Nat) (d:D) (v:Value),xs[j]?=some d→us[j]?=some v→R d v)
  (h2:∀(j:Nat) (d:D) (v:Value),ys[j]?=some d→vs[j]?=some v→R d v):∀(j:Nat) (d:D) (v:Value),(xs++ys)[j]?=some d→(us++vs)[j]?=some v→R d v:=by
 intro j d v hd hv;by_cases hj:j<xs.length
 ·rw[zb9 hj] at hd;rw[zb9 (by omega)] at hv;exact h1 j d v hd hv
 ·rw[zb8 (by omega)] at hd;rw[zb8 (by omega),←hl] at hv;exact h2 _ d v hd hv
section
variable {E:Env}{I0:Nat→Prop}{B:Nat→Prop}{I:Nat→Prop}{A:Nat→Nat→Option Gh}{σ:St}{a:Act}{w:World}
theorem jK{B:Nat→Prop}{w w':World}{row:Option Nat}(hg:w.grownBy w' row)(hB:∀k,B k→k<w.heap.size)(hr:∀k,row=some k→¬B k):Blw B w w':=
 ⟨hg.os,hg.tape,hg.output,hg.size,fun k hk=>hg.block k (hB k hk) (fun e=>hr k e.symm hk)⟩
theorem uR{w:World}{base:Nat}{e:TypeId}{size n:Nat}{v:Value}{xs:List Value}(h:w.ownsRow base e size v n xs)(hv:v≠ .slice none 0 0):
  ∃g cap cur,v= .slice (some ⟨g,0,none⟩) n cap∧base≤g∧w.heap[g]?=some (.cells cur e (0,0))∧n≤cap∧cap≤maxLen∧cur.size=cap*size∧cur.toList.take (n*size)=xs:=by
 rcases h.2 with⟨h1,_⟩|h1
 ·exact absurd h1 hv
 ·exact h1
theorem nV{P:Program}(w:World)(t ty e:TypeId)(i:TypeInfo)(ht:P.underlying t=some (.slice e))(hi:P.info? e=some i)(ad:Option Addr)(k cap:Nat)(hk:k≤cap)(vx:Value)(vnews:List Value)(hn:Ap w vx 0 vnews):
  (Builtin.append_ #[t,t] ty #[.slice ad k cap,vx]).run P w= .ok (.slice ad k cap) w:=by
 have hx:∃ad2 cap2,vx= .slice ad2 0 cap2:=by
  rcases hn with⟨rfl,_,_⟩|⟨ad2,cap2,rfl,_⟩
  ·exact⟨none,0,rfl⟩
  ·exact⟨some ad2,cap2,rfl⟩
 obtain⟨ad2,cap2,rfl⟩:=hx;cases ad<;>cases ad2<;>simp[Builtin.append_,run_underlying ht,sizeOf,typeInfo,hi,hk,Builtin.lenOf,Builtin.firstCells,storeCells,loadCells,loadCellsFrom]
theorem js(h:Inv I0 B I A σ a w)(hB:∀k,B k→k<w.heap.size){dst:Option Tmp}{t e:TypeId}{i:TypeInfo}{z:Value}{m:Nat}{news:List D}{ss:List Nat}{d:D}{σ':St}
  (ht:E.P.underlying t=some (.slice e)) (hi:E.P.info? e=some i) (hz:i.zero=some z) (hzs:z.cells.size=i.size) (hsz:0<i.size) (hnl:news.length=m*i.size)
  (hs:cK σ dst e i.size i.bytes m news ss .nils=some (d,σ')) (hss:Sites σ.H ss) {vs vx:Value} (hvs:RelV I A (bl σ.H) w .nils vs) {vnews:List Value} (hn:Ap w vx m vnews) (hvl:vnews.length=news.length)
  (hvr:∀(j:Nat) (x:D) (u:Value),news[j]?=some x→vnews[j]?=some u→RelC (du I A ss) w x u) (h1:∀u∈vnews,u.oneCell'=true) (ty:TypeId):
  ∃u w',(Builtin.append_ #[t,t] ty #[vs,vx]).run E.P w= .ok u w'∧Step I0 B I a w d σ' u w':=by
 obtain⟨hfz,hRf⟩:=h.freeze ss hss.free;simp only[cK] at hs
 ·
  rw[hvs.nils_inv];split at hs
  ·rename_i hm;subst hm;simp only[za0,zb3] at hs;obtain⟨rfl,rfl⟩:=hs;obtain⟨v',w',hrun,hown,hgr,hnil,_⟩:=jJ (P:=E.P) w 0 t ty e i z ht hi hz hzs hsz (.slice none 0 0) 0 [] (World.ownsRow_nil w 0 e i.size) vx 0 vnews hn (by omega) h1 (by simp[maxLen]) (by omega) (Nat.zero_le _);have hv':v'= .slice none 0 0:=hnil.2 ⟨rfl,rfl⟩;subst hv';refine⟨_,_,hrun,?_⟩;have hw:∀b,b<w.heap.size→w'.heap[b]?=w.heap[b]?:=fun b hb=>hgr.block b hb (by simp[Value.ownBlock]);obtain⟨hi',hR'⟩:=hfz.world (w':=w') (I':=du I A ss) hgr.size hw (fun _ hb=>hb) (fun _ hb=> .inl hb) hB;exact⟨_,A,hi',.clo .nils,fun b hb=> .inl hb,fun b hb=>hw b (h.iw b hb),jK hgr hB (fun k hk=>by simp[Value.ownBlock] at hk)⟩
  ·rename_i hm;split at hs
   ·rename_i hc;obtain⟨v',w',hrun,hown,hgr,hnil,hob⟩:=jJ (P:=E.P) w 0 t ty e i z ht hi hz hzs hsz (.slice none 0 0) 0 [] (World.ownsRow_nil w 0 e i.size) vx m vnews hn (by omega) h1 (by simp only[maxLen];omega) (by rw[Nat.zero_add];exact hc.1) (Nat.zero_le _);obtain⟨g,cap,cur,rfl,q1,q2,q3,q4,q5,q6⟩:=uR hown (fun e=>hm (hnil.1 e).2);have hg:g=w.heap.size:=by
     rcases hob with h2|h2<;>simp[Value.ownBlock] at h2;exact h2
    subst hg;refine⟨_,_,hrun,?_⟩;have hw:∀b,b<w.heap.size→w'.heap[b]?=w.heap[b]?:=fun b hb=>hgr.block b hb (by simp[Value.ownBlock]);rw[Nat.zero_add];rw[Nat.zero_add] at q3 q6;refine(ga hfz hs (fun hk=>zc8 _ (hB _ hk)) (fun hi'=>by have:=hfz.iw _ hi';omega) (fun s' g' y hy=>by have:=hfz.A_lt hy;omega) (fun b hb=>hw b (hfz.iw b hb)) (fun s' g' y hy=>hw _ (hfz.A_lt hy)) (fun y j b hb=>⟨by have:=(hfz.rw.sep y j b hb).1;omega,hw b (hfz.rw.sep y j b hb).1⟩) (jK hgr hB (fun k hk=>by simp[Value.ownBlock] at hk)) q2 q5 q4 q3 hnl (fun j x u hx hu=> ?_)).weaken (fun _ hb=> .inl hb);have hj:j<m*i.size:=by have:=(zc1.1 hx).1;omega
    refine hvr j x u hx ?_;have:(cur.toList.take (m*i.size))[j]?=some u:=by rw[List.getElem?_take,if_pos hj];simpa using hu
    rw[q6] at this;simpa using this
   ·cases hs
theorem uS(h:Inv I0 B I A σ a w)(hB:∀k,B k→k<w.heap.size){dst:Option Tmp}{t e:TypeId}{i:TypeInfo}{z:Value}{m:Nat}{news:List D}{ss:List Nat}{s d:D}{σ':St}
  (ht:E.P.underlying t=some (.slice e)) (hi:E.P.info? e=some i) (hz:i.zero=some z) (hzs:z.cells.size=i.size) (hsz:0<i.size) (hnl:news.length=m*i.size)
  (hs:cK σ dst e i.size i.bytes m news ss s=some (d,σ')) (hss:Sites σ.H ss) {vs vx:Value} (hvs:RelV I A (bl σ.H) w s vs) {vnews:List Value} (hn:Ap w vx m vnews) (hvl:vnews.length=news.length)
  (hvr:∀(j:Nat) (x:D) (u:Value),news[j]?=some x→vnews[j]?=some u→RelC (du I A ss) w x u) (h1:∀u∈vnews,u.oneCell'=true) (ty:TypeId):
  ∃u w',(Builtin.append_ #[t,t] ty #[vs,vx]).run E.P w= .ok u w'∧Step I0 B I a w d σ' u w':=by
 obtain⟨hfz,hRf⟩:=h.freeze ss hss.free;by_cases hnl0:s= .nils
 ·subst hnl0;exact js h hB ht hi hz hzs hsz hnl hs hss hvs hn hvl hvr h1 ty
 unfold cK at hs;split at hs
 ·exact absurd rfl hnl0
 ·
  rename_i f k olds;split at hs
  ·rename_i hm;subst hm;simp only[za0,zb3] at hs;obtain⟨rfl,rfl⟩:=hs;have hcl:RelC I w (.slc f k olds) vs:=hvs.clo_of (.inr (.inl ⟨_,_,_,rfl⟩));have hsh:∃ad0 k0 cap0,vs= .slice ad0 k0 cap0∧k0≤cap0:=by
    rcases hcl.slc_inv with⟨rfl,rfl,rfl⟩|⟨ad0,cap0,us0,rfl,p1,p2,p3,p4,p5⟩
    ·exact⟨none,0,0,rfl,zb0 _⟩
    ·exact⟨_,_,_,rfl,p3⟩
   obtain⟨ad0,k0,cap0,rfl,hk⟩:=hsh;refine⟨_,_,nV w t ty e i ht hi ad0 k0 cap0 hk vx vnews hn,?_⟩;exact(Step.pure hfz (.clo (hcl.mono (fun _ hb=> .inl hb) (fun _ _=>rfl)))).weaken (fun _ hb=> .inl hb)
  split at hs
  ·rename_i hc;obtain⟨hf,hm,hol,hby,h62⟩:=hc;subst hf;have hcl:RelC I w (.slc true k olds) vs:=hvs.clo_of (.inr (.inl ⟨_,_,_,rfl⟩));rcases hcl.slc_inv with⟨rfl,rfl,rfl⟩|⟨ad0,cap0,us0,rfl,p1,p2,p3,p4,p5⟩
   ·have hm0:m≠0:=by omega
    refine js (dst:=dst) h hB ht hi hz hzs hsz hnl (d:=d) (σ':=σ') ?_ hss (.clo .nils) hn hvl hvr h1 ty;rw[zb7,Nat.zero_add] at hs;rw[Nat.zero_add] at hby h62;simp only[cK,if_neg hm0];rw[if_pos ⟨hby,by omega⟩];exact hs
   have hcap:=p2 rfl;subst hcap;rcases hn with⟨_,h0,_⟩|⟨ad,cap,rfl,hcn⟩
   ·omega
   ·have hbb:=growslice_fits (old:=cap0) (need:=cap0+m) (by omega) hby;have hrun:=run_append_grow (P:=E.P) w t ty e i z ht hi hz ad0 cap0 cap0 ((List.range olds.length).map us0) (by simp[hol]) (fun j v hj=>by
      have hlt:j<olds.length:=by have:=(zc1.1 hj).1;simpa using this
      simp[hlt] at hj;subst hj;exact p4 j _ (zd2 hlt)) ad m cap vnews (by omega) hcn (by omega) (by omega) hbb
    refine⟨_,_,hrun,?_⟩;have hge:=grownCap_ge w (cap0+m) cap0 e;have hle:=grownCap_le_maxLen w (cap0+m) cap0 e (by simp only[maxLen];omega);have hw:∀b,b<w.heap.size→(w.drew.alloc (.cells (((List.range olds.length).map us0).toArray++vnews.toArray++Builtin.zeroCells z.cells (grownCap w (cap0+m) cap0 e-(cap0+m))) e)).heap[b]?=w.heap[b]?:=fun b hb=>eH w.drew _ hb;refine(ga hfz hs (g:=w.heap.size) (cap:=grownCap w (cap0+m) cap0 e) (fun hk=>zc8 _ (hB _ hk)) (fun hi'=>by have:=hfz.iw _ hi';omega) (fun s' g' y hy=>by have:=hfz.A_lt hy;omega) (fun b hb=>hw b (hfz.iw b hb)) (fun s' g' y hy=>hw _ (hfz.A_lt hy)) (fun y j b hb=>⟨by have:=(hfz.rw.sep y j b hb).1;omega,hw b (hfz.rw.sep y j b hb).1⟩) ((Blw.refl B w).drew.alloc hB _) (cE w.drew _) ?_ hle hge (by rw[za6,hol,hnl,Nat.add_mul]) (fun j x u hx hu=> ?_)).weaken (fun _ hb=> .inl hb)
    ·simp only[Array.size_append,List.size_toArray,zc2,List.length_range,size_zeroCells,hzs,hol,hvl,hnl,←Nat.add_mul]
     congr 1
     omega
    ·refine nz (R:=RelC (du I A ss) w) (us:=(List.range olds.length).map us0) (vs:=vnews) (by simp) (fun j x u hx hu=> ?_) (fun j x u hx hu=>hvr j x u hx hu) j x u hx ?_
     ·have hlt:j<olds.length:=(zc1.1 hx).1;simp[hlt] at hu;subst hu;exact(p5 j x hx).mono (fun _ hb=> .inl hb) (fun _ _=>rfl)
     ·have hj:j<olds.length+news.length:=by have:=(zc1.1 hx).1;simpa using this
      have e1:(((List.range olds.length).map us0).toArray++vnews.toArray).size=olds.length+vnews.length:=by simp
      rw[Array.getElem?_append_left (by omega)] at hu;simpa using hu
  ·cases hs
 ·
  rename_i s0 g0 k;split at hs
  ·cases hs
  ·rename_i hns;have hns:s0∉ss:=by simpa using hns
   split at hs
   ·rename_i e' n' olds hl;split at hs
    ·rename_i hc;obtain⟨rfl,rfl,hby,h63⟩:=hc;obtain⟨y,hy,hyB,c,hb,hcs,hm,hlc,hcl,hrel,hfr,hclo⟩:=h.ob s0 g0 _ hl;have hle:y.len*i.size≤y.cap*i.size:=Nat.mul_le_mul_right _ hlc;have hnI:¬I y.b:=fun hi=>by have:=hfr.2 hi;cases this
     obtain⟨hv1,hk⟩:=hvs.own_inv hy;subst hk;rw[hv1];have hown0:w.ownsRow 0 e' i.size (.slice (some ⟨y.b,0,none⟩) y.len y.cap) y.len (c.toList.take (y.len*i.size)):=
      ⟨by simp;omega,.inr ⟨y.b,y.cap,c,rfl,Nat.zero_le _,hb,hlc,hm,hcs,rfl⟩⟩
     obtain⟨v',w',hrun,hown,hgr,hnil,hob⟩:=jJ (P:=E.P) w 0 t ty e' i z ht hi hz hzs hsz _ y.len _ hown0 vx m vnews hn (by omega) h1 (by simp only[maxLen];omega) hby (Nat.zero_le _);obtain⟨g,cap,cur,rfl,q1,q2,q3,q4,q5,q6⟩:=uR hown (fun e=>by have:=(hnil.1 e).1;cases this);refine⟨_,_,hrun,?_⟩;have hlf:s0<(σ.freeze ss).H.length:=by
      have:=dr ss σ.H;simp only[St.freeze];rw[this];exact dq hl
     obtain⟨A1,hk1,hk2,hk3,hk4⟩:=hfz.kill s0 hlf;have hnI':¬du I A ss y.b:=by
      rintro (hi'|⟨s',hs',g',y',hy',hb'⟩)
      ·exact hnI hi'
      ·exact hns ((h.inj _ _ _ _ _ _ hy hy' hb').1▸hs')
     have hA1:∀s' g' y',A1 s' g'=some y'→y'.b≠y.b:=fun s' g' y' hy' e=>by
      by_cases es:s'=s0
      ·subst es;rw[hk3] at hy';cases hy'
      ·rw[hk2 _ _ es] at hy';exact es (h.inj _ _ _ _ _ _ hy' hy e).1
     have hgc:g=y.b∨g=w.heap.size:=by
      rcases hob with h2|h2<;>simp[Value.ownBlock] at h2
      ·exact .inl h2
      ·exact .inr h2
     have hw:∀b,b<w.heap.size→b≠y.b→w'.heap[b]?=w.heap[b]?:=fun b hb' hne=>hgr.block b hb' (by simp only[Value.ownBlock];intro e;cases e;exact hne rfl);have hgf:bl (σ.freeze ss).H=bl σ.H:=funext (genH_freeze ss σ.H);have hby0:y.b<w.heap.size:=(zc0.1 hb).1;have hyB':=hyB.resolve_left hnI;refine(ga hk1 hs (g:=g) (fun hk=>by rcases hgc with rfl|rfl;exact hyB' hk;exact zc8 _ (hB _ hk)) (fun hi'=> ?_) (fun s' g' y' hy'=> ?_) (fun b hb'=>hw b (hk1.iw b hb') (fun e=>hnI' (e▸hb'))) (fun s' g' y' hy'=>hw _ (hk1.A_lt hy') (hA1 _ _ _ hy')) (fun y' j b' hb'=> ?_) (jK hgr hB (fun k hk=>by simp[Value.ownBlock] at hk;subst hk;exact hyB')) q2 q5 q4 q3 ?_ (fun j x u hx hu=> ?_)).weaken (fun _ hb=> .inl hb)
     ·rcases hgc with rfl|rfl
      ·exact hnI' hi'
      ·have:=hk1.iw _ hi';omega
     ·rcases hgc with rfl|rfl
      ·exact hA1 _ _ _ hy'
      ·have:=hk1.A_lt hy';omega
     ·obtain⟨p1,_,_,p4⟩:=hfz.rw.sep _ _ _ (hb'.unkill hk2 hk3);have hne:=p4 _ _ _ hy;exact⟨by rcases hgc with rfl|rfl;exact hne;omega,hw b' p1 (Ne.symm hne)⟩
     ·rw[za6,hcl,hnl,Nat.add_mul]
     ·refine nz (R:=RelC (du I A ss) w) (us:=c.toList.take (y.len*i.size)) (vs:=vnews) (by simp;omega) (fun j x u hx hu=> ?_) (fun j x u hx hu=>hvr j x u hx hu) j x u hx ?_
      ·rw[List.getElem?_take] at hu;split at hu
       ·exact(hRf _ _ (hrel j x u hx (by simpa using hu))).closed (hclo x (List.mem_of_getElem? hx))
       ·cases hu
      ·have hj:j<(y.len+m)*i.size:=by
        have:=(zc1.1 hx).1;rw[za6,hcl,hnl,←Nat.add_mul] at this;exact this
       rw[←q6,List.getElem?_take,if_pos hj];simpa using hu
    ·cases hs
   ·cases hs
 ·cases hs
end
theorem bz{α β:Type}{P:Program}(s:Sem α)(f:α→Sem β):cb P (s>>=f)=(cb P s).bind fun a=>cb P (f a):=by
 induction s with
 |pure b=>rfl
 |program k ih=>exact ih _
 |mark m k ih=>exact ih
 |_=>rfl
theorem cN{α:Type}{P:Program}(a:α):cb P (pure a:Sem α)=some a:=rfl
theorem bI{P:Program}{t:TypeId}{d:TypeDesc}(h:P.underlying t=some d):cb P (underlying t)=some d:=by
 unfold underlying;simp only[program,bz];show cb P _=_;simp[h];rfl
theorem jL{α:Type}{P:Program}{p:Prop}[Decidable p](a b:Sem α):cb P (if p then a else b)=if p then cb P a else cb P b:=by split<;>rfl
theorem iI{P:Program}:cb P program=some P:=rfl
theorem xm{P:Program}{t:TypeId}{d:TypeDesc}(h:P.underlying t=some d)(h1:∀fs,d≠ .struct fs)(h2:∀n e,d≠ .array n e):cb P (isAgg t)=some false:=by
 unfold isAgg;simp only[bz,bI h,Option.bind_some];cases d<;>first|rfl|exact absurd rfl (h1 _)|exact absurd rfl (h2 _ _)
theorem mT{P:Program}{t:TypeId}{d:TypeDesc}(h:P.underlying t=some d)(h1:∀fs,d≠ .struct fs)(h2:∀n e,d≠ .array n e){cs:Array Value}{i:Nat}{v:Value}(hv:cs[i]?=some v):cb P (part t cs i)=some v:=by
 unfold part;simp only[bz,xm h h1 h2,Option.bind_some,hv];rfl
theorem iJ{P:Program}(d:Nat)(t:TypeId)(xs ys:Array Value)(ht:P.underlying t=some (.struct (P.fieldsOf t)))(hp:P.stoodInHeld t=false):
  cb P (Op.equalIn (d+1) t (.agg xs) (.agg ys))=cb P (Op.eqFields d xs ys (P.fieldsOf t).toList):=by
 simp only[Op.equalIn,bz,bI ht,iI,Option.bind_some,hp,Bool.false_eq_true,if_false];rw[←Array.forIn_toList];generalize (P.fieldsOf t).toList=fs;clear ht
 induction fs with
 |nil=>simp[Op.eqFields];rfl
 |cons f fs ih=>
  simp only[List.forIn_cons,Op.eqFields,bz,jL];split
  ·cases cb P (part f.type xs f.offset) with
   |none=>rfl
   |some a=>
    cases cb P (part f.type ys f.offset) with
    |none=>rfl
    |some b=>
     simp only[Option.bind_some];cases cb P (Op.equalIn d f.type a b) with
     |none=>rfl
     |some r=>
      cases r
      ·rfl
      ·exact ih
  ·exact ih
section
variable {P:Program}
theorem rP{i:Nat}{cs:List D}(h:gy P i [] cs=true):cs=[]:=by
 cases cs with
 |nil=>rfl
 |cons c cs=>simp[gy] at h
def Sca(P:Program)(t:TypeId)(c:D)(v:Value):Prop:=∃kd,P.underlying t=some kd∧c.flat?=some v∧((∃k a,c= .int k a∧v= .int k a∧kd= .int k)∨(∃s,c= .str s∧v= .string s∧kd= .string)∨∃b,c= .bool b∧v= .bool b∧kd= .bool)
theorem BM{t:TypeId}{c:D}(h:HP P t c=true):∃v,Sca P t c v:=by
 unfold HP at h;split at h
 ·split at h
  ·rename_i k _ _ k' hu;rw[show k'=k by simpa using h] at hu;exact⟨_,_,hu,rfl,.inl ⟨_,_,rfl,rfl,rfl⟩⟩
  ·cases h
 ·split at h
  ·rename_i hu;exact⟨_,_,hu,rfl,.inr (.inl ⟨_,rfl,rfl,rfl⟩)⟩
  ·cases h
 ·split at h
  ·rename_i hu;exact⟨_,_,hu,rfl,.inr (.inr ⟨_,rfl,rfl,rfl⟩)⟩
  ·cases h
 ·cases h
theorem Sca.part{t:TypeId}{c:D}{v:Value}(h:Sca P t c v){cs:Array Value}{i:Nat}(hv:cs[i]?=some v):cb P (part t cs i)=some v:=by
 obtain⟨kd,hu,_,⟨_,_,_,_,rfl⟩|⟨_,_,_,rfl⟩|⟨_,_,_,rfl⟩⟩:=h
 all_goals exact mT hu (fun _ e=>by cases e) (fun _ _ e=>by cases e) hv
theorem Sca.atom{t:TypeId}{c:D}{v:Value}(h:Sca P t c v):(∃k a,c= .int k a∧v= .int k a)∨(∃s,c= .str s∧v= .string s)∨∃b,c= .bool b∧v= .bool b:=by
 obtain⟨kd,_,_,⟨_,_,h1,h2,_⟩|⟨_,h1,h2,_⟩|⟨_,h1,h2,_⟩⟩:=h
 ·exact .inl ⟨_,_,h1,h2⟩
 ·exact .inr (.inl ⟨_,h1,h2⟩)
 ·exact .inr (.inr ⟨_,h1,h2⟩)
theorem lm{f:Field}{fs:List Field}{i:Nat}{cs:List D}(h:gy P i (f::fs) cs=true):
  ∃c v cs',cs=c::cs'∧f.offset=i∧f.name≠ "_"∧Sca P f.type c v∧gy P (i+1) fs cs'=true:=by
 cases cs with
 |nil=>simp[gy] at h
 |cons c cs=>
  simp only[gy,zc4,ze4,ze5,ne_eq] at h;obtain⟨v,hv⟩:=BM h.2.1;exact⟨c,v,cs,rfl,h.1.1,h.1.2,hv,h.2.2⟩
theorem fe:∀{fs:List Field} {i:Nat} {cs:List D},gy P i fs cs=true→∃vs,cZ D.flat? cs=some vs∧(∀v∈vs,(∃k a,v= .int k a)∨(∃s,v= .string s)∨∃b,v= .bool b)∧∀c∈cs,(∃k a,c= .int k a)∨(∃s,c= .str s)∨∃b,c= .bool b
 |[],_,cs,h=>by
  rw[rP h];refine⟨[],rfl,?_,?_⟩
  ·intro v hv;cases hv
  ·intro c hc;cases hc
 |f::fs,i,cs,h=>by
  obtain⟨c,v,cs',rfl,_,_,h4,h5⟩:=lm h;obtain⟨vs,h1,h2,h3⟩:=fe h5;have hc:=h4.atom;obtain⟨_,_,hf,_⟩:=h4;refine⟨v::vs,by simp[cZ,hf,h1],fun u hu=> ?_,fun u hu=> ?_⟩
  ·rcases List.mem_cons.1 hu with rfl|hu
   ·rcases hc with⟨k,a,_,e⟩|⟨s,_,e⟩|⟨b,_,e⟩
    ·exact .inl ⟨k,a,e⟩
    ·exact .inr (.inl ⟨s,e⟩)
    ·exact .inr (.inr ⟨b,e⟩)
   ·exact h2 u hu
  ·rcases List.mem_cons.1 hu with rfl|hu
   ·rcases hc with⟨k,a,e,_⟩|⟨s,e,_⟩|⟨b,e,_⟩
    ·exact .inl ⟨k,a,e⟩
    ·exact .inr (.inl ⟨s,e⟩)
    ·exact .inr (.inr ⟨b,e⟩)
   ·exact h3 u hu
theorem tt{ys:List D}{q:Bool}(h:uI [] ys=some q):ys=[]∧q=true:=by
 cases ys with
 |nil=>simp only[uI,za0] at h;exact⟨rfl,h.symm⟩
 |cons=>simp[uI] at h
theorem px{x:D}{xs ys:List D}{q:Bool}(h:uI (x::xs) ys=some q):∃y ys' b q',ys=y::ys'∧GV x y=some b∧uI xs ys'=some q'∧q=(b&&q'):=by
 cases ys with
 |nil=>simp[uI] at h
 |cons y ys=>
  simp only[uI] at h;split at h
  ·rename_i b hb;split at h
   ·rename_i q' hq;cases h;exact⟨y,ys,b,q',rfl,hb,hq,rfl⟩
   ·cases h
  ·cases h
theorem oo{x y:D}{b:Bool}(h:GV x y=some b):(∃k a c,x= .int k a∧y= .int k c∧b=(a==c))∨(∃s t,x= .str s∧y= .str t∧b=(s==t))∨∃p q,x= .bool p∧y= .bool q∧b=(p==q):=by
 unfold GV at h;split at h
 ·split at h
  ·rename_i e;cases h;exact .inl ⟨_,_,_,rfl,by rw[e],rfl⟩
  ·cases h
 ·cases h;exact .inr (.inl ⟨_,_,rfl,rfl,rfl⟩)
 ·cases h;exact .inr (.inr ⟨_,_,rfl,rfl,rfl⟩)
 ·cases h
theorem BN{x y:D}(h:GV x y=some true):y=x:=by
 rcases oo h with⟨k,a,c,rfl,rfl,e⟩|⟨s,t,rfl,rfl,e⟩|⟨p,q,rfl,rfl,e⟩
 ·rw[eq_of_beq e.symm]
 ·rw[(MapKept.bytes_beq _ _).1 e.symm]
 ·rw[eq_of_beq e.symm]
theorem uT:∀{xs ys:List D},uI xs ys=some true→ys=xs
 |[],ys,h=>(tt h).1
 |x::xs,ys,h=>by
  obtain⟨y,ys',b,q',rfl,h1,h2,h3⟩:=px h;have h3:=h3.symm;simp only[zc4] at h3;obtain⟨rfl,rfl⟩:=h3;rw[uT h2,BN h1]
theorem uU(d:Nat){vx vy:Array Value}:∀(fs:List Field) (i:Nat) (xs ys:List D) (q:Bool),gy P i fs xs=true→uI xs ys=some q→
  (∀(j:Nat) (e:D),xs[j]?=some e→∃v,vx[i+j]?=some v∧e.flat?=some v)→(∀(j:Nat) (e:D),ys[j]?=some e→∃v,vy[i+j]?=some v∧e.flat?=some v)→
  cb P (Op.eqFields (d+1) vx vy fs)=some q
 |[],i,xs,ys,q,h,hq,_,_=>by
  rw[rP h] at hq;rw[(tt hq).2];rfl
 |f::fs,i,xs,ys,q,h,hq,hx,hy=>by
  obtain⟨c,v0,xs',rfl,rfl,hn,hs,h5⟩:=lm h;obtain⟨y,ys',b,q',rfl,hb,h1,rfl⟩:=px hq;obtain⟨v,hv1,hv2⟩:=hx 0 _ rfl;obtain⟨u,hu1,hu2⟩:=hy 0 _ rfl;rw[Nat.add_zero] at hv1 hu1;have ih:=uU d fs (f.offset+1) xs' ys' q' h5 h1 (fun j e hj=>by
   have:=hx (j+1) e (by simpa using hj)
   rwa [show f.offset+(j+1)=f.offset+1+j by omega] at this) (fun j e hj=>by
   have:=hy (j+1) e (by simpa using hj)
   rwa [show f.offset+(j+1)=f.offset+1+j by omega] at this)
  have hsu:Sca P f.type y u:=by
   obtain⟨kd,hu,_,hc⟩:=hs;refine⟨kd,hu,hu2,?_⟩;rcases oo hb with⟨k,a,e,rfl,rfl,_⟩|⟨s,t,rfl,rfl,_⟩|⟨p,r,rfl,rfl,_⟩
   ·rcases hc with⟨_,_,h1,_,rfl⟩|⟨_,h1,_⟩|⟨_,h1,_⟩<;>cases h1;exact .inl ⟨_,_,rfl,(by simpa [D.flat?] using hu2.symm),rfl⟩
   ·rcases hc with⟨_,_,h1,_⟩|⟨_,h1,_,rfl⟩|⟨_,h1,_⟩<;>cases h1;exact .inr (.inl ⟨_,rfl,(by simpa [D.flat?] using hu2.symm),rfl⟩)
   ·rcases hc with⟨_,_,h1,_⟩|⟨_,h1,_⟩|⟨_,h1,_,rfl⟩<;>cases h1;exact .inr (.inr ⟨_,rfl,(by simpa [D.flat?] using hu2.symm),rfl⟩)
  have hsv:v0=v:=by
   obtain⟨_,_,hf,_⟩:=hs;rw[hf] at hv2;exact Option.some.inj hv2
  subst hsv;have he:cb P (Op.equalIn (d+1) f.type v0 u)=some b:=by
   obtain⟨kd,hu,_,hc⟩:=hs;rcases oo hb with⟨k,a,e,rfl,rfl,rfl⟩|⟨s,t,rfl,rfl,rfl⟩|⟨p,r,rfl,rfl,rfl⟩
   ·rcases hc with⟨_,_,h1,rfl,rfl⟩|⟨_,h1,_⟩|⟨_,h1,_⟩<;>cases h1;simp only[D.flat?,za0] at hu2;subst hu2;simp[Op.equalIn,bz,bI hu];rfl
   ·rcases hc with⟨_,_,h1,_⟩|⟨_,h1,rfl,rfl⟩|⟨_,h1,_⟩<;>cases h1;simp only[D.flat?,za0] at hu2;subst hu2;simp[Op.equalIn,bz,bI hu];rfl
   ·rcases hc with⟨_,_,h1,_⟩|⟨_,h1,_⟩|⟨_,h1,rfl,rfl⟩<;>cases h1;simp only[D.flat?,za0] at hu2;subst hu2;simp[Op.equalIn,bz,bI hu];rfl
  simp only[Op.eqFields,if_pos hn,bz,hs.part hv1,hsu.part hu1,Option.bind_some,he,jL,ih];cases b
  ·rfl
  ·simp
theorem iK{α β:Type}{f:α→Option β}:∀{l:List α} {r:List β},cZ f l=some r→∀(j:Nat) (e:α),l[j]?=some e→∃v,r.toArray[0+j]?=some v∧f e=some v
 |[],r,h,j,e,he=>by simp at he
 |x::xs,r,h,j,e,he=>by
  simp only[cZ] at h;split at h
  ·cases h
  ·rename_i y hy;split at h
   ·cases h
   ·rename_i ys hys;cases h;cases j with
    |zero=>simp at he;subst he;exact⟨y,by simp,hy⟩
    |succ j=>
     obtain⟨v,h1,h2⟩:=iK hys j e (by simpa using he);exact⟨v,by simpa using h1,h2⟩
theorem Aq{t:TypeId}{fs:Array Field}{xs ys:List D}{vx vy:List Value}{q:Bool}(hu:P.underlying t=some (.struct fs))(hs:P.stoodInHeld t=false)(hk:gy P 0 fs.toList xs=true)(hq:uI xs ys=some q)
  (h1:cZ D.flat? xs=some vx) (h2:cZ D.flat? ys=some vy):cb P (Op.equal t (.agg vx.toArray) (.agg vy.toArray))=some q:=by
 have hfo:P.fieldsOf t=fs:=by unfold Program.fieldsOf;rw[hu]
 show cb P (Op.equalIn (9999+1) t _ _)=_;rw[iJ 9999 t _ _ (by rw[hfo];exact hu) hs,hfo];exact uU 9998 fs.toList 0 xs ys q hk hq (iK h1) (iK h2)
theorem uV:∀{xs ys:List D} {q:Bool},uI xs ys=some q→∃vy,cZ D.flat? ys=some vy
 |[],ys,q,h=>by rw[(tt h).1];exact⟨[],rfl⟩
 |x::xs,ys,q,h=>by
  obtain⟨y,ys',b,q',rfl,h1,h2,_⟩:=px h;obtain⟨vy,h3⟩:=uV h2;rcases oo h1 with⟨k,a,e,_,rfl,_⟩|⟨s,t,_,rfl,_⟩|⟨p,r,_,rfl,_⟩
  ·exact⟨.int k e::vy,by simp[cZ,D.flat?,h3]⟩
  ·exact⟨.string t::vy,by simp[cZ,D.flat?,h3]⟩
  ·exact⟨.bool r::vy,by simp[cZ,D.flat?,h3]⟩
theorem ra{b:Bool}{n:Nat}{t:TypeId}{fs:Array Field}{cs:List D}{vs:List Value}(hu:P.underlying t=some (.struct fs))(hk:gy P 0 fs.toList cs=true)(h1:cZ D.flat? cs=some vs):
  cb P (Instr.checkKey b (n+2) t (.agg vs.toArray))=some ():=by
 rw[Instr.checkKey];simp only[bz,bI hu,Option.bind_some];rw[←Array.forIn_toList];have hc:=iK h1;generalize fs.toList=l at hk;have key:∀(l:List Field) (i:Nat) (cs:List D),gy P i l cs=true→(∀(j:Nat) (e:D),cs[j]?=some e→∃v,vs.toArray[i+j]?=some v∧e.flat?=some v)→
   cb P (forIn l PUnit.unit fun(f:Field) (_:PUnit)=>(do
    if f.name≠ "_" then
     Instr.checkKey b (n+1) f.type (←part f.type vs.toArray f.offset)
     pure (ForInStep.yield PUnit.unit)
    else pure (ForInStep.yield PUnit.unit):Sem (ForInStep PUnit)))=some PUnit.unit:=by
  intro l
  induction l with
  |nil=>intro i cs _ _;rfl
  |cons f l ih=>
   intro i cs hk hc;obtain⟨c,v0,cs',rfl,rfl,hn,hs,h5⟩:=lm hk;obtain⟨v,hv1,hv2⟩:=hc 0 _ rfl;rw[Nat.add_zero] at hv1;have hsv:v0=v:=by
    obtain⟨_,_,hf,_⟩:=hs;rw[hf] at hv2;exact Option.some.inj hv2
   subst hsv;have ih:=ih (f.offset+1) cs' h5 (fun j e hj=>by
    have:=hc (j+1) e (by simpa using hj)
    rwa [show f.offset+(j+1)=f.offset+1+j by omega] at this)
   have he:cb P (Instr.checkKey b (n+1) f.type v0)=some ():=by
    obtain⟨kd,hu,_,⟨_,_,_,rfl,rfl⟩|⟨_,_,rfl,rfl⟩|⟨_,_,rfl,rfl⟩⟩:=hs<;>(simp[Instr.checkKey,bz,bI hu];rfl)
   simp only[List.forIn_cons,bz,if_pos hn,hs.part hv1,Option.bind_some,he,cN];exact ih
 have:=key l 0 cs hk hc;rw[this];rfl
theorem dC{t:TypeId}{cs:List D}(h:cD P t (.agg cs)=true):∃fs,P.underlying t=some (.struct fs)∧P.stoodInHeld t=false∧gy P 0 fs.toList cs=true:=by
 unfold cD at h;split at h
 ·rename_i h2;cases h2
 ·rename_i h2;cases h2
 ·rename_i h2;cases h2
 ·rename_i fs cs' hu h2;cases h2;simp only[zc4,ze4] at h;exact⟨fs,hu,h.1,h.2⟩
 ·cases h
end
theorem xn{k d:D}(h:jr k d=some true):d=k:=by
 unfold jr at h;split at h
 ·split at h
  ·rename_i e;simp only[za0] at h;rw[e,eq_of_beq h]
  ·cases h
 ·simp only[za0] at h;rw[(MapKept.bytes_beq _ _).1 h]
 ·simp only[za0] at h;rw[eq_of_beq h]
 ·rw[uT h]
 ·cases h
theorem uW{P:Program}{t:TypeId}{k:D}(h:cD P t k=true):∃u,k.toV1=some u:=by
 have h0:=h;unfold cD at h;split at h
 ·exact⟨_,rfl⟩
 ·exact⟨_,rfl⟩
 ·exact⟨_,rfl⟩
 ·obtain⟨fs,_,_,h3⟩:=dC h0;obtain⟨vs,h1,_⟩:=fe h3;exact⟨.agg vs.toArray,by simp[D.toV1,h1]⟩
 ·cases h
section
variable {E:Env}{I0:Nat→Prop}{B:Nat→Prop}{I:Nat→Prop}{A:Nat→Nat→Option Gh}{σ:St}{a:Act}{w:World}{G:Nat→Nat}
theorem RelC.one{d:D}{v:Value}(h:RelC I w d v)(hd:d.one=true):v.oneCell'=true:=(RelV.clo h:RelV I (fun _ _=>none) (fun _=>0) w d v).one hd
theorem rQ(h:Inv I0 B I A σ a w){x x':D}{ss:List Nat}(hsn:bJ σ.H depth x=some (x',ss)){m:Nat}{news:List D}(hnews:mO x'=some (m,news))(hone:news.all D.one=true){vx:Value}(hvx:RelV I A (bl σ.H) w x vx):
  ∃vnews,Ap w vx m vnews∧vnews.length=news.length∧(∀(j:Nat) (x:D) (u:Value),news[j]?=some x→vnews[j]?=some u→RelC (du I A ss) w x u)∧∀u∈vnews,u.oneCell'=true:=by
 obtain⟨b1,b2⟩:=cr h depth _ _ _ hsn;have hx':=b2 vx hvx;unfold mO at hnews;split at hnews
 ·simp only[za0,zb3] at hnews;obtain⟨rfl,rfl⟩:=hnews;exact⟨[],.inl ⟨hx'.nils_inv,rfl,rfl⟩,rfl,(fun j x u hx=>by simp at hx),fun u hu=>by cases hu⟩
 ·simp only[za0,zb3] at hnews;obtain⟨rfl,rfl⟩:=hnews;rename_i full m cs;rcases hx'.slc_inv with⟨rfl,rfl,rfl⟩|⟨ad,cap,us,rfl,p1,p2,p3,p4,p5⟩
  ·exact⟨[],.inl ⟨rfl,rfl,rfl⟩,rfl,(fun j x u hx=>by simp at hx),fun u hu=>by cases hu⟩
  have hget:∀(j:Nat) (u:Value),((List.range cs.length).map us)[j]?=some u→∃x,cs[j]?=some x∧u=us j:=fun j u hj=>by
   have hlt:j<cs.length:=by have:=(zc1.1 hj).1;simpa using this
   simp[hlt] at hj;exact⟨_,zd2 hlt,hj.symm⟩
  refine⟨(List.range cs.length).map us,.inr ⟨ad,cap,rfl,fun j u hj=> ?_⟩,by simp,fun j x u hx hu=> ?_,fun u hu=> ?_⟩
  ·obtain⟨x,hx,rfl⟩:=hget j u hj;exact p4 j x hx
  ·obtain⟨x',hx',rfl⟩:=hget j u hu;rw[hx] at hx';cases hx';exact p5 j x hx
  ·obtain⟨j,hj,rfl⟩:=List.getElem_of_mem hu;obtain⟨x,hx,e⟩:=hget j _ (zd2 hj);rw[e];refine(p5 j x hx).one ?_;exact zd7.1 hone x (List.mem_of_getElem? hx)
 ·cases hnews
theorem uX(h:Inv I0 B I A σ a w)(hB:∀k,B k→k<w.heap.size){dst:Option Tmp}{t:TypeId}{s x d:D}{σ':St}(hs:dJ E σ dst t s x=some (d,σ')){vs vx:Value}(hvs:RelV I A (bl σ.H) w s vs)(hvx:RelV I A (bl σ.H) w x vx)(ty:TypeId):
  ∃u w',(Builtin.append_ #[t,t] ty #[vs,vx]).run E.P w= .ok u w'∧Step I0 B I a w d σ' u w':=by
 unfold dJ at hs;split at hs
 ·cases hs
 ·rename_i e he;split at hs
  ·rename_i n by_ z x' ss hn hby hz hsn;split at hs
   ·cases hs
   ·rename_i m news hnews;split at hs
    ·rename_i hc;obtain⟨hzl,hn0,hnl,hone⟩:=hc;obtain⟨i,hi,rfl⟩:=km hn;obtain⟨i',hi',rfl⟩:=rL hby;rw[hi] at hi';cases hi';obtain⟨i',zv,hi',hzv,ho⟩:=eE hz;rw[hi] at hi';cases hi';obtain⟨c1,c2⟩:=(RelV.clo (eu ho):RelV I A (bl σ.H) w z zv).cells2 (tj ho);have hzs:zv.cells.size=i.size:=by omega
     obtain⟨b1,b2⟩:=cr h depth _ _ _ hsn;obtain⟨vnews,k1,k2,k3,k4⟩:=rQ h hsn hnews hone hvx;exact uS h hB (cM he) hi hzv hzs hn0 hnl hs b1 hvs k1 k2 k3 k4 ty
    ·cases hs
  ·cases hs
theorem py{k x:D}{b:Bool}(h:jr k x=some b){vk vx:Value}(hk:RelV I A G w k vk)(hx:RelV I A G w x vx){P:Program}{t:TypeId}{kd:TypeDesc}(hu:P.underlying t=some kd)(hkk:cD P t k=true)(hna:∀cs,k≠ .agg cs):
  Instr.sameNow kd vk vx=some b:=by
 unfold jr at h;split at h
 ·rw[hk.int_inv,hx.int_inv];simp only[cD,hu] at hkk;split at hkk
  ·rename_i h1 h2;cases h1;cases h2;simp only[Instr.sameNow];exact h
  ·rename_i h1 h2;cases h2
  ·rename_i h1 h2;cases h2
  ·rename_i h1 h2;cases h2
  ·cases hkk
 ·simp only[za0] at h;rw[hk.str_inv,hx.str_inv];simp only[cD,hu] at hkk;split at hkk
  ·rename_i h1 h2;cases h2
  ·rename_i h1 h2;cases h1;simp only[Instr.sameNow];rw[h]
  ·rename_i h1 h2;cases h2
  ·rename_i h1 h2;cases h2
  ·cases hkk
 ·simp only[za0] at h;rw[hk.bool_inv,hx.bool_inv];simp only[cD,hu] at hkk;split at hkk
  ·rename_i h1 h2;cases h2
  ·rename_i h1 h2;cases h2
  ·rename_i h1 h2;cases h1;simp only[Instr.sameNow];rw[h]
  ·rename_i h1 h2;cases h2
  ·cases hkk
 ·exact absurd rfl (hna _)
 ·cases h
theorem uY{k:D}{vk:Value}(hk:RelV I A G w k vk){P:Program}{t:TypeId}{kd:TypeDesc}(hu:P.underlying t=some kd)(hkk:cD P t k=true)(hna:∀cs,k≠ .agg cs):
  ∀{ks:List D} {es:List MapEntry} {i0:Nat} {r:Option Nat},fQ k ks i0=some r→ks.length=es.length→(∀(j:Nat) (d:D) (e:MapEntry),ks[j]?=some d→es[j]?=some e→RelV I A G w d e.key)→
   match r with
   |none=>Instr.findNow kd vk es i0=some none
   |some i=>∃j e d,i=i0+j∧es[j]?=some e∧ks[j]?=some d∧jr k d=some true∧Instr.findNow kd vk es i0=some (some (i,e.val))
 |[],es,i0,r,h,hl,hr=>by
  simp only[fQ,za0] at h;subst h;cases es with
  |nil=>rfl
  |cons=>simp at hl
 |x::ks,es,i0,r,h,hl,hr=>by
  cases es with
  |nil=>simp at hl
  |cons e es=>
   simp only[fQ] at h;have hx:=hr 0 x e rfl rfl;split at h
   ·rename_i hq;simp only[za0] at h;subst h;have:=py hq hk hx hu hkk hna;exact⟨0,e,x,rfl,rfl,rfl,hq,by simp only[Instr.findNow,this]⟩
   ·rename_i hq;have hs:=py hq hk hx hu hkk hna;have ih:=uY hk hu hkk hna (es:=es) h (by simpa using hl) (fun j d e' hd he=>hr (j+1) d e' (by simpa using hd) (by simpa using he));cases r with
    |none=>simp only at ih ⊢;simp only[Instr.findNow,hs];exact ih
    |some i=>
     obtain⟨j,e',d',h1,h2,h3,h4,h5⟩:=ih;exact⟨j+1,e',d',by omega,by simpa using h2,by simpa using h3,h4,by simp only[Instr.findNow,hs];exact h5⟩
   ·cases h
theorem uZ{cs:List D}{vk:Value}(hk:RelV I A G w (.agg cs) vk){P:Program}{t:TypeId}(hkk:cD P t (.agg cs)=true):
  ∀{ks:List D} {es:List MapEntry} {i0:Nat} {r:Option Nat},fQ (.agg cs) ks i0=some r→ks.length=es.length→(∀(j:Nat) (d:D) (e:MapEntry),ks[j]?=some d→es[j]?=some e→RelV I A G w d e.key)→
   match r with
   |none=>cb P (Instr.findAsking t vk es i0)=some none
   |some i=>∃j e d,i=i0+j∧es[j]?=some e∧ks[j]?=some d∧jr (.agg cs) d=some true∧cb P (Instr.findAsking t vk es i0)=some (some (i,e.val))
 |[],es,i0,r,h,hl,hr=>by
  simp only[fQ,za0] at h;subst h;cases es with
  |nil=>rfl
  |cons=>simp at hl
 |x::ks,es,i0,r,h,hl,hr=>by
  cases es with
  |nil=>simp at hl
  |cons e es=>
   simp only[fQ] at h;have hx:=hr 0 x e rfl rfl;have heq:∀q,jr (.agg cs) x=some q→cb P (Op.equal t vk e.key)=some q:=by
    intro q hq;obtain⟨fs,hu,hs,hkf⟩:=dC hkk;obtain⟨vs,h1,_⟩:=fe hkf;have hkv:=hk.toV1 (u:= .agg vs.toArray) (by simp[D.toV1,h1]);cases x with
    |agg ys=>
     have hq:uI cs ys=some q:=hq;obtain⟨vy,h2⟩:=uV hq;rw[hkv,hx.toV1 (u:= .agg vy.toArray) (by simp[D.toV1,h2])];exact Aq hu hs hkf hq h1 h2
    |_=>simp[jr] at hq
   split at h
   ·rename_i hq;simp only[za0] at h;subst h;exact⟨0,e,x,rfl,rfl,rfl,hq,by simp only[Instr.findAsking,bz,heq _ hq,Option.bind_some];rfl⟩
   ·rename_i hq;have ih:=uZ hk hkk (es:=es) h (by simpa using hl) (fun j d e' hd he=>hr (j+1) d e' (by simpa using hd) (by simpa using he));have hs:cb P (Instr.findAsking t vk (e::es) i0)=cb P (Instr.findAsking t vk es (i0+1)):=by
     simp only[Instr.findAsking,bz,heq _ hq,Option.bind_some];rfl
    cases r with
    |none=>simp only at ih ⊢;rw[hs];exact ih
    |some i=>
     obtain⟨j,e',d',h1,h2,h3,h4,h5⟩:=ih;exact⟨j+1,e',d',by omega,by simpa using h2,by simpa using h3,h4,by rw[hs];exact h5⟩
   ·cases h
theorem pz{fs:Array Field}{vk:Value}{e:MapEntry}{es:List MapEntry}{i:Nat}:Instr.findNow (.struct fs) vk (e::es) i=none:=by
 simp[Instr.findNow,Instr.sameNow]
theorem jM{k:D}{vk:Value}(hk:RelV I A G w k vk){P:Program}{t:TypeId}{kd:TypeDesc}(hu:P.underlying t=some kd)(hkk:cD P t k=true)
  {ks:List D} {es:List MapEntry} {r:Option Nat} (h:fQ k ks 0=some r) (hl:ks.length=es.length) (hr:∀(j:Nat) (d:D) (e:MapEntry),ks[j]?=some d→es[j]?=some e→RelV I A G w d e.key):
   match r with
   |none=>(Instr.findKey t vk es).run P w= .ok none w
   |some i=>∃j e d,i=0+j∧es[j]?=some e∧ks[j]?=some d∧jr k d=some true∧(Instr.findKey t vk es).run P w= .ok (some (i,e.val)) w:=by
 by_cases ha:∃cs,k= .agg cs
 ·obtain⟨cs,rfl⟩:=ha;obtain⟨fs,hu',_,_⟩:=dC hkk;have hf:=uZ hk hkk h hl hr;have hrun:∀x,cb P (Instr.findAsking t vk es 0)=some x→(Instr.findKey t vk es).run P w= .ok x w:=by
   intro x hx;cases es with
   |nil=>
    simp only[Instr.findAsking,cN,za0] at hx;subst hx;simp only[Instr.findKey,Sem.run_bind,run_underlying hu',Result.andThen_ok,Instr.findNow,Sem.run_pure]
   |cons e es=>
    simp only[Instr.findKey,Sem.run_bind,run_underlying hu',Result.andThen_ok,pz];exact ti hx w
  cases r with
  |none=>exact hrun _ hf
  |some i=>
   obtain⟨j,e,d,h1,h2,h3,h4,h5⟩:=hf;exact⟨j,e,d,h1,h2,h3,h4,hrun _ h5⟩
 ·have hf:=uY hk hu hkk (fun cs e=>ha ⟨cs,e⟩) h hl hr;have hrun:∀x,Instr.findNow kd vk es 0=some x→(Instr.findKey t vk es).run P w= .ok x w:=by
   intro x hx;simp only[Instr.findKey,Sem.run_bind,run_underlying hu,Result.andThen_ok,hx,Sem.run_pure]
  cases r with
  |none=>exact hrun _ hf
  |some i=>
   obtain⟨j,e,d,h1,h2,h3,h4,h5⟩:=hf;exact⟨j,e,d,h1,h2,h3,h4,hrun _ h5⟩
theorem iL{P:Program}{t:TypeId}{k:D}(hkk:cD P t k=true){vk:Value}(hk:RelV I A G w k vk)(b:Bool)(n:Nat):(Instr.checkKey b (n+2) t vk).run P w= .ok () w:=by
 have hkk0:=hkk;unfold cD at hkk;split at hkk
 ·rename_i hu;rw[hk.int_inv];simp[Instr.checkKey,run_underlying hu]
 ·rename_i hu;rw[hk.str_inv];simp[Instr.checkKey,run_underlying hu]
 ·rename_i hu;rw[hk.bool_inv];simp[Instr.checkKey,run_underlying hu]
 ·obtain⟨fs,hu,_,hkf⟩:=dC hkk0;obtain⟨vs,h1,_⟩:=fe hkf;rw[hk.toV1 (u:= .agg vs.toArray) (by simp[D.toV1,h1])];exact ti (ra hu hkf h1) w
 ·cases hkk
theorem gU{P:Program}{t:TypeId}{k:D}(hkk:cD P t k=true):∃kd,P.underlying t=some kd:=by
 unfold cD at hkk;split at hkk
 ·rename_i hu;exact⟨_,hu⟩
 ·rename_i hu;exact⟨_,hu⟩
 ·rename_i hu;exact⟨_,hu⟩
 ·rename_i hu;exact⟨_,hu⟩
 ·cases hkk
theorem gV{P:Program}{t k e:TypeId}(h:fA P t=some (k,e)):P.underlying t=some (.map k e):=by
 unfold fA at h;split at h
 ·rename_i hu;simp only[za0,zb3] at h;obtain⟨rfl,rfl⟩:=h;exact hu
 ·cases h
theorem BO(h:Inv I0 B I A σ a w){x:D}{ks vs:List D}(hm:pd σ.H x=some (ks,vs)){v:Value}(hv:RelV I A (bl σ.H) w x v):
  ∃es:Array MapEntry,((v= .map none∧es= #[])∨∃b ck,v= .map (some b)∧w.heap[b]?=some (.map es ck))∧ks.length=es.size∧vs.length=es.size∧
   (∀(j:Nat) (d:D) (e:MapEntry),ks[j]?=some d→es[j]?=some e→RelV I A (bl σ.H) w d e.key)∧(∀(j:Nat) (d:D) (e:MapEntry),vs[j]?=some d→es[j]?=some e→RelV I A (bl σ.H) w d e.val):=by
 unfold pd at hm;split at hm
 ·split at hm
  ·rename_i ks' vs' fz hl;simp only[za0,zb3] at hm;obtain⟨rfl,rfl⟩:=hm;obtain⟨y,hy,hyB,es,ck,hb,h1,h2,h3,h4,h5,hclo⟩:=h.ob _ _ _ hl;exact⟨es,.inr ⟨y.b,ck,hv.mloc_inv hy,hb⟩,h1,h2,h3,h4⟩
  ·rename_i ks' vs' fz hl;simp only[za0,zb3] at hm;obtain⟨rfl,rfl⟩:=hm;obtain⟨y,hy,hyB,es,ck,hb,h1,h2,h3,h4,h5,hclo⟩:=h.ob _ _ _ hl;exact⟨es,.inr ⟨y.b,ck,hv.mloc_inv hy,hb⟩,h1,h2,h3,h4⟩
  ·cases hm
 ·simp only[za0,zb3] at hm;obtain⟨rfl,rfl⟩:=hm;cases hv with
  |clo hv=>cases hv with
   |msnap _ _ b es ck hI hb hk hv' hks hvs=>exact⟨es,.inr ⟨b,ck,rfl,hb⟩,hk,hv',fun j d e hd he=> .clo (hks j d e hd he),fun j d e hd he=> .clo (hvs j d e hd he)⟩
 ·simp only[za0,zb3] at hm;obtain⟨rfl,rfl⟩:=hm;exact⟨#[],.inl ⟨hv.mnil_inv,rfl⟩,rfl,rfl,fun j d e hd=>by simp at hd,fun j d e hd=>by simp at hd⟩
 ·cases hm
theorem u0(h:Inv I0 B I A σ a w){t:TypeId}{x k d:D}{ok:Bool}(hs:eO E σ t x k ok=some d){v vk:Value}(hv:RelV I A (bl σ.H) w x v)(hk:RelV I A (bl σ.H) w k vk):
  ∃u,(Instr.lookup t v vk ok).run E.P w= .ok u w∧RelV I A (bl σ.H) w d u:=by
 unfold eO at hs;split at hs
 ·cases hs
 ·rename_i kt et hmt;split at hs
  ·rename_i hkk;obtain⟨kd,hkd⟩:=gU hkk;split at hs
   ·rename_i ks vs z hma hz;obtain⟨es,hv',hkl,hvl,hkr,hvr⟩:=BO h hma hv;have hck:=iL (w:=w) hkk hk es.isEmpty 9998;have hu:=gV hmt;have hrun1:∀i v0,(Instr.findKey kt vk es.toList).run E.P w= .ok (some (i,v0)) w→(Instr.lookup t v vk ok).run E.P w= .ok (if ok then .tuple #[v0,.bool true] else v0) w:=by
     intro i v0 hr;rcases hv' with⟨rfl,rfl⟩|⟨b,ck,rfl,hb⟩
     ·simp only[Instr.lookup,Sem.run_bind,run_underlying hu,Result.andThen_ok,Sem.run_pure,hck,hr]
     ·simp only[Instr.lookup,Sem.run_bind,run_underlying hu,Result.andThen_ok,Sem.run_pure,getObj,Sem.run,hb,hck,hr]
    have hrun0:∀zv,(zeroValue et).run E.P w= .ok zv w→(Instr.findKey kt vk es.toList).run E.P w= .ok none w→(Instr.lookup t v vk ok).run E.P w= .ok (if ok then .tuple #[zv,.bool false] else zv) w:=by
     intro zv hz hr;rcases hv' with⟨rfl,rfl⟩|⟨b,ck,rfl,hb⟩
     ·simp only[Instr.lookup,Sem.run_bind,run_underlying hu,Result.andThen_ok,Sem.run_pure,hck,hr,hz]
     ·simp only[Instr.lookup,Sem.run_bind,run_underlying hu,Result.andThen_ok,Sem.run_pure,getObj,Sem.run,hb,hck,hr,hz]
    split at hs
    ·rename_i i hf;obtain⟨j,e,dk,rfl,he,_,_,hfn⟩:=jM hk hkd hkk hf (es:=es.toList) (by simpa using hkl) (fun j d e hd he=>hkr j d e hd (by simpa using he));rw[Nat.zero_add] at hs hfn;split at hs
     ·rename_i dv hdv;simp only[za0] at hs;subst hs;have hrv:=hvr j dv e hdv (by simpa using he);refine⟨if ok then .tuple #[e.val,.bool true] else e.val,hrun1 _ _ hfn,?_⟩
      ·cases ok with
       |false=>exact hrv
       |true=>
        refine .tup _ _ rfl fun j' d' u hd' hu'=> ?_
        match j',hd',hu' with
        |0,hd',hu'=>simp at hd' hu';subst hd' hu';exact hrv
        |1,hd',hu'=>simp at hd' hu';subst hd' hu';exact .clo (.bool _)
        |j'+2,hd',_=>simp at hd'
     ·cases hs
    ·rename_i hf;have hfn:=jM hk hkd hkk hf (es:=es.toList) (by simpa using hkl) (fun j d e hd he=>hkr j d e hd (by simpa using he));simp only[za0] at hs;subst hs;obtain⟨i,zv,hi,hzv,ho⟩:=eE hz;have hzr:(zeroValue et).run E.P w= .ok zv w:=by simp[zeroValue,typeInfo,hi,hzv]
     refine⟨if ok then .tuple #[zv,.bool false] else zv,hrun0 _ hzr hfn,?_⟩
     ·cases ok with
      |false=>exact .clo (eu ho)
      |true=>
       refine .tup _ _ rfl fun j' d' u hd' hu'=> ?_
       match j',hd',hu' with
       |0,hd',hu'=>simp at hd' hu';subst hd' hu';exact .clo (eu ho)
       |1,hd',hu'=>simp at hd' hu';subst hd' hu';exact .clo (.bool _)
       |j'+2,hd',_=>simp at hd'
    ·cases hs
   ·cases hs
  ·cases hs
end
end Go.Pd
end
