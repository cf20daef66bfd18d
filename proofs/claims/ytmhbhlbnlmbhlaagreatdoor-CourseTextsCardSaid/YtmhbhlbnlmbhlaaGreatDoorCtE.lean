import Derived.Test.YtmhbhlbnlmbhlaaGreatDoorCtD
import Derived.Test.YtmhbhlbnlmbhlaaGreatDoorCtA
import Derived.Test.YtmhbhlbnlmbhlaaGreatDoorCsO
import Derived.Shelf.Strings.OnBuilder
import Derived.Test.YtmhbhlbnlmbhlaaGreatDoorCsJ
import Derived.Test.YtmhbhlbnlmbhlaaGreatDoorCrK
import Derived.Test.YtmhbhlbnlmbhlaaGreatDoorCrQ0
section
namespace Go.Pd
open Go Go.Proofs Go.RowKit Go.Shelf
set_option maxRecDepth 100000
def OO(a:List UInt8×List Pt):Ar:=(bs a.1,a.2.isEmpty,a.2)
def Rd.h(r:Rd):Hl:=⟨bs r.nm,r.tee,r.cup,r.line.isEmpty,r.line,r.areas.isEmpty,r.areas.map OO⟩
abbrev FK(r:Rd):List D:=[SB r.nm,.int .i64 r.tee.1,.int .i64 r.tee.2,.int .i64 r.cup.1,.int .i64 r.cup.2,m6 (mh r.line),m6 (vd r.areas)]
theorem OP(l:List Pt):(bJ l).map canon0=bJ l:=by
 induction l with
 |nil=>rfl
 |cons p l ih=>simp only[bJ,List.flatMap_cons,List.map_append] at ih ⊢;rw[ih];rfl
theorem OQ(l:List Pt):canon0 (m6 (mh l))= .slc l.isEmpty l.length (bJ l):=by cases l<;>rfl
theorem KS(l:List Pt):dn1 (m6 (mh l))= .slc l.isEmpty l.length (bJ l):=by
 cases l with
 |nil=>rfl
 |cons p l=>
  show D.slc false _ ((bJ (p::l)).map canon0)=_;rw[OP];rfl
theorem KT(l:List (List UInt8×List Pt)):(oZ l).map canon0=bV (l.map OO):=by
 induction l with
 |nil=>rfl
 |cons a l ih=>
  have h1:oZ (a::l)=SB a.1::m6 (mh a.2)::oZ l:=rfl;have h2:bV ((a::l).map OO)= .str (bs a.1):: .slc a.2.isEmpty a.2.length (bJ a.2)::bV (l.map OO):=rfl;rw[h1,h2,List.map_cons,List.map_cons,ih,OQ];rfl
theorem KU(l:List (List UInt8×List Pt)):dn1 (m6 (vd l))= .slc l.isEmpty (l.map OO).length (bV (l.map OO)):=by
 cases l with
 |nil=>rfl
 |cons p l=>
  show D.slc false _ ((oZ (p::l)).map canon0)=_;rw[KT,zc2];rfl
theorem Mc(r:Rd):dn2 (.agg (FK r))=bQ r.h:=by
 show D.agg [SB r.nm,.int .i64 r.tee.1,.int .i64 r.tee.2,.int .i64 r.cup.1,.int .i64 r.cup.2,dn1 (m6 (mh r.line)),dn1 (m6 (vd r.areas))]=_;rw[KS,KU];rfl
theorem SK(r:Rd)(hk:r.h.Ok):OK2 21 [.agg (FK r)] (.int .i64 (cv r.h)):=by
 refine L9 ?_;show OK2 21 [dn2 (.agg (FK r))] _;rw[Mc];exact Ge r.h hk
def fam21r:Fam:=⟨21,{r:Rd//r.h.Ok∧r.last=[]},fun r=>[.agg (FK r.1)],fun r=> .int .i64 (cv r.1.h)⟩
theorem Ad:fam21r.Good:=⟨fun r=>SK r.1 r.2.1,fun x y e=>by
 have e:[D.agg (FK x.1)]=[D.agg (FK y.1)]:=e;simp only[zc5,D.agg.injEq,and_true] at e;have h:x.1.c=y.1.c:=by
  show[_,_,_,_,_,_,_,SB x.1.last]=[_,_,_,_,_,_,_,SB y.1.last];rw[x.2.2,y.2.2];simp only[zc5,and_true];exact e
 show D.int .i64 (cv x.1.h)= .int .i64 (cv y.1.h);rw[DY h],fun _=>rfl⟩
theorem Hf(r:Rd)(w:List (List UInt8)):(lg r w).1.line.length≤r.line.length+1∧(lg r w).1.areas.length≤r.areas.length+1:=by
 unfold lg;split
 ·split
  ·exact⟨Nat.le_succ _,Nat.le_succ _⟩
  ·split
   ·exact⟨Nat.le_succ _,Nat.le_succ _⟩
   ·exact⟨by simp,Nat.le_succ _⟩
 ·exact⟨Nat.le_succ _,Nat.le_succ _⟩
theorem KV(r:Rd)(l:List UInt8):(t7 r l).1.line.length≤r.line.length+1∧(t7 r l).1.areas.length≤r.areas.length+1:=by
 unfold t7;generalize spl 32 l=w;unfold KQ;split
 ·exact⟨Nat.le_succ _,Nat.le_succ _⟩
 ·rename_i a t;split
  ·split
   ·unfold m7;split
    ·unfold OL;split
     ·exact⟨Nat.le_succ _,Nat.le_succ _⟩
     ·exact⟨Nat.le_succ _,Nat.le_succ _⟩
    ·split
     ·unfold OM;split
      ·unfold DZ;split
       ·exact⟨Nat.le_succ _,Nat.le_succ _⟩
       ·exact⟨Nat.le_succ _,by simp⟩
      ·exact⟨Nat.le_succ _,Nat.le_succ _⟩
     ·exact Hf {r with last:=a} _
   ·exact⟨Nat.le_succ _,Nat.le_succ _⟩
  ·exact⟨Nat.le_succ _,Nat.le_succ _⟩
def qk:Nat→Rd→List (List UInt8)→Nat ⊕ Rd
 |_,r,[]=> .inr r
 |i,r,l::t=>if(t7 r l).2 then qk (i+1) (t7 r l).1 t else .inl (i+1)
theorem wl(i:Nat)(r:Rd)(l:List UInt8)(t:List (List UInt8)):qk i r (l::t)=if(t7 r l).2 then qk (i+1) (t7 r l).1 t else .inl (i+1):=rfl
abbrev eD(n:Nat)(e:Int):D:= .tup [.agg [SB [],.int .i64 0,.int .i64 0,.int .i64 0,.int .i64 0,.slc true 0 [],.slc true 0 []],.int .i64 (n:Int),.int .i64 e]
def PN(n:Nat):Nat ⊕ Rd→D
 | .inl k=>eD k 25
 | .inr r=>if r.last==cp||r.last==cD then eD (n+1) 25 else if cv r.h !=0 then eD 0 (cv r.h) else .tup [.agg ((FK r).map canon0),.int .i64 0,.int .i64 0]
def SL(n:Nat):Nat ⊕ Rd→Hl×Nat×Int
 | .inl k=>(h00,k,25)
 | .inr r=>if r.last==cp||r.last==cD then(h00,n+1,25) else if cv r.h !=0 then(h00,0,cv r.h) else(r.h,0,0)
theorem OR(r:Rd):dn2 (.agg ((FK r).map canon0))=bQ r.h:=by
 rw[←Mc];obtain⟨nm,tee,cup,line,areas,last⟩:=r;cases line<;>cases areas<;>rfl
theorem SM(n:Nat)(x:Nat ⊕ Rd):dn3 (PN n x)=yR (SL n x):=by
 cases x with
 |inl k=>rfl
 |inr r=>
  dsimp only[PN,SL];cases r.last==cp||r.last==cD with
  |true=>rfl
  |false=>
   show dn3 (if cv r.h !=0 then eD 0 (cv r.h) else .tup [.agg ((FK r).map canon0),.int .i64 0,.int .i64 0])=yR (if cv r.h !=0 then(h00,0,cv r.h) else(r.h,0,0));cases cv r.h !=0 with
   |true=>rfl
   |false=>
    show D.tup [dn2 (.agg ((FK r).map canon0)),.int .i64 0,.int .i64 0]=_;rw[OR];rfl
theorem VJ{call mu:FuncId→List D→Option D}{f:Bool}{N:Nat}(hN:N≤100000)(h130:∀(r:Rd) (l:List UInt8),l.length≤100000→r.line.length≤100000→r.areas.length≤100000→mu 130 [.agg r.c,SB l]=some (BG (t7 r l))):
  ∀(t pre:List (List UInt8)) (r:Rd) (fuel:Nat),(pre++t).length=N→(∀l∈t,l.length≤100000)→r.line.length≤pre.length→r.areas.length≤pre.length→(∀r',qk pre.length r t= .inr r'→call 21 [.agg (FK r')]=some (.int .i64 (cv r'.h)))→t.length<fuel→
  sb call mu LL C1 fuel f N ((pre++t).map SB) f N ((pre++t).map SB) (N:Int) (pre.length:Int) (bs r.nm) r.tee.1 r.tee.2 r.cup.1 r.cup.2 (mh r.line) (vd r.areas) (bs r.last)=some (PN N (qk pre.length r t)):=by
 intro t
 induction t with
 |nil=>
  intro pre r fuel hl hw g1 g2 h21 hf;obtain⟨fuel,rfl⟩:∃n,fuel=n+1:=⟨fuel-1,by omega⟩;rw[zb6] at hl ⊢;have h21:=h21 r rfl;rw[tO,hl,za2 (by omega),bv,show ByteArray.mk #[104,111,108,101]=bs cp from rfl,show ByteArray.mk #[116,101,101]=bs cD from rfl,fe,fe,bS (by omega)];show _=some (if r.last==cp||r.last==cD then eD (N+1) 25 else if cv r.h !=0 then eD 0 (cv r.h) else .tup [.agg ((FK r).map canon0),.int .i64 0,.int .i64 0]);cases r.last==cp
  ·cases r.last==cD
   ·refine bI h21 ?_;rw[bF];cases cv r.h !=0<;>rfl
   ·rfl
  ·rfl
 |cons l t ih=>
  intro pre r fuel hl hw g1 g2 h21 hf;obtain⟨fuel,rfl⟩:∃n,fuel=n+1:=⟨fuel-1,by omega⟩;have hlen:pre.length<N:=by rw[←hl];simp
  have hc:((pre++l::t).map SB)[Int.toNat (pre.length:Int)*1]?=some (SB l):=by rw[za3,Nat.mul_one];simp
  have hm:=h130 r l (hw l (by simp)) (by omega) (by omega);have hrl:=KV r l;rw[wl] at h21 ⊢;have hwr:IntKind.wrap .i64 ((pre.length:Int)+1)=((pre++[l]).length:Int):=by rw[bS (by omega)];simp
  have e1:(pre++[l]).length=pre.length+1:=by simp
  have ih:=fun r' g1 g2 h21=>ih (pre++[l]) r' fuel (by simpa using hl) (fun x hx=>hw x (by simp[hx])) g1 g2 h21 (by simpa using hf);rw[za8,List.singleton_append,e1] at ih;rw[tO,za1 (by omega),bx,za1 ⟨by omega,by omega⟩,bC,cT hc,bP];refine bI hm ((Ci _ _).trans ?_);rw[hwr,e1];cases hb:(t7 r l).2 with
  |false=>rfl
  |true=>
   rw[hb,if_pos rfl] at h21;rw[show(!true)=false from rfl,bv,if_pos rfl];exact ih (t7 r l).1 (by omega) (by omega) h21
def r00:Rd:=⟨[],(0,0),(0,0),[],[],[]⟩
def Hg(l:List UInt8):Prop:=∀r',qk 0 r00 (cC l)= .inr r'→r'.h.Ok
def Hh(l:List UInt8):Hl×Nat×Int:=if 4096<l.length then(h00,0,26) else if l.getLast?==some 10 then SL (cC l).length (qk 0 r00 (cC l)) else(h00,0,28)
def fam130:PFam:=⟨130,{p:Rd×List UInt8//p.2.length≤100000∧p.1.line.length≤100000∧p.1.areas.length≤100000},fun p=>[.agg p.1.1.c,SB p.1.2],fun p=>BG (t7 p.1.1 p.1.2)⟩
theorem Ae:fam130.Good:=⟨fun p=>⟨0,0,nI,nI,[.nils,SB p.1.2],p.1.1.c,(t7 p.1.1 p.1.2).1.c,.bool (t7 p.1.1 p.1.2).2,rfl,Nat.zero_lt_succ _,rfl,rfl,SJ p.1.1 p.1.2 p.2.1 p.2.2.1 p.2.2.2⟩,fun x y e=>by
 have e:[D.agg x.1.1.c,SB x.1.2]=[D.agg y.1.1.c,SB y.1.2]:=e;simp only[zc5,D.str.injEq,D.agg.injEq,and_true] at e;show BG (t7 x.1.1 x.1.2)=BG (t7 y.1.1 y.1.2);have h1:x.1.1=y.1.1:=DY (by simp only[zc5,D.str.injEq,and_true];exact e.1);rw[h1,eE e.2]⟩
theorem VK(l:List UInt8)(hl:l.length≤5000)(hfit0:l.length≤4096→Hg l):OK2 72 [SB l] (yR (Hh l)):=by
 have hlen:=nL l;have hmem:=nM l;have hne:cC l≠[]:=mc 10 _
 let e26:Int:=bz (decide ((l.length:Int)>4096)) 26 0
 let e28:Int:=bz (!(l.getLast?==some 10)) 28 0
 have hcut:l.getLast?=some 10→fZ l 10=l.dropLast:=fun h=>by unfold fZ;rw[h];rfl
 obtain⟨B,hB,b84,b129,b76,b132,b131,b21,_⟩:=fP [⟨84,Bool×Int,fun p=>[.bool p.1,.int .i64 p.2],fun p=> .int .i64 (bz p.1 p.2 0)⟩,one 129 [SB l,SB [10]] (.bool (l.getLast?==some 10)),
   ⟨76,{p:List Int//p.length≤1000},fun p=>[.slc true p.1.length (dE p.1)],fun p=> .int .i64 (cI p.1)⟩,one 132 [SB l,SB [10]] (SB (fZ l 10)),one 131 [SB (fZ l 10),SB [10]] (zR (spl 10 (fZ l 10))),fam21r]
  ⟨⟨fun p=>EC p.1 p.2,fun x y e=>by
   have e:[D.bool x.1,.int .i64 x.2]=[D.bool y.1,.int .i64 y.2]:=e;simp only[zc5,D.bool.injEq,D.int.injEq,true_and,and_true] at e;show D.int .i64 (bz x.1 x.2 0)= .int .i64 (bz y.1 y.2 0);rw[e.1,e.2],fun _=>rfl⟩,bM (Sk l 10 (by omega)) rfl,⟨fun p=>ED p.1 p.2,fun x y e=>by
   have e:[D.slc true x.1.length (dE x.1)]=[D.slc true y.1.length (dE y.1)]:=e;simp only[zc5,D.slc.injEq,true_and,and_true] at e;show D.int .i64 (cI x.1)= .int .i64 (cI y.1);rw[oq e.2],fun _=>rfl⟩,bM (Sl l 10 (by omega)) rfl,bM (LY (fZ l 10) 10 (by unfold fZ;split;(rw[List.length_dropLast];omega);omega)) rfl,Ad,trivial⟩ rfl
 obtain⟨mu,hmu,m130,_⟩:=PM [fam130] ⟨Ae,trivial⟩ rfl;have hx:OK2 72 [SB l] (if cI [e26,e28] !=0 then eD 0 (cI [e26,e28]) else PN (cC l).length (qk 0 r00 (cC l))):=by
  refine SD hB hmu Tryz.func72 (ord:=O0) (N:=VE) (by kernel_rfl) ((Og _ _ _ _ _).trans ?_);rw[bL];refine bI (b84 (decide ((l.length:Int)>4096),26)) ?_;refine bI (b129 ()) (bI (b84 (!(l.getLast?==some 10),28)) ?_);refine bI (b76 ⟨[e26,e28],by show 2≤1000;decide⟩) ?_;rw[bF];cases hz:cI [e26,e28] !=0 with
  |true=>rfl
  |false=>
   rw[bv,if_neg (by decide)];have hfit:Hg l:=hfit0 (by
    have h0:cI [e26,e28]=0:=by simpa using hz
    by_cases h96:l.length≤4096
    ·exact h96
    ·exfalso;have h26:e26=26:=by show bz (decide ((l.length:Int)>4096)) 26 0=(26:Int);rw[za1 (by omega)];rfl
     rw[h26,mI,show((26:Int) !=0)=true from rfl,bx] at h0;exact absurd h0 (by decide))
   have hlast:l.getLast?=some 10:=by
    have h0:cI [e26,e28]=0:=by simpa using hz
    by_cases hc:l.getLast?=some 10
    ·exact hc
    ·exfalso;have:(l.getLast?==some 10)=false:=by simpa using hc
     have h28:e28=28:=by show bz (!(l.getLast?==some 10)) 28 0=(28:Int);rw[this];rfl
     rw[h28,mI] at h0;by_cases h26:e26=0
     ·rw[h26] at h0;exact absurd h0 (by decide)
     ·rw[show(e26 !=0)=true by simpa using h26,bx] at h0;exact h26 h0
   have g131:bw B 131 [SB (fZ l 10),SB [10]]=some (zR (cC l)):=by
    have:=b131 ();rw[hcut hlast] at this ⊢;exact this
   refine bI (b132 ()) (bI g131 ?_);have hg:=VJ (call:=bw B) (mu:=mu) (f:=true) (N:=(cC l).length) (by omega) (fun r l h1 h2 h3=>m130 ⟨(r,l),h1,h2,h3⟩) (cC l) [] r00 LL rfl (fun x hx=>zb1 (hmem x hx) (by omega)) (zb0 _) (zb0 _)
    (fun r' e=>b21 ⟨{r' with last:=[]},hfit r' e,rfl⟩) (by unfold LL;omega)
   rw[zb7,show(([]:List (List UInt8)).length:Int)=0 from rfl,show([]:List (List UInt8)).length=0 from rfl,show r00.tee.1=0 from rfl,show r00.tee.2=0 from rfl,show r00.cup.1=0 from rfl,show r00.cup.2=0 from rfl,show mh r00.line=none from rfl,show vd r00.areas=none from rfl,show r00.nm=[] from rfl,show r00.last=[] from rfl] at hg;unfold zR;rw[cL];exact hg
 have h2:=OB hx;have he:dn3 (if cI [e26,e28] !=0 then eD 0 (cI [e26,e28]) else PN (cC l).length (qk 0 r00 (cC l)))=yR (Hh l):=by
  unfold Hh;rw[mI];show dn3 (if(bz ((bz (decide ((l.length:Int)>4096)) 26 0:Int) !=0) (bz (decide ((l.length:Int)>4096)) 26 0:Int) (bz ((bz (!(l.getLast?==some 10)) 28 0:Int) !=0) (bz (!(l.getLast?==some 10)) 28 0:Int) 0)) !=0 then eD 0 (bz ((bz (decide ((l.length:Int)>4096)) 26 0:Int) !=0) (bz (decide ((l.length:Int)>4096)) 26 0:Int) (bz ((bz (!(l.getLast?==some 10)) 28 0:Int) !=0) (bz (!(l.getLast?==some 10)) 28 0:Int) 0)) else PN (cC l).length (qk 0 r00 (cC l)))=_;by_cases h96:4096<l.length
  ·rw[za1 (show(l.length:Int)>4096 by omega),if_pos h96];rfl
  ·rw[za2 (show¬(l.length:Int)>4096 by omega),if_neg h96];cases l.getLast?==some 10 with
   |false=>rfl
   |true=>exact SM _ _
 rw[he] at h2;exact h2
def lJ(i:Nat)(r:Rd):List UInt8:=if i=0 then[] else if i=1 then cp else if i=2 then cD else if r.areas.isEmpty then(if r.line.isEmpty then cJ else cG) else bX
structure SameR(i:Nat)(h:Hl)(r:Rd):Prop where
 h:h=r.h
 last:r.last=lJ i r
 none:i<3→r.line=[]∧r.areas=[]
theorem mS{a:List UInt8}(h0:a≠[])(h1:a≠cp)(h2:a≠cD)(h3:a≠cJ)(h4:a≠cG)(h5:a≠bX):lS a= -1:=by
 have e:∀b,a≠b→dn (bs a) (bs b)=false:=fun b h=>by
  unfold dn;rw[fe];simpa using h
 unfold lS G8;simp only[oG,e _ h0,e _ h1,e _ h2,e _ h3,e _ h4,e _ h5,bv]
theorem mT{a last:List UInt8}(h:lS a= -1):ji last a=false:=by
 have:=Aa last;unfold ji;rw[h,za1 (by decide),bx,beq_eq_false_iff_ne];omega
theorem SN(r:Rd)(p:Pt):tX r.h p=({r with line:=r.line++[p]}:Rd).h:=by
 unfold tX Rd.h;simp
theorem OS(r:Rd)(k:List UInt8)(c:List Pt):jF r.h k c=({r with areas:=r.areas++[(k,c)]}:Rd).h:=by
 unfold jF Rd.h;simp[OO]
theorem OT(r:Rd):r.h.areas.isEmpty=r.areas.isEmpty:=by unfold Rd.h;simp
theorem TK(a:List UInt8):a=cp∨a=cD∨a=cJ∨a=cG∨a=bX∨(a≠cp∧a≠cD∧a≠cJ∧a≠cG∧a≠bX):=by
 by_cases h1:a=cp
 ·exact .inl h1
 ·by_cases h2:a=cD
  ·exact .inr (.inl h2)
  ·by_cases h3:a=cJ
   ·exact .inr (.inr (.inl h3))
   ·by_cases h4:a=cG
    ·exact .inr (.inr (.inr (.inl h4)))
    ·by_cases h5:a=bX
     ·exact .inr (.inr (.inr (.inr (.inl h5))))
     ·exact .inr (.inr (.inr (.inr (.inr ⟨h1,h2,h3,h4,h5⟩))))
theorem KW:∀l∈[[],cp,cD,cJ,cG,bX],∀a∈[cp,cD,cJ,cG,bX],ji l a=(([([],cp),(cp,cD),(cD,cJ),(cJ,cG),(cG,cG),(cJ,bX),(cG,bX),(bX,bX)]:List (List UInt8×List UInt8)).contains (l,a)):=by decide+kernel
theorem gR(l a:List UInt8)(hl:l∈[[],cp,cD,cJ,cG,bX])(ha:a∈[cp,cD,cJ,cG,bX]):ji l a=(([([],cp),(cp,cD),(cD,cJ),(cJ,cG),(cG,cG),(cJ,bX),(cG,bX),(bX,bX)]:List (List UInt8×List UInt8)).contains (l,a)):=KW l hl a ha
theorem sh{i:Nat}{h:Hl}{w:List (List UInt8)}(hw:w.length≠3):rd3 i h w=(h,false):=by
 unfold rd3;split
 ·exact absurd rfl hw
 ·rfl
theorem xZ{r:Rd}{w:List (List UInt8)}(hw:w.length≠3):lg r w=(r,false):=by
 unfold lg;split
 ·exact absurd rfl hw
 ·rfl
def OU(h:Hl):List (List UInt8)→Hl×Bool
 |[a,n]=>if a==cp then({h with name:=bs n},true) else(h,false)
 |_=>(h,false)
def OV(i:Nat)(h:Hl):List (List UInt8)→Hl×Bool
 |a::k::r=>if a==bX then KM h k (dQ r) else rd3 i h (a::k::r)
 |_=>(h,false)
theorem Af{i:Nat}{h:Hl}{a:List UInt8}{t:List (List UInt8)}(hfu:fA (a::t)=true):zT i h (a::t)=if i=0 then OU h (a::t) else if 2<i then OV i h (a::t) else rd3 i h (a::t):=by
 unfold zT;rw[hfu,if_pos rfl];cases t with
 |nil=>rfl
 |cons k r=>cases r<;>rfl
theorem EZ{i:Nat}{h:Hl}{r:Rd}(hs:SameR i h r)(l:List UInt8):(mR i h l).2=(t7 r l).2∧((t7 r l).2=true→SameR (i+1) (mR i h l).1 (t7 r l).1):=by
 obtain⟨rfl,hla,hno⟩:=hs;unfold mR t7;generalize spl 32 l=w;cases w with
 |nil=>exact⟨by unfold zT KQ;split<;>(try rfl)<;>(split<;>(try rfl)<;>(split<;>rfl)),fun e=>by cases e⟩
 |cons a t=>
  rw[wk];cases hfu:fA (a::t) with
  |false=>rw[L7 hfu,if_neg (by decide)];exact⟨rfl,fun e=>by cases e⟩
  |true=>
   rw[if_pos rfl];have hne:a≠[]:=fun e=>by
    subst e;unfold fA at hfu;simp at hfu
   have hmem:r.last∈[[],cp,cD,cJ,cG,bX]:=by
    rw[hla];unfold lJ;split
    ·simp
    ·split
     ·simp
     ·split
      ·simp
      ·split
       ·split<;>simp
       ·simp
   rw[Af hfu];have no:∀x:Hl×Bool,x.2=false→(ji r.last a=false∨(m7 {r with last:=a} a t).2=false)→x.2=(if ji r.last a then m7 {r with last:=a} a t else(r,false)).2∧((if ji r.last a then m7 {r with last:=a} a t else(r,false)).2=true→SameR (i+1) x.1 (if ji r.last a then m7 {r with last:=a} a t else(r,false)).1):=fun x hx hf=>by
    have:(if ji r.last a then m7 {r with last:=a} a t else(r,false)).2=false:=by
     rcases hf with hf|hf
     ·rw[hf];rfl
     ·cases ji r.last a
      ·rfl
      ·exact hf
    rw[hx,this];exact⟨rfl,fun e=>by cases e⟩
   rcases Nat.lt_or_ge i 3 with hi|hi
   ·have hn:=hno hi;have h2i:¬2<i:=by omega
    rw[if_neg h2i];rcases(show i=0∨i=1∨i=2 by omega) with rfl|rfl|rfl
    ·have hl0:r.last=[]:=hla;rw[if_pos rfl];rcases TK a with rfl|ha
     ·rw[hl0,gR [] cp (by simp) (by simp),show(([([],cp),(cp,cD),(cD,cJ),(cJ,cG),(cG,cG),(cJ,bX),(cG,bX),(bX,bX)]:List (List UInt8×List UInt8)).contains ([],cp))=true from by decide,if_pos rfl]
      match t with
      |[n]=>exact⟨rfl,fun _=>⟨rfl,rfl,fun _=>hn⟩⟩
      |[]=>exact⟨rfl,fun e=>by cases e⟩
      |_::_::_=>exact⟨rfl,fun e=>by cases e⟩
     ·have haw:(a==cp)=false:=by
       rcases ha with rfl|rfl|rfl|rfl|ha
       ·rfl
       ·rfl
       ·rfl
       ·rfl
       ·simpa using ha.1
      refine no _ ?_ (.inl ?_)
      ·unfold OU;split
       ·rename_i a' n he;simp only[zc5] at he;rw[←he.1,haw];rfl
       ·rfl
      ·rw[hl0];rcases ha with rfl|rfl|rfl|rfl|ha
       ·exact gR [] cD (by simp) (by simp)
       ·exact gR [] cJ (by simp) (by simp)
       ·exact gR [] cG (by simp) (by simp)
       ·exact gR [] bX (by simp) (by simp)
       ·exact mT (mS hne ha.1 ha.2.1 ha.2.2.1 ha.2.2.2.1 ha.2.2.2.2)
    ·have hl0:r.last=cp:=hla;rw[if_neg (by decide)];by_cases ht:a=cD
     ·subst ht;rw[hl0,gR cp cD (by simp) (by simp),show(([([],cp),(cp,cD),(cD,cJ),(cJ,cG),(cG,cG),(cJ,bX),(cG,bX),(bX,bX)]:List (List UInt8×List UInt8)).contains (cp,cD))=true from by decide,if_pos rfl];show(rd3 1 r.h (cD::t)).2=(lg {r with last:=cD} (cD::t)).2∧((lg {r with last:=cD} (cD::t)).2=true→SameR 2 (rd3 1 r.h (cD::t)).1 (lg {r with last:=cD} (cD::t)).1);by_cases h3:t.length=2
      ·obtain⟨x,y,rfl⟩:∃x y,t=[x,y]:=by
        match t,h3 with
        |[x,y],_=>exact⟨x,y,rfl⟩
       rw[tY,if_pos rfl];refine⟨?_,fun _=>⟨rfl,rfl,fun _=>hn⟩⟩;show(mQ x y&&(cD==cD))=mQ x y;rw[show(cD==cD)=true from rfl,Bool.and_true]
      ·rw[sh (by simpa using h3),xZ (by simpa using h3)];exact⟨rfl,fun e=>by cases e⟩
     ·refine no _ ?_ (.inl ?_)
      ·unfold rd3;split
       ·rename_i a' x y he;simp only[zc5] at he;rw[if_pos rfl,←he.1];show(mQ x y&&(a==cD))=false;rw[show(a==cD)=false by simpa using ht,Bool.and_false]
       ·rfl
      ·rw[hl0];rcases TK a with rfl|rfl|rfl|rfl|rfl|ha
       ·exact gR cp cp (by simp) (by simp)
       ·exact absurd rfl ht
       ·exact gR cp cJ (by simp) (by simp)
       ·exact gR cp cG (by simp) (by simp)
       ·exact gR cp bX (by simp) (by simp)
       ·exact mT (mS hne ha.1 ha.2.1 ha.2.2.1 ha.2.2.2.1 ha.2.2.2.2)
    ·have hl0:r.last=cD:=hla;rw[if_neg (by decide)];by_cases ht:a=cJ
     ·subst ht;rw[hl0,gR cD cJ (by simp) (by simp),show(([([],cp),(cp,cD),(cD,cJ),(cJ,cG),(cG,cG),(cJ,bX),(cG,bX),(bX,bX)]:List (List UInt8×List UInt8)).contains (cD,cJ))=true from by decide,if_pos rfl];show(rd3 2 r.h (cJ::t)).2=(lg {r with last:=cJ} (cJ::t)).2∧((lg {r with last:=cJ} (cJ::t)).2=true→SameR 3 (rd3 2 r.h (cJ::t)).1 (lg {r with last:=cJ} (cJ::t)).1);by_cases h3:t.length=2
      ·obtain⟨x,y,rfl⟩:∃x y,t=[x,y]:=by
        match t,h3 with
        |[x,y],_=>exact⟨x,y,rfl⟩
       rw[tY,if_neg (by decide),if_pos rfl];refine⟨?_,fun _=>⟨rfl,?_,fun h=>absurd h (by decide)⟩⟩
       ·show(mQ x y&&(cJ==cJ))=mQ x y;rw[show(cJ==cJ)=true from rfl,Bool.and_true]
       ·show cJ=lJ 3 {r with cup:=ry x y,last:=cJ};unfold lJ;rw[if_neg (by decide),if_neg (by decide),if_neg (by decide)];show cJ=if r.areas.isEmpty then(if r.line.isEmpty then cJ else cG) else bX
        rw[hn.1,hn.2];rfl
      ·rw[sh (by simpa using h3),xZ (by simpa using h3)];exact⟨rfl,fun e=>by cases e⟩
     ·refine no _ ?_ (.inl ?_)
      ·unfold rd3;split
       ·rename_i a' x y he;simp only[zc5] at he;rw[if_neg (by decide),if_pos rfl,←he.1];show(mQ x y&&(a==cJ))=false;rw[show(a==cJ)=false by simpa using ht,Bool.and_false]
       ·rfl
      ·rw[hl0];rcases TK a with rfl|rfl|rfl|rfl|rfl|ha
       ·exact gR cD cp (by simp) (by simp)
       ·exact gR cD cD (by simp) (by simp)
       ·exact absurd rfl ht
       ·exact gR cD cG (by simp) (by simp)
       ·exact gR cD bX (by simp) (by simp)
       ·exact mT (mS hne ha.1 ha.2.1 ha.2.2.1 ha.2.2.2.1 ha.2.2.2.2)
   ·have hi0:i≠0:=by omega
    have hi1:i≠1:=by omega
    have hi2:i≠2:=by omega
    rw[if_neg hi0,if_pos (by omega)];have hl0:r.last=if r.areas.isEmpty then(if r.line.isEmpty then cJ else cG) else bX:=by
     rw[hla];unfold lJ;rw[if_neg hi0,if_neg hi1,if_neg hi2]
    have hl3:r.last=cJ∨r.last=cG∨r.last=bX:=by
     rw[hl0];split
     ·split
      ·exact .inl rfl
      ·exact .inr (.inl rfl)
     ·exact .inr (.inr rfl)
    have hfw:∀a∈[cp,cD,cJ],ji r.last a=false:=fun a ha=>by
     have hm:a∈[cp,cD,cJ,cG,bX]:=by
      simp only[List.mem_cons,List.not_mem_nil,or_false] at ha ⊢;rcases ha with h|h|h
      ·exact .inl h
      ·exact .inr (.inl h)
      ·exact .inr (.inr (.inl h))
     rw[gR _ a hmem hm];simp only[List.mem_cons,List.not_mem_nil,or_false] at ha;rcases hl3 with h|h|h<;>rcases ha with rfl|rfl|rfl<;>rw[h]<;>decide
    have hfv:ji r.last cG=r.areas.isEmpty:=by
     rw[gR _ cG hmem (by simp),hl0];cases r.areas.isEmpty
     ·rfl
     ·cases r.line.isEmpty<;>rfl
    have hfa:ji r.last bX=true:=by
     rw[gR _ bX hmem (by simp)];rcases hl3 with h|h|h<;>rw[h]<;>decide
    by_cases hA:a=bX
    ·subst hA;rw[hfa,if_pos rfl];cases t with
     |nil=>exact⟨rfl,fun e=>by cases e⟩
     |cons k ws=>
      show(KM r.h k (dQ ws)).2=(DZ {r with last:=bX} k (dQ ws)).2∧((DZ {r with last:=bX} k (dQ ws)).2=true→SameR (i+1) (KM r.h k (dQ ws)).1 (DZ {r with last:=bX} k (dQ ws)).1);cases dQ ws with
      |none=>exact⟨rfl,fun e=>by cases e⟩
      |some c=>
       refine⟨rfl,fun _=>⟨?_,?_,fun h=>absurd h (by omega)⟩⟩
       ·show jF r.h k c=_;rw[OS];rfl
       ·show bX=lJ (i+1) {r with areas:=r.areas++[(k,c)],last:=bX};unfold lJ;rw[if_neg (by omega),if_neg (by omega),if_neg (by omega)];simp
    ·have hA':(a==bX)=false:=by simpa using hA
     have hm3:OV i r.h (a::t)=rd3 i r.h (a::t):=by
      cases t with
      |nil=>rw[sh (by simp)];rfl
      |cons k rr=>
       show(if a==bX then KM r.h k (dQ rr) else rd3 i r.h (a::k::rr))=_;rw[hA',if_neg (by decide)]
     rw[hm3];by_cases hV:a=cG
     ·subst hV;rw[hfv];by_cases h3:t.length=2
      ·obtain⟨x,y,rfl⟩:∃x y,t=[x,y]:=by
        match t,h3 with
        |[x,y],_=>exact⟨x,y,rfl⟩
       rw[tY,if_neg hi1,if_neg hi2,OT];cases hae:r.areas.isEmpty with
       |false=>
        rw[if_neg (by decide)];refine⟨?_,fun e=>by cases e⟩;show(mQ x y&&(true&&false))=false;simp
       |true=>
        rw[if_pos rfl];show(mQ x y&&(true&&true))=mQ x y∧(mQ x y=true→SameR (i+1) (tX r.h (ry x y)) {r with last:=cG,line:=r.line++[ry x y]});refine⟨by simp,fun _=>⟨?_,?_,fun h=>absurd h (by omega)⟩⟩
        ·rw[SN];rfl
        ·show cG=lJ (i+1) {r with last:=cG,line:=r.line++[ry x y]};unfold lJ;rw[if_neg (by omega),if_neg (by omega),if_neg (by omega)];show cG=if r.areas.isEmpty then(if(r.line++[ry x y]).isEmpty then cJ else cG) else bX
         rw[hae];simp
      ·rw[sh (by simpa using h3)];have:(if r.areas.isEmpty then m7 {r with last:=cG} cG t else(r,false)).2=false:=by
        cases r.areas.isEmpty
        ·rfl
        ·show(lg {r with last:=cG} (cG::t)).2=false;rw[xZ (by simpa using h3)]
       rw[this];exact⟨rfl,fun e=>by cases e⟩
     ·refine no _ ?_ (.inl ?_)
      ·unfold rd3;split
       ·rename_i a' x y he;simp only[zc5] at he;rw[if_neg hi1,if_neg hi2,←he.1];show(mQ x y&&((a==cG)&&_))=false;rw[show(a==cG)=false by simpa using hV,Bool.false_and,Bool.and_false]
       ·rfl
      ·rcases TK a with rfl|rfl|rfl|rfl|rfl|ha
       ·exact hfw _ (by simp)
       ·exact hfw _ (by simp)
       ·exact hfw _ (by simp)
       ·exact absurd rfl hV
       ·exact absurd rfl hA
       ·exact mT (mS hne ha.1 ha.2.1 ha.2.2.1 ha.2.2.2.1 ha.2.2.2.2)
theorem t8:∀(t:List (List UInt8)) (i:Nat) (h:Hl) (r:Rd),SameR i h r→(∃k,iI i h t= .inl k∧qk i r t= .inl k)∨∃h' r',iI i h t= .inr h'∧qk i r t= .inr r'∧SameR (i+t.length) h' r'
 |[],i,h,r,hs=> .inr ⟨h,r,rfl,rfl,hs⟩
 |l::t,i,h,r,hs=>by
  obtain⟨h1,h2⟩:=EZ hs l;rw[eG,wl,h1];cases hb:(t7 r l).2 with
  |false=>exact .inl ⟨i+1,rfl,rfl⟩
  |true=>
   rw[if_pos rfl,if_pos rfl];have:=t8 t (i+1) _ _ (h2 hb);rw[show i+(l::t).length=i+1+t.length by simp;omega];exact this
theorem Md:SameR 0 h00 r00:=⟨rfl,rfl,fun _=>⟨rfl,rfl⟩⟩
theorem E3{l:List UInt8}(h:xY l):Hg l:=fun r' e=>by
 rcases t8 (cC l) 0 h00 r00 Md with⟨k,h1,h2⟩|⟨h',r2,h1,h2,h3⟩
 ·rw[h2] at e;cases e
 ·rw[h2] at e;cases e;rw[←h3.h];exact h h' h1
theorem OW(l:List UInt8):Hh l=jX l:=by
 unfold Hh jX;split
 ·rfl
 ·unfold G7;split
  ·show SL (cC l).length (qk 0 r00 (cC l))=zV (cC l).length (iI 0 h00 (cC l));have hpos:0<(cC l).length:=List.length_pos_iff.2 (mc 10 _);rcases t8 (cC l) 0 h00 r00 Md with⟨k,h1,h2⟩|⟨h',r',h1,h2,h3⟩
   ·rw[h1,h2];rfl
   ·rw[h1,h2];generalize (cC l).length=n at*;rw[Nat.zero_add] at h3;obtain⟨rfl,hla,_⟩:=h3;unfold SL zV;dsimp only;rw[hla,qe];rcases Nat.lt_or_ge n 3 with hn|hn
    ·rw[if_pos hn];rcases(show n=1∨n=2 by omega) with rfl|rfl<;>rfl
    ·rw[if_neg (by omega:¬n<3)];have hq:(lJ n r'==cp||lJ n r'==cD)=false:=by
      unfold lJ;rw[if_neg (by omega),if_neg (by omega),if_neg (by omega)];split
      ·split<;>decide
      ·decide
     rw[hq];rfl
  ·rfl
def jnW(ws:List (List UInt8)):List UInt8:=Lib.join ws [32]
def fV(ws:List (List UInt8)):List UInt8:=jnW ws++[10]
theorem SO{f:Bool}(ws:List (List UInt8))(hl:ws.length≤1000000)(hj:(jnW ws).length≤140737488355328):OK2 124 [.slc f ws.length (ws.map SB),SB [32]] (SB (jnW ws)):=by
 refine⟨enters_of Tryz.func124 (by kernel_rfl) rfl,fun I w vs hI hgl hvl hr=> ?_⟩;obtain⟨v0,v1,rfl⟩:=kq hvl;have h1:=(hr 1 (SB [32]) v1 rfl rfl).toV (u:= .string (bs [32])) rfl;subst h1;have h0:=hr 0 _ v0 rfl rfl;have hm:(ws.map bs).map (·.data.toList)=ws:=by
  rw[List.map_map]
  conv=>rhs;rw[←List.map_id ws]
  exact List.map_congr_left fun x _=>dY x
 have hnil:∀(a:Option Addr) (c:Nat),ws=[]→Calls Tryz.prog 124 #[.slice a 0 c,.string (bs [32])] w fun en w'=>∃v,en= .returned v∧RelC (fun b=>I b∨(w.heap.size≤b∧b<w'.heap.size)) w' (SB (jnW ws)) v∧Blw (·<w.heap.size) w w':=fun a c e=>by
  subst e;refine(Any.strings_Join_none (ρ:=Tryz.lays156_ren) {Tryz.lays156 with} Tryz.Builder_Extra_156 a c (bs [32]) w).mono ?_
  rintro en w' ⟨rfl,rfl⟩
  exact⟨_,rfl,.str _,.refl _ _⟩
 generalize hd:D.slc f ws.length (ws.map SB)=d at h0;cases h0 with
 |slcn=>
  simp only[D.slc.injEq] at hd;exact hnil none 0 (List.length_eq_zero_iff.1 hd.2.1)
 |slc full len cs a cap us hIb hf hle hc hrr=>
  simp only[D.slc.injEq] at hd;obtain⟨rfl,rfl,rfl⟩:=hd;by_cases hws:ws=[]
  ·rw[show ws.length=0 by rw[hws];rfl];exact hnil (some a) cap hws
  ·obtain⟨x,r,hws⟩:∃x r,ws=x::r:=List.exists_cons_of_ne_nil hws;have hcell:∀(j:Nat) (y:List UInt8),ws[j]?=some y→w.cell? (a.add j)=some (.string (bs y)):=fun j y hj=>by
    have hd:(ws.map SB)[j]?=some (SB y):=by rw[zc3,hj];rfl
    rw[hc j _ hd];have:=(hrr j _ hd).toV (u:= .string (bs y)) rfl;rw[this]
   have h00:=hcell 0 x (by rw[hws];rfl);rw[Addr.add_zero'] at h00;have hsp:=vV h00;obtain⟨bk,o,sp⟩:=a;obtain rfl:sp=none:=hsp;have hbk:bk<w.heap.size:=hI bk (hIb (by rw[hws];simp));have hJ:=Any.strings_Join (ρ:=Tryz.lays156_ren) {Tryz.lays156 with} Tryz.Builder_Extra_156 bk o cap (ws.map bs) (bs [32]) w (fun j y hj=>by
    rw[zc3] at hj;cases hx:ws[j]? with
    |none=>rw[hx] at hj;cases hj
    |some z=>
     rw[hx] at hj;cases hj;have:=hcell j z hx
     rwa [eZ] at this) hbk (by rw[zc2];omega) (by rw[zc2];exact hle) (by rw[hm,dY];exact hj)
   rw[hm,dY,zc2] at hJ;refine hJ.mono ?_
   rintro en w' ⟨rfl,hb⟩
   exact⟨_,rfl,.str _,Blw.of_below hb⟩
 |_=>cases hd
def KX:Option (List UInt8)→List D
 |none=>[]
 |some l=>[.tup [],.slc false l.length (yQ l)]
def IL:Option (List UInt8)→List UInt8
 |none=>[]
 |some l=>l
abbrev jy(l:List UInt8):List D:=[.tup [],.slc false l.length (yQ l)]
theorem KY{a b:List UInt8}(h:yQ a=yQ b):a=b:=by
 unfold yQ at h
 induction a generalizing b with
 |nil=>cases b with
  |nil=>rfl
  |cons y b=>cases h
 |cons x a ih=>cases b with
  |nil=>cases h
  |cons y b=>
   simp only[List.map_cons,zc5,D.int.injEq,true_and] at h;rw[ih h.2,UInt8.toNat_inj.1 (Int.ofNat.inj h.1)]
theorem D0{a b:Option (List UInt8)}(h:KX a=KX b):a=b:=by
 cases a<;>cases b
 ·rfl
 ·cases h
 ·cases h
 ·simp only[KX,zc5,D.slc.injEq,true_and,and_true] at h;rw[KY h.2]
theorem Hk:eh Tryz.prog O0 Tryz.f122=true:=by kernel_rfl
theorem D1:gM 1 Tryz.f122=true:=by kernel_rfl
theorem SP{f:Bool}(o:Option (List UInt8))(ws:List (List UInt8))(hl:ws.length≤1000000)(hj:(IL o++fV ws).length≤100000000000):
  PbC Tryz.prog ig 122 1 194 lQ lQ [.slc f ws.length (ws.map SB),.nils] (KX o) (jy (IL o++fV ws)) (.tup []):=by
 have hlv:(fV ws).length=(jnW ws).length+1:=by unfold fV;simp
 rw[za6] at hj;have hpos:0<(fV ws).length:=by omega
 obtain⟨B,hB,e1,_⟩:=fP [one 124 [.slc f ws.length (ws.map SB),SB [32]] (SB (jnW ws))] ⟨bM (SO ws hl (by omega)) rfl,trivial⟩ rfl;have hs:bs (jnW ws)++ByteArray.mk #[10]=bs (fV ws):=by rw[show ByteArray.mk #[10]=bs [10] from rfl,c8];rfl
 have key:∀(mu:FuncId→List D→Option D) (cl:List D) (t:List UInt8),mu 123 [.agg cl,SB (fV ws)]=some (.tup [.agg (jy t),.tup [.int .i64 ((fV ws).length:Int),.nilif]])→
   (bB (bw B 124 [D.slc f ws.length (ws.map SB),D.str (ByteArray.mk #[32])]) fun r=>bU r fun s=>bH (!decide (((ByteArray.size s+1):Int)>9223372036854775807)) (bB (mu 123 [D.agg cl,D.str (s++ByteArray.mk #[10])]) fun r_1=>cy r_1 2 fun c=>bu c 0 fun d=>dq d 2 fun c_1=>bu c 1 fun d_1=>cy d_1 2 fun c_2=>bu c_2 0 fun d_2=>bD .i64 d_2 fun _x=>bu c_2 1 fun d_3=>bB (CR d_3) fun _=>
    bu c_1 0 fun d_4=>cy d_4 0 fun _c_3=>bu c_1 1 fun d_5=>jY d_5 (some (D.tup [D.agg [D.tup [],D.nils],D.tup []])) fun f n c_4=>bH (!f) (some (D.tup [D.agg [D.tup [],D.slc false n c_4],D.tup []]))))=some (.tup [.agg (jy t),.tup []]):=fun mu cl t hm=>by
  refine bI (show bw B 124 [.slc f ws.length (ws.map SB),SB [32]]=some (SB (jnW ws)) from e1 ()) ?_;rw[bP,bL,za2 (by omega),hs,hm];rfl
 cases o with
 |none=>
  have h123:=Or .nils (bs (fV ws)) (by rw[bL];simp[IL] at hj;omega) (by rw[bL];exact hpos);rw[bL,dY] at h123;obtain⟨mu,hmu,m1,_⟩:=PM [EY 123 [.nils,SB (fV ws)] 0 [] (jy (fV ws)) (.tup [.int .i64 ((fV ws).length:Int),.nilif])] ⟨kw (p:=0) (ks:=lQ) rfl (Nat.zero_lt_succ _) h123,trivial⟩ rfl;show IH Tryz.prog ig 122 1 194 lQ _ (jy (fV ws)) _;exact Wn hB hmu Tryz.func122 (ord:=O0) (N:=N0) Hk D1 rfl ((GQ _ _ _ _ _ _ _).trans (key mu [] (fV ws) (m1 ())))
 |some l=>
  have hj:l.length+(fV ws).length≤100000000000:=hj;have h123:=Oq .nils (bs (fV ws)) l (by rw[bL];omega) (by rw[bL];omega);rw[bL,dY,←za6] at h123;obtain⟨mu,hmu,m1,_⟩:=PM [EY 123 [.nils,SB (fV ws)] 0 (jy l) (jy (l++fV ws)) (.tup [.int .i64 ((fV ws).length:Int),.nilif])] ⟨kw (p:=0) rfl (Nat.zero_lt_succ _) h123,trivial⟩ rfl;show uZ Tryz.prog ig 122 1 lQ lQ _ (jy l) (jy (l++fV ws)) _;exact SE hB hmu Tryz.func122 (ord:=O0) (N:=N0) (st:=[0]) Hk D1 rfl ((GR _ _ _ _ _ _ _ _ _).trans (key mu (jy l) (l++fV ws) (m1 ())))
theorem SR(l:List UInt8):uZ Tryz.prog ig 126 0 lQ lQ [.nils] (jy l) (jy l) (.int .i64 (l.length:Int)):=
 SE cK OE Tryz.func126 (ord:=O0) (N:=N0) (st:=[1]) (by kernel_rfl) (by kernel_rfl) rfl (GS _ _ _ _ _ _)
def fam122:PFam:=⟨122,{p:Bool×Option (List UInt8)×List (List UInt8)//p.2.2.length≤1000000∧(IL p.2.1++fV p.2.2).length≤100000000000},fun p=>[.slc p.1.1 p.1.2.2.length (p.1.2.2.map SB),.agg (KX p.1.2.1)],fun p=> .tup [.agg (jy (IL p.1.2.1++fV p.1.2.2)),.tup []]⟩
theorem wm:∀{a b:List (List UInt8)},a.map SB=b.map SB→a=b
 |[],[],_=>rfl
 |[],_::_,h=>by cases h
 |_::_,[],h=>by cases h
 |x::a,y::b,h=>by
  simp only[List.map_cons,zc5,D.str.injEq] at h;rw[eE h.1,wm h.2]
theorem Ag:fam122.Good:=⟨fun p=>⟨1,194,lQ,lQ,[.slc p.1.1 p.1.2.2.length (p.1.2.2.map SB),.nils],KX p.1.2.1,jy (IL p.1.2.1++fV p.1.2.2),.tup [],rfl,by show 1<2;decide,rfl,rfl,SP p.1.2.1 p.1.2.2 p.2.1 p.2.2⟩,fun x y e=>by
 have e:[D.slc x.1.1 x.1.2.2.length (x.1.2.2.map SB),.agg (KX x.1.2.1)]=[D.slc y.1.1 y.1.2.2.length (y.1.2.2.map SB),.agg (KX y.1.2.1)]:=e;simp only[zc5,D.slc.injEq,D.agg.injEq,and_true] at e;show D.tup [.agg (jy (IL x.1.2.1++fV x.1.2.2)),.tup []]=D.tup [.agg (jy (IL y.1.2.1++fV y.1.2.2)),.tup []];rw[wm e.1.2.2,D0 e.2]⟩
def fam126:PFam:=⟨126,List UInt8,fun l=>[.agg (jy l)],fun l=> .tup [.agg (jy l),.int .i64 (l.length:Int)]⟩
theorem D2{a b:List UInt8}(h:jy a=jy b):a=b:=Option.some.inj (D0 (a:=some a) (b:=some b) h)
theorem Ah:fam126.Good:=⟨fun l=>⟨0,194,lQ,lQ,[.nils],jy l,jy l,.int .i64 (l.length:Int),rfl,Nat.zero_lt_succ _,rfl,rfl,SR l⟩,fun(x y:List UInt8) e=>by
 have e:[D.agg (jy x)]=[D.agg (jy y)]:=e;have e2:jy x=jy y:=by simpa using e
 show D.tup [.agg (jy x),.int .i64 (x.length:Int)]=D.tup [.agg (jy y),.int .i64 (y.length:Int)];rw[D2 e2]⟩
def fam127:PFam:=⟨127,{l:List UInt8//l≠[]},fun l=>[.agg (jy l.1)],fun l=> .tup [.agg [.tup [],.junk],SB l.1]⟩
theorem Ai:fam127.Good:=⟨fun l=>⟨0,194,lQ,TG,[.nils],jy l.1,[.tup [],.junk],SB l.1,rfl,Nat.zero_lt_succ _,rfl,rfl,Ot .nils l.1 l.2⟩,fun x y e=>by
 have e:[D.agg (jy x.1)]=[D.agg (jy y.1)]:=e;have e2:jy x.1=jy y.1:=by simpa using e
 show D.tup [.agg [.tup [],.junk],SB x.1]=D.tup [.agg [.tup [],.junk],SB y.1];rw[D2 e2]⟩
def dC(n:Int):List UInt8:=rx n++iq n.natAbs
def dl(s:ByteArray):List UInt8:=s.data.toList
theorem lK(s:ByteArray):bs (dl s)=s:=DN s
def kx(p:Pt):List UInt8:=fV [cG,dC p.1,dC p.2]
def ky(p:Pt):List UInt8:=dC p.1++[44]++dC p.2
def fB(a:Ar):List (List UInt8):=bX::dl a.1::a.2.2.map ky
def gm(h:Hl):List UInt8:=fV [cp,dl h.name]++fV [cD,dC h.tee.1,dC h.tee.2]++fV [cJ,dC h.cup.1,dC h.cup.2]
def o9(h:Hl):List UInt8:=gm h++h.line.flatMap kx++h.areas.flatMap fun a=>fV (fB a)
def Hm(p:Pt):Prop:=p.1.natAbs≤1000000000∧p.2.natAbs≤1000000000
structure Pr(h:Hl):Prop where
 tee:Hm h.tee
 cup:Hm h.cup
 line:∀p∈h.line,Hm p
 cor:∀a∈h.areas,∀p∈a.2.2,Hm p
 len:(o9 h).length≤1000000000
def fam125:Fam:=⟨125,{n:Int//n.natAbs≤1000000000},fun n=>[.int .i64 n.1],fun n=>SB (dC n.1)⟩
theorem Aj:fam125.Good:=⟨fun n=>Sh n.1 ⟨by have:=n.2;omega,by have:=n.2;omega⟩,fun x y e=>by
 have e:[D.int .i64 x.1]=[D.int .i64 y.1]:=e;simp only[zc5,D.int.injEq,true_and,and_true] at e;show SB (dC x.1)=SB (dC y.1);rw[e],fun _=>rfl⟩
theorem ik{n:Int}(h:n.natAbs≤1000000000):1≤(dC n).length∧(dC n).length≤11:=by
 have h1:=l9 (n:=n.natAbs) (k:=10) (by omega) (by decide);unfold dC;rw[za6];have:(rx n).length≤1:=by unfold rx;split<;>simp
 omega
section
variable {call mu:FuncId→List D→Option D}{h:Hl}
def KZ(call:CL):Prop:=∀n:Int,n.natAbs≤1000000000→call 125 [.int .i64 n]=some (SB (dC n))
def K0(mu:FuncId→List D→Option D):Prop:=∀(f:Bool) (o:Option (List UInt8)) (ws:List (List UInt8)),ws.length≤1000000→(IL o++fV ws).length≤100000000000→mu 122 [.slc f ws.length (ws.map SB),.agg (KX o)]=some (.tup [.agg (jy (IL o++fV ws)),.tup []])
abbrev OX(l:List UInt8):Ow:= .own l.length (yQ l)
theorem SS(h125:KZ call)(h122:K0 mu)(hl:h.line.length≤1000):∀(r pre:List Pt) (l:List UInt8) (fuel:Nat),pre++r=h.line→(∀p∈r,Hm p)→(l++r.flatMap kx).length≤1000000000→r.length<fuel→
  eF call mu LL C1 fuel h.lf h.line.length (bJ h.line) h.name h.tee.1 h.tee.2 h.cup.1 h.cup.2 h.af h.areas.length (bV h.areas) (h.line.length:Int) (pre.length:Int) (OX l)=fU call mu LL C1 LL h.af h.areas.length (bV h.areas) (h.areas.length:Int) 0 (OX (l++r.flatMap kx)):=by
 intro r
 induction r with
 |nil=>
  intro pre l fuel hn hp hb hf;obtain⟨fuel,rfl⟩:∃n,fuel=n+1:=⟨fuel-1,by omega⟩;have hlen:pre.length=h.line.length:=by rw[←hn];simp
  rw[oP,hlen,dH,bv];simp
 |cons x r ih=>
  intro pre l fuel hn hp hb hf;obtain⟨fuel,rfl⟩:∃n,fuel=n+1:=⟨fuel-1,by omega⟩;rw[List.flatMap_cons] at hb ⊢;have ih:=ih (pre++[x]) (l++kx x) fuel (by rw[gb];exact hn) (fun p hm=>hp p (by simp[hm])) (by simpa using hb) (by simp at hf;omega);rw[za6,zb4] at ih;have hlt:pre.length<h.line.length:=by rw[←hn];simp
  have c0:∀k:D→Option D,bu (bJ h.line) (Int.toNat (pre.length:Int)*2+0) k=k (.int .i64 x.1):=fun k=>by rw[←hn];exact q0 pre x r
  have c1':∀k:D→Option D,bu (bJ h.line) (Int.toNat (pre.length:Int)*2+1) k=k (.int .i64 x.2):=fun k=>by rw[←hn];exact q1 pre x r
  have hx:=hp x (by simp);have g:=h122 true (some l) [cG,dC x.1,dC x.2] (by show 3≤1000000;decide) (by
   rw[za6,za6] at hb;show(l++kx x).length≤_;rw[za6];omega)
  rw[oP,dP hlt,bx,c5 hlt,bC,c0,bF,c1',bF,h125 x.1 hx.1,bA,bP,h125 x.2 hx.2,bA,bP];refine bI g ?_;show eF call mu LL C1 fuel h.lf h.line.length (bJ h.line) h.name h.tee.1 h.tee.2 h.cup.1 h.cup.2 h.af h.areas.length (bV h.areas) (h.line.length:Int) (IntKind.wrap .i64 ((pre.length:Int)+1)) (OX (l++kx x))=_;rw[show IntKind.wrap .i64 ((pre.length:Int)+1)=((pre.length+1:Nat):Int) from cE _ 1 (by omega),ih,za8]
def TL(f:Bool)(ws:List (List UInt8)):Ow:=match f with
 |true=> .slc true ws.length (ws.map SB)
 |false=> .own ws.length (ws.map SB)
theorem ST(h125:KZ call)(h122:K0 mu){n2:Nat}{t67:Int}{cf:Bool}{cs:List Pt}(hcl:cs.length≤1000):∀(r pre:List Pt) (f:Bool) (ws:List (List UInt8)) (l:List UInt8) (fuel:Nat),pre++r=cs→(∀p∈r,Hm p)→ws.length≤pre.length+2→(l++fV (ws++r.map ky)).length≤1000000000→r.length<fuel→
  dL call mu LL C1 n2 fuel h.af h.areas.length (bV h.areas) (h.areas.length:Int) t67 (TL f ws) cf cs.length (bJ cs) (cs.length:Int) (pre.length:Int) (OX l)=fU call mu LL C1 n2 h.af h.areas.length (bV h.areas) (h.areas.length:Int) (IntKind.wrap .i64 (t67+1)) (OX (l++fV (ws++r.map ky))):=by
 intro r
 induction r with
 |nil=>
  intro pre f ws l fuel hn hp hw hb hf;obtain⟨fuel,rfl⟩:∃n,fuel=n+1:=⟨fuel-1,by omega⟩;have hlen:pre.length=cs.length:=by rw[←hn];simp
  rw[List.map_nil,zb6] at hb ⊢;have g:=fun f=>h122 f (some l) ws (by omega) (by show(l++fV ws).length≤_;omega);cases f with
  |true=>
   show dL call mu LL C1 n2 (fuel+1) h.af h.areas.length (bV h.areas) (h.areas.length:Int) t67 (.slc true ws.length (ws.map SB)) _ _ _ _ _ _=_;rw[kk,hlen,dH,bv];exact bI (g true) rfl
  |false=>
   show dL call mu LL C1 n2 (fuel+1) h.af h.areas.length (bV h.areas) (h.areas.length:Int) t67 (.own ws.length (ws.map SB)) _ _ _ _ _ _=_;rw[kj,hlen,dH,bv];exact bI (g false) rfl
 |cons x r ih=>
  intro pre f ws l fuel hn hp hw hb hf;obtain⟨fuel,rfl⟩:∃n,fuel=n+1:=⟨fuel-1,by omega⟩;have e1:ws++(x::r).map ky=(ws++[ky x])++r.map ky:=by simp
  rw[e1] at hb ⊢;have ih:=ih (pre++[x]) false (ws++[ky x]) l fuel (by rw[gb];exact hn) (fun p hm=>hp p (by simp[hm])) (by simp;omega) hb (by simp at hf;omega);rw[za6,zb4] at ih;have hlt:pre.length<cs.length:=by rw[←hn];simp
  have c0:∀k:D→Option D,bu (bJ cs) (Int.toNat (pre.length:Int)*2+0) k=k (.int .i64 x.1):=fun k=>by rw[←hn];exact q0 pre x r
  have c1':∀k:D→Option D,bu (bJ cs) (Int.toNat (pre.length:Int)*2+1) k=k (.int .i64 x.2):=fun k=>by rw[←hn];exact q1 pre x r
  have hx:=hp x (by simp);have hl1:=ik hx.1;have hl2:=ik hx.2;have hcor:bs (dC x.1)++ByteArray.mk #[44]++bs (dC x.2)=bs (ky x):=by rw[show ByteArray.mk #[44]=bs [44] from rfl,c8,c8];rfl
  have hcz:ByteArray.size (bs (dC x.1)++ByteArray.mk #[44])=(dC x.1).length+1:=by rw[show ByteArray.mk #[44]=bs [44] from rfl,c8,bL];simp
  have ls:=G5 (n:=ws.length+1) (by omega);have hnew:Ow.own (ws.length+1) (ws.map SB++[D.str (bs (ky x))])=TL false (ws++[ky x]):=by unfold TL;simp
  have hwr:IntKind.wrap .i64 ((pre.length:Int)+1)=((pre.length+1:Nat):Int):=cE _ 1 (by omega);cases f with
  |true=>
   show dL call mu LL C1 n2 (fuel+1) h.af h.areas.length (bV h.areas) (h.areas.length:Int) t67 (.slc true ws.length (ws.map SB)) _ _ _ _ _ _=_;rw[kk,dP hlt,bx,c5 hlt,bC,c0,bF,c1',bF,h125 x.1 hx.1,bA,bP,bL,za2 (by omega),show(!false)=true from rfl,bC,h125 x.2 hx.2,bA,bP,hcz,bL,za2 (by omega),show(!false)=true from rfl,bC,bC,hcor,hnew,hwr];exact bK (za1 ⟨by decide,by simp,ls.1,by omega⟩) ih
  |false=>
   show dL call mu LL C1 n2 (fuel+1) h.af h.areas.length (bV h.areas) (h.areas.length:Int) t67 (.own ws.length (ws.map SB)) _ _ _ _ _ _=_;rw[kj,dP hlt,bx,c5 hlt,bC,c0,bF,c1',bF,h125 x.1 hx.1,bA,bP,bL,za2 (by omega),show(!false)=true from rfl,bC,h125 x.2 hx.2,bA,bP,hcz,bL,za2 (by omega),show(!false)=true from rfl,bC,hcor,hnew,hwr];exact bK (za1 ⟨ls.1,by omega⟩) ih
def Me(l:List UInt8):D:=if 4096<l.length then .tup [SB [],.int .i64 26] else .tup [SB l,.int .i64 0]
theorem SU(h125:KZ call)(h122:K0 mu)(h126:∀l:List UInt8,mu 126 [.agg (jy l)]=some (.tup [.agg (jy l),.int .i64 (l.length:Int)]))(h127:∀l:List UInt8,l≠[]→mu 127 [.agg (jy l)]=some (.tup [.agg [.tup [],.junk],SB l]))(hk:h.Ok):∀(r pre:List Ar) (l:List UInt8) (fuel:Nat),pre++r=h.areas→(∀a∈r,∀p∈a.2.2,Hm p)→l≠[]→(l++r.flatMap fun a=>fV (fB a)).length≤1000000000→r.length<fuel→
  fU call mu LL C1 fuel h.af h.areas.length (bV h.areas) (h.areas.length:Int) (pre.length:Int) (OX l)=some (Me (l++r.flatMap fun a=>fV (fB a))):=by
 intro r;have hal:=hk.a
 induction r with
 |nil=>
  intro pre l fuel hn hp hne hb hf;obtain⟨fuel,rfl⟩:∃n,fuel=n+1:=⟨fuel-1,by omega⟩;have hlen:pre.length=h.areas.length:=by rw[←hn];simp
  rw[List.flatMap_nil,zb6] at hb ⊢;rw[oO,hlen,dH,bv];refine bI (h126 l) ?_;show bz (decide ((l.length:Int)>4096)) (some (D.tup [SB [],.int .i64 26])) (bB (mu 127 [.agg (jy l)]) _)=_;unfold Me;by_cases h96:4096<l.length
  ·rw[za1 (by omega),bx,if_pos h96]
  ·rw[za2 (by omega),bv,if_neg h96];exact bI (h127 l hne) rfl
 |cons x r ih=>
  intro pre l fuel hn hp hne hb hf;obtain⟨fuel,rfl⟩:∃n,fuel=n+1:=⟨fuel-1,by omega⟩;rw[List.flatMap_cons] at hb ⊢;have ih:=ih (pre++[x]) (l++fV (fB x)) fuel (by rw[gb];exact hn) (fun a hm=>hp a (by simp[hm])) (by simp[hne]) (by simpa using hb) (by simp at hf;omega);rw[za6,zb4] at ih;have hlt:pre.length<h.areas.length:=by rw[←hn];simp
  have c0:∀k:D→Option D,bu (bV h.areas) (Int.toNat (pre.length:Int)*2+0) k=k (.str x.1):=fun k=>by rw[←hn];exact a0 pre x r
  have c1':∀k:D→Option D,bu (bV h.areas) (Int.toNat (pre.length:Int)*2+1) k=k (.slc x.2.1 x.2.2.length (bJ x.2.2)):=fun k=>by rw[←hn];exact a1 pre x r
  have hcl:x.2.2.length≤1000:=hk.c x (by rw[←hn];simp);have g:=ST (call:=call) (mu:=mu) (h:=h) h125 h122 (n2:=fuel) (t67:=(pre.length:Int)) (cf:=x.2.1) (cs:=x.2.2) hcl x.2.2 [] true [bX,dl x.1] l LL rfl (hp x (by simp)) (zb0 2) (by
   rw[za6,za6] at hb;show(l++fV (fB x)).length≤_;rw[za6];omega) (by unfold LL;omega)
  have hw:TL true [bX,dl x.1]=Ow.slc true 2 [D.str (ByteArray.mk #[97,114,101,97]),D.str x.1]:=by
   show Ow.slc true 2 [_,SB (dl x.1)]=_;rw[show SB (dl x.1)=D.str x.1 by show D.str (bs (dl x.1))=_;rw[lK]];rfl
  rw[hw,show(([]:List Pt).length:Int)=0 from rfl] at g;rw[oO,dP hlt,bx,c5 hlt,bC,c0,bP,c1',cL,g,show IntKind.wrap .i64 ((pre.length:Int)+1)=((pre.length+1:Nat):Int) from cE _ 1 (by omega)];show fU call mu LL C1 fuel h.af h.areas.length (bV h.areas) (h.areas.length:Int) ((pre.length+1:Nat):Int) (OX (l++fV (fB x)))=_;rw[ih,za8]
end
theorem ua{l:List UInt8}{A r:Option D}{K:Nat→List D→Option D}(h:K l.length (yQ l)=r):(cy (.tup [.agg (jy l),.tup []]) 2 fun c=>bu c 0 fun d=>dq d 2 fun c1=>bu c 1 fun d=>cy d 0 fun _=>bu c1 0 fun d=>cy d 0 fun _=>bu c1 1 fun d=>jY d A fun f n c=>bH (!f) (K n c))=r:=h
theorem gA{s:ByteArray}{r:Option D}{k:ByteArray→Option D}(h:k s=r):bU (.str s) k=r:=h
theorem SV:eh Tryz.prog PJ Tryz.f70=true:=by kernel_rfl
theorem VL(h:Hl)(hk:h.Ok)(hp:cv h=0→Pr h):OK2 70 [bQ h] (if cv h !=0 then .tup [SB [],.int .i64 (cv h)] else Me (o9 h)):=by
 obtain⟨B,hB,e1,e2,_⟩:=fP [one 21 [bQ h] (.int .i64 (cv h)),fam125] ⟨bM (Ge h hk) rfl,Aj,trivial⟩ rfl;obtain⟨mu,hmu,m1,m2,m3,_⟩:=PM [fam122,fam126,fam127] ⟨Ag,Ah,Ai,trivial⟩ rfl;have h125:KZ (bw B):=fun n hn=>e2 ⟨n,hn⟩;have h122:K0 mu:=fun f o ws q1 q2=>m1 ⟨(f,o,ws),q1,q2⟩;refine SD hB hmu Tryz.func70 (ord:=PJ) (N:=Si) SV ((Oc _ _ _ _ _ _ _ _ _ _ _ _ _ _ _).trans (bI (show bw B 21 [bQ h]=some (.int .i64 (cv h)) from e1 ()) ?_));rw[bF];cases hz:cv h !=0 with
 |true=>rfl
 |false=>
  rw[bv,if_neg (by decide)];have hP:=hp (by simpa using hz);have hlen:=hP.len;unfold o9 at hlen;have hl1:(gm h++h.line.flatMap kx).length≤1000000000:=by
   rw[za6] at hlen;omega
  have hv:=SS (call:=bw B) (mu:=mu) (h:=h) h125 h122 hk.l h.line [] (gm h) LL rfl hP.line hl1 (by have:=hk.l;unfold LL;omega);have ha:=SU (call:=bw B) (mu:=mu) (h:=h) h125 h122 (fun l=>m2 l) (fun l hne=>m3 ⟨l,hne⟩) hk h.areas [] (gm h++h.line.flatMap kx) LL rfl hP.cor (by unfold gm fV;simp) hlen (by have:=hk.a;unfold LL;omega);rw[show(([]:List Pt).length:Int)=0 from rfl] at hv;rw[show(([]:List Ar).length:Int)=0 from rfl] at ha;have hva:=hv.trans ha;have hpr:Me (gm h++h.line.flatMap kx++h.areas.flatMap fun a=>fV (fB a))=Me (o9 h):=rfl;rw[hpr] at hva;have hl0:(gm h).length≤1000000000:=by rw[za6] at hl1;omega
  obtain⟨l1,q1⟩:∃l,l=fV [cp,dl h.name]:=⟨_,rfl⟩;obtain⟨l2,q2⟩:∃l,l=l1++fV [cD,dC h.tee.1,dC h.tee.2]:=⟨_,rfl⟩;obtain⟨l3,q3⟩:∃l,l=l2++fV [cJ,dC h.cup.1,dC h.cup.2]:=⟨_,rfl⟩;have hh:gm h=l3:=by unfold gm;rw[q3,q2,q1]
  rw[hh] at hva hl0;have hl2:l2.length≤1000000000:=by rw[q3,za6] at hl0;omega
  have hl1':l1.length≤1000000000:=by rw[q2,za6] at hl2;omega
  have g1:mu 122 [D.slc true 2 [D.str (ByteArray.mk #[104,111,108,101]),D.str h.name],D.agg []]=some (.tup [.agg (jy l1),.tup []]):=by
   have g:=h122 true none [cp,dl h.name] (by show 2≤1000000;decide) (by show(fV [cp,dl h.name]).length≤_;rw[←q1];omega);have hn:SB (dl h.name)=D.str h.name:=by show D.str (bs (dl h.name))=_;rw[lK]
   rw[q1];rw[←hn];exact g
  have g2:mu 122 [D.slc true 3 [D.str (ByteArray.mk #[116,101,101]),SB (dC h.tee.1),SB (dC h.tee.2)],D.agg (jy l1)]=some (.tup [.agg (jy l2),.tup []]):=by
   have g:=h122 true (some l1) [cD,dC h.tee.1,dC h.tee.2] (by show 3≤1000000;decide) (by show(l1++fV [cD,dC h.tee.1,dC h.tee.2]).length≤_;rw[←q2];omega);rw[q2];exact g
  have g3:mu 122 [D.slc true 3 [D.str (ByteArray.mk #[99,117,112]),SB (dC h.cup.1),SB (dC h.cup.2)],D.agg (jy l2)]=some (.tup [.agg (jy l3),.tup []]):=by
   have g:=h122 true (some l2) [cJ,dC h.cup.1,dC h.cup.2] (by show 3≤1000000;decide) (by show(l2++fV [cJ,dC h.cup.1,dC h.cup.2]).length≤_;rw[←q3];omega);rw[q3];exact g
  have c1:=h125 _ hP.tee.1;have c2:=h125 _ hP.tee.2;have c3:=h125 _ hP.cup.1;have c4:=h125 _ hP.cup.2;clear hv ha hpr h122 h125 hh q1 q2 q3;generalize dC h.tee.1=a1 at*;generalize dC h.tee.2=a2 at*;generalize dC h.cup.1=a3 at*;generalize dC h.cup.2=a4 at*;exact bI g1 (ua (bI c1 (gA (bI c2 (gA (bI g2 (ua (bI c3 (gA (bI c4 (gA (bI g3 (ua hva)))))))))))))
theorem SW(n:Int)(h:n.natAbs≤1000000000):OK2 128 [.int .i64 n] (SB (dC n)):=by
 have h165:=Sg n (by omega);have hr:xO n 1=dC n:=by unfold xO;rw[zC (by omega),zb6];rfl
 obtain⟨B,hB,e1,_⟩:=fP [one 165 [.int .i64 n] (.str (R8 (n,1)))] ⟨bM h165 rfl,trivial⟩ rfl;refine dT hB Tryz.func128 (ord:=O0) (N:=N0) (by kernel_rfl) ((Kz _ _ _ _).trans (bI (e1 ()) ?_));show some (D.str (bs (xO n 1)))=_;rw[hr]
def fam128:Fam:=⟨128,{n:Int//n.natAbs≤1000000000},fun n=>[.int .i64 n.1],fun n=>SB (dC n.1)⟩
theorem Ak:fam128.Good:=⟨fun n=>SW n.1 n.2,fun x y e=>by
 have e:[D.int .i64 x.1]=[D.int .i64 y.1]:=e;simp only[zc5,D.int.injEq,true_and,and_true] at e;show SB (dC x.1)=SB (dC y.1);rw[e],fun _=>rfl⟩
theorem lh(x:List UInt8)(r:List (List UInt8)):jnW (x::r)=x++r.flatMap fun w=>32::w:=by
 unfold jnW;rw[Lib.join_cons]
 congr 1
theorem kz(a b c:List UInt8):fV [a,b,c]=a++[32]++b++[32]++c++[10]:=by unfold fV;rw[lh];simp
theorem Hn(a b:List UInt8):fV [a,b]=a++[32]++b++[10]:=by unfold fV;rw[lh];simp
def rz(p:Pt):List UInt8:=[32]++dC p.1++[44]++dC p.2
theorem D3(a:Ar):fV (fB a)=bX++[32]++dl a.1++a.2.2.flatMap rz++[10]:=by
 unfold fV fB;rw[lh,List.flatMap_cons,List.flatMap_map];have:(fun p=>(32::ky p))=rz:=by funext p;simp[ky,rz]
 rw[this];simp
section
variable {call:CL}{h:Hl}
def K1(call:CL):Prop:=∀n:Int,n.natAbs≤1000000000→call 128 [.int .i64 n]=some (SB (dC n))
theorem em{l:List UInt8}{k:Nat}{γ:Type}{x r:Option γ}(hl:l.length≤2000000000)(hk:k≤2000000000)(h:x=r):bH (!decide ((((bs l).size+k:Nat):Int)>9223372036854775807)) x=r:=by
 rw[bL,za2 (by omega)];exact h
theorem SX(h128:K1 call){n1 i:Nat}{a:Ar}(hi:∀k:D→Option D,bu (bV h.areas) (Int.toNat (i:Int)*2+1) k=k (.slc a.2.1 a.2.2.length (bJ a.2.2)))(hil:i<h.areas.length)(hcl:a.2.2.length≤1000):∀(r pre:List Pt) (out:List UInt8) (fuel:Nat),pre++r=a.2.2→(∀p∈r,Hm p)→(out++r.flatMap rz++[10]).length≤1000000000→r.length<fuel→
  mN call LL C1 n1 fuel (i:Int) h.name h.tee.1 h.tee.2 h.cup.1 h.cup.2 h.lf h.line.length (bJ h.line) h.af h.areas.length (bV h.areas) (bs out) (pre.length:Int)=mO call LL C1 n1 h.name h.tee.1 h.tee.2 h.cup.1 h.cup.2 h.lf h.line.length (bJ h.line) h.af h.areas.length (bV h.areas) (bs (out++r.flatMap rz++[10])) (IntKind.wrap .i64 ((i:Int)+1)):=by
 intro r;have hin:decide ((0:Int)≤(i:Int)∧(i:Int)<(h.areas.length:Int))=true:=c5 hil
 induction r with
 |nil=>
  intro pre out fuel hn hp hb hf;obtain⟨fuel,rfl⟩:∃n,fuel=n+1:=⟨fuel-1,by omega⟩;have hlen:pre.length=a.2.2.length:=by rw[←hn];simp
  rw[List.flatMap_nil,zb6] at hb ⊢;rw[za6] at hb;rw[oR,hin,bC,hi,cL,hlen,dH,bv];refine em (k:=1) (by omega) (by decide) ?_;rw[show ByteArray.mk #[10]=bs [10] from rfl,c8]
 |cons x r ih=>
  intro pre out fuel hn hp hb hf;obtain⟨fuel,rfl⟩:∃n,fuel=n+1:=⟨fuel-1,by omega⟩;have hx:=hp x (by simp);have hl1:=ik hx.1;have hl2:=ik hx.2;have e1:out++(x::r).flatMap rz=(out++[32]++dC x.1++[44]++dC x.2)++r.flatMap rz:=by
   rw[List.flatMap_cons];unfold rz;simp only[za8]
  rw[e1] at hb ⊢;have ih:=ih (pre++[x]) _ fuel (by rw[gb];exact hn) (fun p hm=>hp p (by simp[hm])) hb (by simp at hf;omega);rw[za6,zb4] at ih;have hbo:out.length≤1000000000:=by simp only[za6] at hb;omega
  have hlt:pre.length<a.2.2.length:=by rw[←hn];simp
  have c0:∀k:D→Option D,bu (bJ a.2.2) (Int.toNat (pre.length:Int)*2+0) k=k (.int .i64 x.1):=fun k=>by rw[←hn];exact q0 pre x r
  have c1':∀k:D→Option D,bu (bJ a.2.2) (Int.toNat (pre.length:Int)*2+1) k=k (.int .i64 x.2):=fun k=>by rw[←hn];exact q1 pre x r
  rw[oR,hin,bC,hi,cL,dP hlt,bx];refine em (k:=1) (by omega) (by decide) ?_;rw[hi,cL,bC,c5 hlt,bC,c0,bF,h128 x.1 hx.1,bA,bP,show ByteArray.mk #[32]=bs [32] from rfl,show ByteArray.mk #[44]=bs [44] from rfl,c8];refine em (l:=out++[32]) (k:=(bs (dC x.1)).size) (by simp;omega) (by rw[bL];omega) ?_;rw[c8];refine em (l:=out++[32]++dC x.1) (k:=1) (by simp;omega) (by decide) ?_;rw[bC,hi,cL,c5 hlt,bC,c1',bF,h128 x.2 hx.2,bA,bP,c8];refine em (l:=out++[32]++dC x.1++[44]) (k:=(bs (dC x.2)).size) (by simp;omega) (by rw[bL];omega) ?_;rw[c8,show IntKind.wrap .i64 ((pre.length:Int)+1)=((pre.length+1:Nat):Int) from cE _ 1 (by omega),ih]
theorem SY(h128:K1 call)(hk:h.Ok):∀(r pre:List Ar) (out:List UInt8) (fuel:Nat),pre++r=h.areas→(∀a∈r,∀p∈a.2.2,Hm p)→(out++r.flatMap fun a=>fV (fB a)).length≤1000000000→r.length<fuel→
  mO call LL C1 fuel h.name h.tee.1 h.tee.2 h.cup.1 h.cup.2 h.lf h.line.length (bJ h.line) h.af h.areas.length (bV h.areas) (bs out) (pre.length:Int)=some (SB (out++r.flatMap fun a=>fV (fB a))):=by
 intro r;have hal:=hk.a
 induction r with
 |nil=>
  intro pre out fuel hn hp hb hf;obtain⟨fuel,rfl⟩:∃n,fuel=n+1:=⟨fuel-1,by omega⟩;have hlen:pre.length=h.areas.length:=by rw[←hn];simp
  rw[List.flatMap_nil,zb6] at hb ⊢;rw[tP,hlen,dH,bv]
 |cons x r ih=>
  intro pre out fuel hn hp hb hf;obtain⟨fuel,rfl⟩:∃n,fuel=n+1:=⟨fuel-1,by omega⟩;have e1:out++((x::r).flatMap fun a=>fV (fB a))=(out++bX++[32]++dl x.1++x.2.2.flatMap rz++[10])++r.flatMap fun a=>fV (fB a):=by
   rw[List.flatMap_cons,D3];simp only[za8]
  rw[e1] at hb ⊢;have ih:=ih (pre++[x]) _ fuel (by rw[gb];exact hn) (fun a hm=>hp a (by simp[hm])) hb (by simp at hf;omega);rw[za6,zb4] at ih;have hlt:pre.length<h.areas.length:=by rw[←hn];simp
  have c0:∀k:D→Option D,bu (bV h.areas) (Int.toNat (pre.length:Int)*2+0) k=k (.str x.1):=fun k=>by rw[←hn];exact a0 pre x r
  have c1':∀k:D→Option D,bu (bV h.areas) (Int.toNat (pre.length:Int)*2+1) k=k (.slc x.2.1 x.2.2.length (bJ x.2.2)):=fun k=>by rw[←hn];exact a1 pre x r
  rw[za6] at hb;have hb1:(out++bX++[32]++dl x.1++x.2.2.flatMap rz++[10]).length≤1000000000:=by omega
  have hb0:=hb1;simp only[za6] at hb0;have hcl:x.2.2.length≤1000:=hk.c x (by rw[←hn];simp);have hx1:x.1=bs (dl x.1):=(lK x.1).symm;have g:=SX (call:=call) (h:=h) h128 (n1:=fuel) (i:=pre.length) (a:=x) c1' hlt hcl x.2.2 [] (out++bX++[32]++dl x.1) LL rfl (hp x (by simp)) hb1 (by unfold LL;omega);rw[show(([]:List Pt).length:Int)=0 from rfl] at g;rw[tP,dP hlt,bx];refine em (k:=5) (by omega) (by decide) ?_;rw[c5 hlt,bC,c0,bP,show ByteArray.mk #[97,114,101,97,32]=bs (bX++[32]) from rfl,c8];refine em (l:=out++(bX++[32])) (k:=x.1.size) (by simp only[za6];omega) (by rw[hx1,bL];omega) ?_;rw[show bs (out++(bX++[32]))++x.1=bs (out++bX++[32]++dl x.1) by rw[←c8 (out++bX++[32]) (dl x.1),lK,za8],g,show IntKind.wrap .i64 ((pre.length:Int)+1)=((pre.length+1:Nat):Int) from cE _ 1 (by omega)];exact ih
theorem SZ(h128:K1 call)(hl:h.line.length≤1000):∀(r pre:List Pt) (out:List UInt8) (fuel:Nat),pre++r=h.line→(∀p∈r,Hm p)→(out++r.flatMap kx).length≤1000000000→r.length<fuel→
  xT call LL C1 fuel h.name h.tee.1 h.tee.2 h.cup.1 h.cup.2 h.lf h.line.length (bJ h.line) h.af h.areas.length (bV h.areas) (bs out) (pre.length:Int)=mO call LL C1 LL h.name h.tee.1 h.tee.2 h.cup.1 h.cup.2 h.lf h.line.length (bJ h.line) h.af h.areas.length (bV h.areas) (bs (out++r.flatMap kx)) 0:=by
 intro r
 induction r with
 |nil=>
  intro pre out fuel hn hp hb hf;obtain⟨fuel,rfl⟩:∃n,fuel=n+1:=⟨fuel-1,by omega⟩;have hlen:pre.length=h.line.length:=by rw[←hn];simp
  rw[List.flatMap_nil,zb6] at hb ⊢;rw[we,hlen,dH,bv]
 |cons x r ih=>
  intro pre out fuel hn hp hb hf;obtain⟨fuel,rfl⟩:∃n,fuel=n+1:=⟨fuel-1,by omega⟩;have hx:=hp x (by simp);have hl1:=ik hx.1;have hl2:=ik hx.2;have e1:out++(x::r).flatMap kx=(out++(cG++[32])++dC x.1++[32]++dC x.2++[10])++r.flatMap kx:=by
   rw[List.flatMap_cons];unfold kx;rw[kz];simp only[za8]
  rw[e1] at hb ⊢;have ih:=ih (pre++[x]) _ fuel (by rw[gb];exact hn) (fun p hm=>hp p (by simp[hm])) hb (by simp at hf;omega);rw[za6,zb4] at ih;have hb0:=hb;simp only[za6] at hb0;have hlt:pre.length<h.line.length:=by rw[←hn];simp
  have c0:∀k:D→Option D,bu (bJ h.line) (Int.toNat (pre.length:Int)*2+0) k=k (.int .i64 x.1):=fun k=>by rw[←hn];exact q0 pre x r
  have c1':∀k:D→Option D,bu (bJ h.line) (Int.toNat (pre.length:Int)*2+1) k=k (.int .i64 x.2):=fun k=>by rw[←hn];exact q1 pre x r
  rw[we,dP hlt,bx];refine em (k:=4) (by omega) (by decide) ?_;rw[c5 hlt,bC,c0,bF,h128 x.1 hx.1,bA,bP,show ByteArray.mk #[118,105,97,32]=bs (cG++[32]) from rfl,show ByteArray.mk #[32]=bs [32] from rfl,show ByteArray.mk #[10]=bs [10] from rfl,c8];refine em (l:=out++(cG++[32])) (k:=(bs (dC x.1)).size) (by simp only[za6];omega) (by rw[bL];omega) ?_;rw[c8];refine em (l:=out++(cG++[32])++dC x.1) (k:=1) (by simp only[za6];omega) (by decide) ?_;rw[bC,c1',bF,h128 x.2 hx.2,bA,bP,c8];refine em (l:=out++(cG++[32])++dC x.1++[32]) (k:=(bs (dC x.2)).size) (by simp only[za6];omega) (by rw[bL];omega) ?_;rw[c8];refine em (l:=out++(cG++[32])++dC x.1++[32]++dC x.2) (k:=1) (by simp only[za6];omega) (by decide) ?_;rw[c8,show IntKind.wrap .i64 ((pre.length:Int)+1)=((pre.length+1:Nat):Int) from cE _ 1 (by omega)];exact ih
end
theorem S0:eh Tryz.prog O0 Tryz.f71=true:=by kernel_rfl
theorem VM(h:Hl)(hk:h.Ok)(hP:Pr h):OK2 71 [bQ h] (SB (o9 h)):=by
 obtain⟨B,hB,e1,_⟩:=fP [fam128] ⟨Ak,trivial⟩ rfl;have h128:K1 (bw B):=fun n hn=>e1 ⟨n,hn⟩;refine dT hB Tryz.func71 (ord:=O0) (N:=Sj) S0 ((Oh _ _ _ _ _ _ _ _ _ _ _ _ _ _).trans ?_);have hlen:=hP.len;unfold o9 at hlen;have hl1:(gm h++h.line.flatMap kx).length≤1000000000:=by
  rw[za6] at hlen;omega
 have hl0:(gm h).length≤1000000000:=by rw[za6] at hl1;omega
 have hv:=SZ (call:=bw B) (h:=h) h128 hk.l h.line [] (gm h) LL rfl hP.line hl1 (by have:=hk.l;unfold LL;omega);have ha:=SY (call:=bw B) (h:=h) h128 hk h.areas [] (gm h++h.line.flatMap kx) LL rfl hP.cor hlen (by have:=hk.a;unfold LL;omega);rw[show(([]:List Pt).length:Int)=0 from rfl] at hv;rw[show(([]:List Ar).length:Int)=0 from rfl] at ha;have hva:=hv.trans ha;rw[show SB (gm h++h.line.flatMap kx++h.areas.flatMap fun a=>fV (fB a))=SB (o9 h) from rfl] at hva;have c1:=h128 _ hP.tee.1;have c2:=h128 _ hP.tee.2;have c3:=h128 _ hP.cup.1;have c4:=h128 _ hP.cup.2;have z1:=ik hP.tee.1;have z2:=ik hP.tee.2;have z3:=ik hP.cup.1;have z4:=ik hP.cup.2;have hhead:gm h=[104,111,108,101,32]++dl h.name++[10,116,101,101,32]++dC h.tee.1++[32]++dC h.tee.2++[10,99,117,112,32]++dC h.cup.1++[32]++dC h.cup.2++[10]:=by
  unfold gm;rw[Hn,kz,kz];simp[cp,cD,cJ]
 rw[hhead] at hva hl0;have hnm:h.name=bs (dl h.name):=(lK h.name).symm;have hn:(dl h.name).length≤1000000000:=by simp only[za6] at hl0;omega
 clear hv ha hlen hl1 hhead hl0 h128;generalize dC h.tee.1=a1 at*;generalize dC h.tee.2=a2 at*;generalize dC h.cup.1=a3 at*;generalize dC h.cup.2=a4 at*;have hs5:ByteArray.mk #[104,111,108,101,32]++h.name=bs ([104,111,108,101,32]++dl h.name):=by rw[←c8 [104,111,108,101,32] (dl h.name),lK];rfl
 have hsz:(!decide (((5+ByteArray.size h.name:Nat):Int)>9223372036854775807))=true:=by
  rw[hnm,bL,za2 (by omega)];rfl
 refine bK hsz ?_;rw[hs5];refine em (k:=5) (by simp;omega) (by decide) (bI c1 (gA ?_));rw[show ByteArray.mk #[10,116,101,101,32]=bs [10,116,101,101,32] from rfl,show ByteArray.mk #[32]=bs [32] from rfl,show ByteArray.mk #[10,99,117,112,32]=bs [10,99,117,112,32] from rfl,show ByteArray.mk #[10]=bs [10] from rfl,c8];refine em (k:=(bs a1).size) (by simp;omega) (by rw[bL];omega) ?_;rw[c8];refine em (k:=1) (by simp;omega) (by decide) (bI c2 (gA ?_));rw[c8];refine em (k:=(bs a2).size) (by simp;omega) (by rw[bL];omega) ?_;rw[c8];refine em (k:=5) (by simp;omega) (by decide) (bI c3 (gA ?_));rw[c8];refine em (k:=(bs a3).size) (by simp;omega) (by rw[bL];omega) ?_;rw[c8];refine em (k:=1) (by simp;omega) (by decide) (bI c4 (gA ?_));rw[c8];refine em (k:=(bs a4).size) (by simp;omega) (by rw[bL];omega) ?_;rw[c8];refine em (k:=1) (by simp;omega) (by decide) ?_;rw[c8];exact hva
theorem x5{c:UInt8}(y:List UInt8):∀x:List UInt8,(∀b∈x,b≠c)→spl c (x++c::y)=x::spl c y
 |[],_=>by
  show spl c (c::y)=_;rw[spl,if_pos (by simp)]
 |b::x,h=>by
  have ih:=x5 y x fun d hd=>h d (by simp[hd]);show spl c (b::(x++c::y))=_;rw[spl,if_neg (by simpa using h b (by simp)),ih];rfl
theorem x6{c:UInt8}:∀x:List UInt8,(∀b∈x,b≠c)→spl c x=[x]
 |[],_=>rfl
 |b::x,h=>by
  rw[spl,if_neg (by simpa using h b (by simp)),x6 x fun d hd=>h d (by simp[hd])];rfl
theorem Ho:∀(x:List UInt8) (r:List (List UInt8)),(∀w∈x::r,∀b∈w,b≠32)→spl 32 (jnW (x::r))=x::r
 |x,[],h=>by
  rw[lh];show spl 32 (x++[])=_;rw[zb6];exact x6 x (h x (by simp))
 |x,y::r,h=>by
  have ih:=Ho y r fun w hw=>h w (by simp only[List.mem_cons] at hw ⊢;exact .inr hw);have e:jnW (x::y::r)=x++32::jnW (y::r):=by rw[lh,lh];simp
  rw[e,x5 _ x (h x (by simp)),ih]
theorem wn:∀(x:List UInt8) (r:List (List UInt8)),(∀w∈x::r,∀b∈w,b≠10)→spl 10 ((x::r).flatMap fun w=>w++[10]).dropLast=x::r
 |x,[],h=>by
  rw[List.flatMap_cons,List.flatMap_nil,zb6,List.dropLast_concat];exact x6 x (h x (by simp))
 |x,y::r,h=>by
  have ih:=wn y r fun w hw=>h w (by simp only[List.mem_cons] at hw ⊢;exact .inr hw);have hne:((y::r).flatMap fun w=>w++[10])≠[]:=by simp
  rw[List.flatMap_cons,za8,List.dropLast_append_of_ne_nil (by simp),List.singleton_append,List.dropLast_cons_of_ne_nil hne,x5 _ x (h x (by simp)),ih]
def wB(l:List UInt8):Prop:=l≠[]∧∀b∈l,b≠32∧b≠10
theorem K2{w:List (List UInt8)}(h:∀x∈w,wB x):fA w=true:=by
 unfold fA;rw[zd9];intro x hx;have:=(h x hx).1;simpa using this
theorem OY{ws:List (List UInt8)}(h:∀x∈ws,wB x):∀b∈jnW ws,b≠10:=by
 cases ws with
 |nil=>intro b hb;cases hb
 |cons x r=>
  rw[lh];intro b hb;rcases za9.1 hb with hb|hb
  ·exact((h x (by simp)).2 b hb).2
  ·obtain⟨w,hw,hb⟩:=List.mem_flatMap.1 hb;rcases List.mem_cons.1 hb with rfl|hb
   ·decide
   ·exact((h w (by simp[hw])).2 b hb).2
theorem Mf{c:UInt8}(h:oN c):c≠32∧c≠10∧c≠44∧c≠45:=by
 unfold oN at h;refine⟨?_,?_,?_,?_⟩<;>(intro e;subst e;exact absurd h (by decide))
theorem Cj(n:Int):∀c∈dC n,c≠32∧c≠10∧c≠44:=by
 intro c hc;unfold dC at hc;rcases za9.1 hc with hc|hc
 ·unfold rx at hc;split at hc
  ·rw[zd4] at hc;subst hc
   decide
  ·cases hc
 ·have:=Mf (xN _ c hc);exact⟨this.1,this.2.1,this.2.2.1⟩
theorem OZ(n:Int):dC n≠[]:=by
 unfold dC;intro e;have h1:=(List.append_eq_nil_iff.1 e).2;have:=l9 (n:=n.natAbs) (k:=n.natAbs+1) (zb2 (Nat.lt_succ_self _) (zd0 (Nat.lt_pow_self (by decide)))) (by omega);rw[h1] at this;simp at this
theorem lL(n:Int):wB (dC n):=⟨OZ n,fun b hb=>⟨(Cj n b hb).1,(Cj n b hb).2.1⟩⟩
theorem Hp(p:Pt):wB (ky p):=by
 refine⟨by unfold ky;simp,fun b hb=> ?_⟩;unfold ky at hb;simp only[za9,zd4] at hb;rcases hb with(hb|hb)|hb
 ·exact(lL p.1).2 b hb
 ·subst hb;decide
 ·exact(lL p.2).2 b hb
theorem Hq(n:Nat)(h:n≠0):∃c r,mL n=c::r∧c≠48:=by
 induction n using Nat.strongRecOn with
 |ind n ih=>
  rw[gx h];by_cases h0:n/10=0
  ·rw[h0,eV];refine⟨FJ (n%10),[],rfl,fun e=> ?_⟩;have:=xM (d:=n%10) (by omega);rw[e] at this;have:(48:Nat)=48+n%10:=this;omega
  ·obtain⟨c,r,h1,h2⟩:=ih (n/10) (by omega) h0;rw[h1];exact⟨c,r++[FJ (n%10)],rfl,h2⟩
theorem O1{n:Nat}(h:n<1000000000):tU (iq n)=true∧(iq n).length≤9:=by
 have hl:=l9 (n:=n) (k:=9) h (by decide);refine⟨?_,hl.2⟩;unfold tU;have h1:(iq n==[])=false:=by
  cases hn:iq n with
  |nil=>rw[hn] at hl;simp at hl
  |cons=>rfl
 have h2:(iq n).all eW=true:=zd9.2 fun c hc=>(oW c).2 (xN n c hc);rw[h1,h2];by_cases h0:n=0
 ·subst h0;rw[iV];rfl
 ·obtain⟨c,r,h3,h4⟩:=Hq n h0;rw[gy h0,h3];have:(some c==some (48:UInt8))=false:=by simpa using h4
  simp[this]
theorem x7{n:Int}(h:n.natAbs<1000000000):cR (dC n)=(n,true):=by
 obtain⟨hd,hl⟩:=O1 h;rw[zS];unfold dC rx;have hit:me (iq n.natAbs)=((n.natAbs:Int),true):=by
  rw[GZ (by rw[hd,za1 hl];rfl),GK]
 by_cases hn:n<0
 ·rw[if_pos hn];have hlen:1<([45]++iq n.natAbs).length:=by
   have:=l9 (n:=n.natAbs) (k:=9) h (by decide);simp;omega
  rw[show(([45]:List UInt8)++iq n.natAbs).head?=some 45 from rfl,za1 hlen,show((some (45:UInt8)==some 45)&&true)=true from rfl,if_pos rfl,show(([45]:List UInt8)++iq n.natAbs).tail=iq n.natAbs from rfl,hit];rw[za1 (by show(0:Int)<(n.natAbs:Int);omega)];show((0:Int)-(n.natAbs:Int),true)=(n,true);rw[show(0:Int)-(n.natAbs:Int)=n by omega]
 ·rw[if_neg hn,zb7];have hh:((iq n.natAbs).head?==some 45)=false:=by
   cases hc:iq n.natAbs with
   |nil=>rfl
   |cons c r=>
    have:=Mf (xN n.natAbs c (by rw[hc];simp));simpa using this.2.2.2
  rw[hh,Bool.false_and,if_neg (by decide),hit,show((n.natAbs:Int))=n by omega]
theorem Al(y:List UInt8):∀x:List UInt8,(∀b∈x,b≠44)→dO 44 (x++44::y)=(x,y,true)
 |[],_=>by
  show dO 44 (44::y)=_;rw[dO,if_pos (by simp)]
 |b::x,h=>by
  show dO 44 (b::(x++44::y))=_;rw[dO,if_neg (by simpa using h b (by simp)),Al y x fun d hd=>h d (by simp[hd])]
def Hr(p:Pt):Prop:=p.1.natAbs≤1000000∧p.2.natAbs≤1000000
theorem O3{p:Pt}(h:Hr p):EW (ky p)=some p:=by
 unfold EW ky;rw[za8,List.singleton_append,Al _ _ fun b hb=>(Cj p.1 b hb).2.2];rw[x7 (n:=p.1) (by have:=h.1;omega),x7 (n:=p.2) (by have:=h.2;omega)];rfl
theorem D4:∀l:List Pt,(∀p∈l,Hr p)→dQ (l.map ky)=some l
 |[],_=>rfl
 |p::l,h=>by
  rw[List.map_cons,kv,O3 (h p (by simp)),D4 l fun q hq=>h q (by simp[hq])]
theorem wo{p:Pt}(h:Hr p):ry (dC p.1) (dC p.2)=p∧mQ (dC p.1) (dC p.2)=true:=by
 unfold ry mQ;rw[x7 (n:=p.1) (by have:=h.1;omega),x7 (n:=p.2) (by have:=h.2;omega)];exact⟨rfl,rfl⟩
theorem ub(i:Nat)(h:Hl)(a:List UInt8)(t:List (List UInt8))(hw:∀x∈a::t,wB x):mR i h (jnW (a::t))=if i=0 then OU h (a::t) else if 2<i then OV i h (a::t) else rd3 i h (a::t):=by
 unfold mR;rw[Ho a t fun w hm b hb=>((hw w hm).2 b hb).1];exact Af (K2 hw)
structure GoodH(h:Hl):Prop where
 nm:wB (dl h.name)
 tee:Hr h.tee
 cup:Hr h.cup
 line:∀p∈h.line,Hr p
 cor:∀a∈h.areas,∀p∈a.2.2,Hr p
 kind:∀a∈h.areas,wB (dl a.1)
def x8(p:Pt):List (List UInt8):=[cG,dC p.1,dC p.2]
def nf(h:Hl):List (List (List UInt8)):=[[cp,dl h.name],[cD,dC h.tee.1,dC h.tee.2],[cJ,dC h.cup.1,dC h.cup.2]]
def gB(h:Hl):List (List (List UInt8)):=nf h++h.line.map x8++h.areas.map fB
theorem wq(h:Hl):o9 h=(gB h).flatMap fV:=by
 unfold o9 gB gm nf;simp only[List.flatMap_append,List.flatMap_map,List.flatMap_cons,List.flatMap_nil,zb6,za8];rfl
theorem ww(l:List UInt8)(h:l∈[cp,cD,cJ,cG,bX]):wB l:=by
 have key:∀l∈[cp,cD,cJ,cG,bX],l≠[]∧∀b∈l,b≠32∧b≠10:=by decide
 exact key l h
theorem K3{h:Hl}(g:GoodH h):∀ws∈gB h,ws≠[]∧∀x∈ws,wB x:=by
 intro ws hm;unfold gB nf at hm;rcases za9.1 hm with hm|hm
 ·rcases za9.1 hm with hm|hm
  ·simp only[List.mem_cons,List.not_mem_nil,or_false] at hm;rcases hm with rfl|rfl|rfl
   ·refine⟨by simp,fun x hx=> ?_⟩;simp only[List.mem_cons,List.not_mem_nil,or_false] at hx;rcases hx with rfl|rfl
    ·exact ww _ (by simp)
    ·exact g.nm
   ·refine⟨by simp,fun x hx=> ?_⟩;simp only[List.mem_cons,List.not_mem_nil,or_false] at hx;rcases hx with rfl|rfl|rfl
    ·exact ww _ (by simp)
    ·exact lL _
    ·exact lL _
   ·refine⟨by simp,fun x hx=> ?_⟩;simp only[List.mem_cons,List.not_mem_nil,or_false] at hx;rcases hx with rfl|rfl|rfl
    ·exact ww _ (by simp)
    ·exact lL _
    ·exact lL _
  ·obtain⟨p,hp,rfl⟩:=zd8.1 hm;refine⟨by unfold x8;simp,fun x hx=> ?_⟩;unfold x8 at hx;simp only[List.mem_cons,List.not_mem_nil,or_false] at hx;rcases hx with rfl|rfl|rfl
   ·exact ww _ (by simp)
   ·exact lL _
   ·exact lL _
 ·obtain⟨a,ha,rfl⟩:=zd8.1 hm;refine⟨by unfold fB;simp,fun x hx=> ?_⟩;unfold fB at hx;rcases List.mem_cons.1 hx with rfl|hx
  ·exact ww _ (by simp)
  ·rcases List.mem_cons.1 hx with rfl|hx
   ·exact g.kind a ha
   ·obtain⟨p,_,rfl⟩:=zd8.1 hx;exact Hp p
theorem Am{h:Hl}(g:GoodH h):cC (o9 h)=(gB h).map jnW:=by
 unfold cC;rw[wq];have e:(gB h).flatMap fV=((gB h).map jnW).flatMap fun w=>w++[10]:=by rw[List.flatMap_map];rfl
 rw[e];have hne:(gB h).map jnW≠[]:=by unfold gB nf;simp
 obtain⟨x,r,hxr⟩:=List.exists_cons_of_ne_nil hne;rw[hxr];refine wn x r fun w hw=> ?_;rw[←hxr] at hw;obtain⟨ws,hm,rfl⟩:=zd8.1 hw;exact OY (K3 g ws hm).2
theorem K4(h:Hl):(o9 h).getLast?=some 10:=by
 rw[wq];have hne:gB h≠[]:=by unfold gB nf;simp
 obtain⟨i,x,hix⟩:∃i x,gB h=i++[x]:=⟨_,_,(List.dropLast_concat_getLast hne).symm⟩;rw[hix,List.flatMap_append,List.flatMap_cons,List.flatMap_nil,zb6];unfold fV;rw[←za8];simp
def hN(h:Hl):Hl:=⟨h.name,h.tee,h.cup,h.line.isEmpty,h.line,h.areas.isEmpty,h.areas.map fun a=>(a.1,a.2.2.isEmpty,a.2.2)⟩
theorem x9:∀(a b:List (List UInt8)) (i:Nat) (h h':Hl),iI i h a= .inr h'→iI i h (a++b)=iI (i+a.length) h' b
 |[],b,i,h,h',e=>by cases e;rfl
 |l::a,b,i,h,h',e=>by
  rw[eG] at e;rw[List.cons_append,eG];split at e
  ·rename_i hb;rw[if_pos hb,x9 a b (i+1) _ h' e]
   congr 1
   simp;omega
  ·cases e
theorem D5:∀(l:List Pt) (i:Nat) (h:Hl),3≤i→h.areas=[]→(∀p∈l,Hr p)→iI i h (l.map fun p=>jnW (x8 p))= .inr {h with line:=h.line++l,lf:=h.lf&&l.isEmpty}
 |[],i,h,_,_,_=>by
  show Sum.inr h=Sum.inr _;simp
 |p::l,i,h,hi,ha,hp=>by
  have hr:mR i h (jnW (x8 p))=(tX h p,true):=by
   unfold x8;rw[ub i h cG _ (fun x hx=>by
    simp only[List.mem_cons,List.not_mem_nil,or_false] at hx;rcases hx with rfl|rfl|rfl
    ·exact ww _ (by simp)
    ·exact lL _
    ·exact lL _),if_neg (by omega),if_pos (by omega)]
   show(if cG==bX then KM h (dC p.1) (dQ [dC p.2]) else rd3 i h [cG,dC p.1,dC p.2])=_;rw[show(cG==bX)=false from rfl,if_neg (by decide),tY,if_neg (by omega),if_neg (by omega),(wo (hp p (by simp))).1,(wo (hp p (by simp))).2,ha];rfl
  rw[List.map_cons,eG,hr,if_pos rfl,D5 l (i+1) (tX h p) (by omega) ha fun q hq=>hp q (by simp[hq])];unfold tX;simp
theorem An:∀(l:List Ar) (i:Nat) (h:Hl),3≤i→(∀a∈l,wB (dl a.1)∧∀p∈a.2.2,Hr p)→iI i h (l.map fun a=>jnW (fB a))= .inr {h with areas:=h.areas++l.map fun a=>(a.1,a.2.2.isEmpty,a.2.2),af:=h.af&&l.isEmpty}
 |[],i,h,_,_=>by
  show Sum.inr h=Sum.inr _;simp
 |a::l,i,h,hi,hp=>by
  have hr:mR i h (jnW (fB a))=(jF h (dl a.1) a.2.2,true):=by
   unfold fB;rw[ub i h bX _ (fun x hx=>by
    rcases List.mem_cons.1 hx with rfl|hx
    ·exact ww _ (by simp)
    ·rcases List.mem_cons.1 hx with rfl|hx
     ·exact(hp a (by simp)).1
     ·obtain⟨p,_,rfl⟩:=zd8.1 hx;exact Hp p),if_neg (by omega),if_pos (by omega)]
   show(if bX==bX then KM h (dl a.1) (dQ (a.2.2.map ky)) else rd3 i h (bX::dl a.1::a.2.2.map ky))=_;rw[show(bX==bX)=true from rfl,if_pos rfl,D4 a.2.2 (hp a (by simp)).2];rfl
  rw[List.map_cons,eG,hr,if_pos rfl,An l (i+1) (jF h (dl a.1) a.2.2) (by omega) fun q hq=>hp q (by simp[hq])];unfold jF;rw[lK];simp
theorem Hs{h:Hl}(g:GoodH h):iI 0 h00 (cC (o9 h))= .inr (hN h):=by
 rw[Am g];unfold gB;rw[List.map_append,List.map_append,List.map_map,List.map_map];have h0:mR 0 h00 (jnW [cp,dl h.name])=({h00 with name:=h.name},true):=by
  rw[ub 0 h00 cp _ (fun x hx=>by
   simp only[List.mem_cons,List.not_mem_nil,or_false] at hx;rcases hx with rfl|rfl
   ·exact ww _ (by simp)
   ·exact g.nm),if_pos rfl]
  show(if cp==cp then({h00 with name:=bs (dl h.name)},true) else(h00,false))=_;rw[lK];rfl
 have hwt:∀(w:List UInt8) (p:Pt),w∈[cp,cD,cJ,cG,bX]→∀x∈[w,dC p.1,dC p.2],wB x:=fun w p hm x hx=>by
  simp only[List.mem_cons,List.not_mem_nil,or_false] at hx;rcases hx with rfl|rfl|rfl
  ·exact ww _ hm
  ·exact lL _
  ·exact lL _
 have h1:∀k:Hl,mR 1 k (jnW [cD,dC h.tee.1,dC h.tee.2])=({k with tee:=h.tee},true):=fun k=>by
  rw[ub 1 k cD _ (hwt cD h.tee (by simp)),if_neg (by decide),if_neg (by decide),tY,if_pos rfl,(wo g.tee).1,(wo g.tee).2];rfl
 have h2:∀k:Hl,mR 2 k (jnW [cJ,dC h.cup.1,dC h.cup.2])=({k with cup:=h.cup},true):=fun k=>by
  rw[ub 2 k cJ _ (hwt cJ h.cup (by simp)),if_neg (by decide),if_neg (by decide),tY,if_neg (by decide),if_pos rfl,(wo g.cup).1,(wo g.cup).2];rfl
 have hh:iI 0 h00 ((nf h).map jnW)= .inr {h00 with name:=h.name,tee:=h.tee,cup:=h.cup}:=by
  show iI 0 h00 [jnW [cp,dl h.name],jnW [cD,dC h.tee.1,dC h.tee.2],jnW [cJ,dC h.cup.1,dC h.cup.2]]=_;rw[eG,h0,if_pos rfl,eG,h1,if_pos rfl,eG,h2,if_pos rfl];rfl
 have hv:=D5 h.line 3 {h00 with name:=h.name,tee:=h.tee,cup:=h.cup} (zb0 3) rfl g.line;have hv2:=x9 _ (h.line.map (jnW ∘ x8)) 0 h00 _ hh;have hv3:iI 0 h00 ((nf h).map jnW++h.line.map (jnW ∘ x8))= .inr {h00 with name:=h.name,tee:=h.tee,cup:=h.cup,line:=[]++h.line,lf:=true&&h.line.isEmpty}:=hv2.trans hv;rw[x9 _ (h.areas.map (jnW ∘ fB)) 0 h00 _ hv3];have ha:=An h.areas (0+((nf h).map jnW++h.line.map (jnW ∘ x8)).length) {h00 with name:=h.name,tee:=h.tee,cup:=h.cup,line:=[]++h.line,lf:=true&&h.line.isEmpty} (by unfold nf;simp) fun a hm=>⟨g.kind a hm,g.cor a hm⟩;refine ha.trans ?_;unfold hN;simp[h00]
theorem O4{h:Hl}(g:GoodH h):3≤(cC (o9 h)).length:=by
 rw[Am g];unfold gB nf;simp
theorem Ht(h:Hl)(p:Pt):jg (hN h) p=jg h p:=by
 have hI:∀(k:ByteArray) (l:List Ar) (i:Nat),eA (iG p) k (l.map fun a=>(a.1,a.2.2.isEmpty,a.2.2)) i=eA (iG p) k l i:=fun k l=>by
  induction l with
  |nil=>intro i;rfl
  |cons a l ih=>
   intro i;show bz (dn a.1 k) (bz (iG p a) (some i) (eA (iG p) k (l.map _) (i+1))) (eA (iG p) k (l.map _) (i+1))=bz (dn a.1 k) (bz (iG p a) (some i) (eA (iG p) k l (i+1))) (eA (iG p) k l (i+1));rw[ih]
 have hV:∀ks,gO (iG p) (h.areas.map fun a=>(a.1,a.2.2.isEmpty,a.2.2)) ks=gO (iG p) h.areas ks:=fun ks=>by
  induction ks with
  |nil=>rfl
  |cons k ks ih=>
   unfold gO;rw[hI,ih]
 exact hV kinds6
theorem O5(h:Hl):db (hN h)=db h:=by
 have hA:∀(t:Int) (l:List Ar),qd t (l.map fun a=>(a.1,a.2.2.isEmpty,a.2.2))=qd t l:=fun t l=>by
  induction l with
  |nil=>rfl
  |cons a l ih=>
   show bz (!fw a.1) 13 (bz (dI a.2.2 !=0) (dI a.2.2) (qd t (l.map _)))=bz (!fw a.1) 13 (bz (dI a.2.2 !=0) (dI a.2.2) (qd t l));rw[ih]
 unfold db;rw[show(hN h).tee=h.tee from rfl,show(hN h).cup=h.cup from rfl,Ht,Ht,show(hN h).areas=h.areas.map (fun a=>(a.1,a.2.2.isEmpty,a.2.2)) from rfl,hA,zc2];rfl
theorem K5{h:Hl}(g:GoodH h)(hz:db h=0)(hl:(o9 h).length≤4096):jX (o9 h)=(hN h,0,0):=by
 have h3:=O4 g;unfold jX G7;rw[if_neg (by omega),K4];show zV (cC (o9 h)).length (iI 0 h00 (cC (o9 h)))=_;rw[Hs g];show(if(cC (o9 h)).length<3 then _ else if db (hN h) !=0 then _ else(hN h,0,0))=_;rw[if_neg (by omega),O5,hz];rfl
def wf0:D→D
 | .slc _ n cs=> .slc false n cs
 |d=>d
def wf1:D→D
 | .slc _ n cs=> .slc false n (cs.map wf0)
 |d=>d
def wf2:D→D
 | .agg cs=> .agg (cs.map wf1)
 |d=>d
section
variable {I:Nat→Prop}{w:World}{d:D}{v:Value}
theorem Ao{b:Bool}{n:Nat}{cs:List D}(h:RelC I w (.slc b n cs) v):RelC I w (.slc false n cs) v:=by
 cases h with
 |slcn=>exact .slcn false
 |slc _ _ _ a cap us hI h1 h2 hc hr=>exact .slc false n _ a cap us hI (fun e=>by cases e) h2 hc hr
theorem RelC.wf0(h:RelC I w d v):RelC I w (wf0 d) v:=by
 cases d with
 |slc f n cs=>exact Ao h
 |_=>exact h
theorem RelC.wf1(h:RelC I w d v):RelC I w (wf1 d) v:=by
 cases d with
 |slc f n cs=>exact DT (fun h=>h.wf0) (Ao h)
 |_=>exact h
theorem RelC.wf2(h:RelC I w d v):RelC I w (wf2 d) v:=by
 cases d with
 |agg cs=>
  cases h with
  |agg _ vs hl hr=>
   obtain⟨h1,h2⟩:=jR (fun h=>h.wf1) hl hr;exact .agg _ _ h1 h2
 |_=>exact h
end
theorem S1{k:FuncId}{ds:List D}{r:D}(h:OK2 k (ds.map wf2) r):OK2 k ds r:=by
 refine⟨h.1,fun I w vs hI hgl hl hr=> ?_⟩;obtain⟨h1,h2⟩:=jR (fun h=>h.wf2) hl hr;exact h.2 I w vs hI hgl h1 h2
def hF(h:Hl):Hl:=⟨h.name,h.tee,h.cup,false,h.line,false,h.areas.map fun a=>(a.1,false,a.2.2)⟩
theorem O6(l:List Ar):(bV l).map wf0=bV (l.map fun a=>(a.1,false,a.2.2)):=by
 induction l with
 |nil=>rfl
 |cons a l ih=>
  show wf0 (.str a.1)::wf0 (.slc a.2.1 a.2.2.length (bJ a.2.2))::(bV l).map wf0=_;rw[ih];rfl
theorem O7(l:List Pt):(bJ l).map wf0=bJ l:=by
 induction l with
 |nil=>rfl
 |cons p l ih=>simp only[bJ,List.flatMap_cons,List.map_append] at ih ⊢;rw[ih];rfl
theorem D6(h:Hl):wf2 (bQ h)=bQ (hF h):=by
 show D.agg [.str h.name,.int .i64 h.tee.1,.int .i64 h.tee.2,.int .i64 h.cup.1,.int .i64 h.cup.2,.slc false h.line.length ((bJ h.line).map wf0),.slc false h.areas.length ((bV h.areas).map wf0)]=D.agg [_,_,_,_,_,_,.slc false (h.areas.map fun a=>(a.1,false,a.2.2)).length _];rw[O7,O6,zc2];rfl
theorem S2{h:Hl}(hk:h.Ok):(hF h).Ok:=⟨hk.n,hk.l,by show(h.areas.map _).length≤_;rw[zc2];exact hk.a,fun a ha=>by
 obtain⟨b,hb,rfl⟩:=zd8.1 ha;exact hk.c b hb⟩
theorem S3(x y:Hl)(hk:x.Ok)(hs:hF x=hF y):OK2 68 [bQ x,bQ y] (.bool true):=by
 refine S1 ?_;show OK2 68 [wf2 (bQ x),wf2 (bQ y)] _;rw[D6,D6,←hs];exact Vy (hF x) (S2 hk)
theorem Hu(h:Hl):hF (fj h)=hF h:=rfl
theorem VN(h:Hl):hF (hN h)=hF h:=by
 unfold hF hN;simp
def fam68t:Fam:=⟨68,{p:Hl×Hl//p.1.Ok∧hF p.1=hF p.2},fun p=>[bQ p.1.1,bQ p.1.2],fun _=> .bool true⟩
theorem Ap:fam68t.Good:=⟨fun p=>S3 p.1.1 p.1.2 p.2.1 p.2.2,fun _ _ _=>rfl,fun _=>rfl⟩
def fam15t:Fam:=⟨15,{h:Hl//h.areas.length*40≤140737488355328},fun h=>[bQ h.1],fun h=>bQ (fj h.1)⟩
theorem Aq:fam15t.Good:=⟨fun h=>RO h.1 h.2,fun x y e=>by
 have e:[bQ x.1]=[bQ y.1]:=e;simp only[zc5,and_true] at e;show bQ (fj x.1)=bQ (fj y.1);rw[tZ e],fun _=>rfl⟩
def fam72t:Fam:=⟨72,{l:List UInt8//l.length≤5000∧(l.length≤4096→xY l)},fun l=>[SB l.1],fun l=>yR (jX l.1)⟩
theorem As:fam72t.Good:=⟨fun l=>by
 have:=VK l.1 l.2.1 fun h=>E3 (l.2.2 h);rw[OW] at this;exact this,fun x y e=>by
 have e:[SB x.1]=[SB y.1]:=e;simp only[zc5,D.str.injEq,and_true] at e;show yR (jX x.1)=yR (jX y.1);rw[eE e],fun _=>rfl⟩
theorem Ck{l:List UInt8}(h:l.length≤600):xY l:=fun h' e=>by
 have hm:∀x∈cC l,x.length≤600:=fun x hx=>zb1 (nM l x hx) h;have hl:=nL l;have g:=Got.prs (cC l) (SA 600) hm e;exact⟨by have:=g.nm;omega,by have:=g.ln;omega,by have:=g.ar;omega,fun a ha=>by have:=g.co a ha;omega⟩
theorem K6{l:List UInt8}(h:l.length≤4096→xY l):(jX l).1.Ok:=by
 have h0:h00.Ok:=⟨by show(bs []).size<_;rw[bL];decide,by decide,by decide,fun a ha=>by cases ha⟩;unfold jX;split
 ·exact h0
 ·rename_i hl;unfold G7;split
  ·unfold zV;have hf:=h (by omega);unfold xY cC at hf;cases hp:iI 0 h00 (spl 10 l.dropLast) with
   |inl k=>exact h0
   |inr h'=>
    dsimp only;split
    ·exact h0
    ·split
     ·exact h0
     ·exact hf h' hp
  ·exact h0
theorem Hv{s:ByteArray}(h:gj s=true):wB (dl s)∧(dl s).length≤24:=by
 have hsz:s.size=(dl s).length:=by
  have:=bL (dl s);rw[lK] at this;exact this
 unfold gj at h;by_cases h1:(s.size:Int)<1
 ·rw[za1 h1] at h;cases h
 ·rw[za2 h1,bv] at h;by_cases h2:(s.size:Int)>24
  ·rw[za1 h2] at h;cases h
  ·rw[za2 h2,bv] at h;have hgo:∀(m i:Nat),gY s m i=true→∀j,i≤j→j<i+m→jT s j=true:=by
    intro m
    induction m with
    |zero=>intro i _ j q1 q2;omega
    |succ m ih=>
     intro i hg j q1 q2;have hg:(jT s i&&gY s m (i+1))=true:=hg;rw[zc4] at hg;by_cases e:j=i
     ·subst e;exact hg.1
     ·exact ih (i+1) hg.2 j (by omega) (by omega)
   refine⟨⟨fun e=>by rw[e,zb5] at hsz;omega,fun b hb=> ?_⟩,by omega⟩;obtain⟨j,hj,rfl⟩:=List.getElem_of_mem hb;have hat:=hgo s.size 0 h j (Nat.zero_le _) (by omega);have hby:cA s j=((dl s)[j].toNat:Int):=by
    have:=nc (l:=dl s) (i:=j) (zd5 hj);rw[lK] at this;exact this
   unfold jT gu at hat;rw[hby] at hat;refine⟨fun e=> ?_,fun e=> ?_⟩<;>(rw[e] at hat;revert hat;simp)
theorem Au{s:ByteArray}(h:fw s=true):wB (dl s)∧(dl s).length≤7:=by
 have key:∀l∈[[103,114,101,101,110],cD,[98,117,110,107,101,114],[119,97,116,101,114],[102,97,105,114,119,97,121],[114,111,117,103,104]],(l≠[]∧∀b∈l,b≠32∧b≠10)∧l.length≤7:=by decide
 refine key (dl s) ?_;unfold fw kinds6 at h;rw[List.any_eq_true] at h;obtain⟨k,hk,he⟩:=h;have hq:∀l:List UInt8,dn s (bs l)=true→dl s=l:=fun l e=>by
  unfold dn at e;rw[←lK s,fe] at e;simpa using e
 simp only[List.mem_cons,List.not_mem_nil,or_false] at hk ⊢;rcases hk with rfl|rfl|rfl|rfl|rfl|rfl
 ·exact .inl (hq _ he)
 ·exact .inr (.inl (hq _ he))
 ·exact .inr (.inr (.inl (hq _ he)))
 ·exact .inr (.inr (.inr (.inl (hq _ he))))
 ·exact .inr (.inr (.inr (.inr (.inl (hq _ he)))))
 ·exact .inr (.inr (.inr (.inr (.inr (hq _ he)))))
theorem D7{p:Pt}(h:cb p=false):Hr p:=by
 unfold cb nB at h;by_cases h1:p.1< -1000000
 ·rw[za1 h1] at h;cases h
 ·rw[za2 h1,bv] at h;by_cases h2:p.1>1000000
  ·rw[za1 h2] at h;cases h
  ·rw[za2 h2,bv] at h;by_cases h3:p.2< -1000000
   ·rw[za1 h3] at h;cases h
   ·rw[za2 h3,bv] at h;have h4:¬p.2>1000000:=by simpa using h
    exact⟨by omega,by omega⟩
theorem ir{n:Int}(h:n.natAbs≤1000000):(dC n).length≤8:=by
 have h1:=l9 (n:=n.natAbs) (k:=7) (by omega) (by decide);unfold dC;rw[za6];have:(rx n).length≤1:=by unfold rx;split<;>simp
 omega
theorem pa{α:Type}{f:α→List UInt8}{k:Nat}:∀l:List α,(∀x∈l,(f x).length≤k)→(l.flatMap f).length≤l.length*k
 |[],_=>by simp
 |x::l,h=>by
  have ih:=pa l fun y hy=>h y (by simp[hy]);have:=h x (by simp);rw[List.flatMap_cons,za6,za7,Nat.add_mul];omega
theorem pb{h:Hl}(hz:cv h=0):GoodH h∧(dl h.name).length≤24∧h.line.length≤16∧h.areas.length≤32∧∀a∈h.areas,(dl a.1).length≤7∧a.2.2.length≤64:=by
 have hr:db h=0:=by rw[←qe];exact hz
 obtain⟨i1,i2,i3,i4⟩:=JF hz;have hin:=Gn hz;unfold db at hr;cases hn:gj h.name with
 |false=>rw[hn] at hr;cases hr
 |true=>
  have hz2:=hz;unfold cv at hz2;by_cases hp:oH h=0
  ·rw[show(oH h !=0)=false by simpa using hp,bv] at hz2;have hpl:=jB hp;have ha32:h.areas.length≤32:=by
    have:=hpl (bz (decide ((h.areas.length:Int)>32)) 5 0) (by simp);by_cases q:(h.areas.length:Int)>32
    ·rw[za1 q] at this;cases this
    ·omega
   by_cases ha:gZ h.areas=0
   ·have hk:=mJ ha;obtain⟨n1,n2⟩:=Hv hn;refine⟨⟨n1,D7 i1,D7 i2,fun p hp=>D7 (by simpa using ze0.1 i3 p hp),fun a hm p hp=>D7 (by simpa using ze0.1 (hin a hm) p hp),fun a hm=>(Au (hk a hm).1).1⟩,n2,i4,ha32,fun a hm=>⟨(Au (hk a hm).1).2,?_⟩⟩;have hq:=(hk a hm).2;rw[mH] at hq;unfold dI at hq;by_cases q1:(a.2.2.length:Int)<3
    ·omega
    ·rw[za2 q1,bv] at hq;by_cases q2:(a.2.2.length:Int)>64
     ·rw[za1 q2] at hq;cases hq
     ·omega
   ·rw[show(gZ h.areas !=0)=true by simpa using ha,bx] at hz2;exact absurd hz2 ha
  ·rw[show(oH h !=0)=true by simpa using hp,bx] at hz2;exact absurd hz2 hp
theorem Av{h:Hl}(hz:cv h=0):(o9 h).length≤74+16*22+h.areas.length*(13+64*18)∧((∀a∈h.areas,a.2.2.length≤8)→(o9 h).length≤74+16*22+h.areas.length*(13+8*18)):=by
 obtain⟨g,g1,g2,g3,g4⟩:=pb hz;have hh:(gm h).length≤74:=by
  have t1:=ir g.tee.1;have t2:=ir g.tee.2;have t3:=ir g.cup.1;have t4:=ir g.cup.2;unfold gm;rw[Hn,kz,kz];simp only[za6,za7,zb5,cp,cD,cJ];omega
 have hv:(h.line.flatMap kx).length≤h.line.length*22:=pa _ fun p hp=>by
  have t1:=ir (g.line p hp).1;have t2:=ir (g.line p hp).2;unfold kx;rw[kz];simp only[za6,za7,zb5,cG];omega
 have ha:∀k,(∀a∈h.areas,a.2.2.length≤k)→(h.areas.flatMap fun a=>fV (fB a)).length≤h.areas.length*(13+k*18):=fun k hk=>pa _ fun a hm=>by
  have hc:(a.2.2.flatMap rz).length≤a.2.2.length*18:=pa _ fun p hp=>by
   have t1:=ir (g.cor a hm p hp).1;have t2:=ir (g.cor a hm p hp).2;unfold rz;simp only[za6,za7,zb5];omega
  have hc2:a.2.2.length*18≤k*18:=Nat.mul_le_mul_right _ (hk a hm);have hk7:=(g4 a hm).1;rw[D3];simp only[za6,za7,zb5,bX];omega
 have hl:h.line.length*22≤16*22:=Nat.mul_le_mul_right _ g2;have e:(o9 h).length=(gm h).length+(h.line.flatMap kx).length+(h.areas.flatMap fun a=>fV (fB a)).length:=by unfold o9;simp only[za6]
 refine⟨?_,fun h8=> ?_⟩
 ·have:=ha 64 fun a hm=>(g4 a hm).2;omega
 ·have:=ha 8 h8;omega
theorem Mg{h:Hl}(hz:cv h=0):Pr h:=by
 obtain⟨g,g1,g2,g3,g4⟩:=pb hz;have hs:∀p,Hr p→Hm p:=fun p hp=>⟨by have:=hp.1;omega,by have:=hp.2;omega⟩;refine⟨hs _ g.tee,hs _ g.cup,fun p hp=>hs p (g.line p hp),fun a ha p hp=>hs p (g.cor a ha p hp),?_⟩;have:=(Av hz).1;have h2:h.areas.length*(13+64*18)≤32*(13+64*18):=Nat.mul_le_mul_right _ g3;omega
theorem O8{h:Hl}(hs:FH h 6 8=true)(hz:cv h=0):(o9 h).length≤4096:=by
 obtain⟨g,g1,g2,g3,g4⟩:=pb hz;have hall:h.areas.length≤6∧h.areas.all (JV 8)=true:=by
  unfold FH at hs;cases h1:decide ((h.name.size:Int)>60)
  ·cases h2:decide ((h.line.length:Int)>19)
   ·rw[h1,h2,bv,bv] at hs;cases h3:decide ((h.areas.length:Int)>6)
    ·rw[h3,bv] at hs;simp only[decide_eq_false_iff_not] at h3;rw[za2 (by omega),bv] at hs;exact⟨by omega,hs⟩
    ·rw[h3,bx,za1 (by omega)] at hs;cases hs
   ·rw[h1,h2,bv,bx] at hs;cases hs
  ·rw[h1,bx] at hs;cases hs
 have h8:∀a∈h.areas,a.2.2.length≤8:=fun a ha=>by
  have h5:=zd9.1 hall.2 a ha;have h64:=(g4 a ha).2;unfold JV at h5;by_cases q:(a.2.2.length:Int)>8
  ·rw[za1 q,za1 (show(a.2.2.length:Int)≤64 by omega)] at h5
   revert h5
   cases decide ((a.1.size:Int)>60)<;>(intro h5;cases h5)
  ·omega
 have:=(Av hz).2 h8;have h2:h.areas.length*(13+8*18)≤6*(13+8*18):=Nat.mul_le_mul_right _ hall.1;omega
theorem ya{γ:Type}{x:Hl×Nat×Int}{r:Option γ}{k:ByteArray→Int→Int→Int→Int→Bool→Nat→List D→Bool→Nat→List D→Int→Int→Option γ}(h:k x.1.name x.1.tee.1 x.1.tee.2 x.1.cup.1 x.1.cup.2 x.1.lf x.1.line.length (bJ x.1.line) x.1.af x.1.areas.length (bV x.1.areas) (x.2.1:Int) x.2.2=r):
  (cy (yR x) 3 fun c=>bu c 0 fun d=>dq d 7 fun c2=>bu c2 0 fun d=>bU d fun s=>bu c2 1 fun d=>bD .i64 d fun x1=>bu c2 2 fun d=>bD .i64 d fun x2=>bu c2 3 fun d=>bD .i64 d fun x3=>bu c2 4 fun d=>bD .i64 d fun x4=>bu c2 5 fun d=>dr d fun f n c1=>bu c2 6 fun d=>dr d fun f1 n1 c3=>bu c 1 fun d=>bD .i64 d fun y=>bu c 2 fun d=>bD .i64 d fun z=>k s x1 x2 x3 x4 f n c1 f1 n1 c3 y z)=r:=h
theorem ql{γ:Type}{h:Hl}{r:Option γ}{k:ByteArray→Int→Int→Int→Int→Bool→Nat→List D→Bool→Nat→List D→Option γ}(e:k h.name h.tee.1 h.tee.2 h.cup.1 h.cup.2 h.lf h.line.length (bJ h.line) h.af h.areas.length (bV h.areas)=r):
  (dq (bQ h) 7 fun c=>bu c 0 fun d=>bU d fun s=>bu c 1 fun d1=>bD .i64 d1 fun x=>bu c 2 fun d2=>bD .i64 d2 fun x1=>bu c 3 fun d3=>bD .i64 d3 fun x2=>bu c 4 fun d4=>bD .i64 d4 fun x3=>bu c 5 fun d5=>dr d5 fun f n c1=>bu c 6 fun d6=>dr d6 fun f1 n1 c2=>k s x x1 x2 x3 f n c1 f1 n1 c2)=r:=e
theorem S4:eh Tryz.prog O0 Tryz.f14=true:=by kernel_rfl
section
variable {call:CL}{l:List UInt8}
theorem S5(h72:call 72 [SB l]=some (yR (jX l)))(h73:call 73 [SB l]=some (yR (jX l)))(h15:call 15 [bQ (jX l).1]=some (bQ (fj (jX l).1)))(h68:call 68 [bQ (fj (jX l).1),bQ (jX l).1]=some (.bool true))(h17:call 17 []=some (.bool true)):ma call LL C1 (bs l)=some (.bool true):=by
 rw[zJ _ _ _ _ c1];generalize jX l=z at*;refine bI h72 (ya (bI h73 (ya ?_)));rw[ze7,bx,ze7,bx];refine bI h15 (ql (bI h68 ?_));rw[cj,bx,h17];rfl
end
theorem VO(h:Hl)(hb:h.areas.length*40≤140737488355328)(s:ByteArray):OK2 14 [bQ h,.str s] (.bool true):=by
 obtain⟨l,rfl⟩:∃l,s=bs l:=⟨dl s,(lK s).symm⟩;have fin:∀B,dA B→bw B 15 [bQ h]=some (bQ (fj h))→bw B 16 [bQ (fj h),.int .i64 6,.int .i64 8]=some (.bool (FH (fj h) 6 8))→bw B 17 []=some (.bool true)→
   (FH (fj h) 6 8=true→(l.length≤600∨(4096<l.length∧l.length≤4106))→tL (bw B) LL C1 (bs l) h.name h.tee.1 h.tee.2 h.cup.1 h.cup.2 h.lf h.line.length (bJ h.line) h.af h.areas.length (bV h.areas) h.name h.tee.1 h.tee.2 h.cup.1 h.cup.2 h.lf h.line.length (bJ h.line) (fj h).af h.areas.length (bV h.areas)=some (.bool true))→
   OK2 14 [bQ h,SB l] (.bool true):=fun B hB f15 f16 f17 hgo=>by
  refine dT hB Tryz.func14 (ord:=O0) (N:=PL) S4 ((Od _ _ _ _ _ _ _ _ _ _ _ _ _ _ _).trans (bI f15 (ql (bI f16 ?_))));have aw:(bB (bw B 17 []) fun r=>ce r fun b=>some (D.bool b))=some (.bool true):=by rw[f17];rfl
  rw[cj,bL];cases hs:FH (fj h) 6 8 with
  |false=>exact aw
  |true=>
   rw[show(!true)=false from rfl,bv];by_cases h6:l.length≤600
   ·rw[za2 (show¬(l.length:Int)>600 by omega),bv,za2 (show¬(l.length:Int)>4106 by omega),bv];exact hgo hs (.inl h6)
   ·rw[za1 (show(l.length:Int)>600 by omega),bx];by_cases h40:l.length≤4096
    ·rw[za1 (show(l.length:Int)≤4096 by omega),bx];exact aw
    ·rw[za2 (show¬(l.length:Int)≤4096 by omega),bv];by_cases h41:l.length≤4106
     ·rw[za2 (show¬(l.length:Int)>4106 by omega),bv];exact hgo hs (.inr ⟨by omega,h41⟩)
     ·rw[za1 (show(l.length:Int)>4106 by omega),bx];exact aw
 by_cases hs:FH (fj h) 6 8=true∧(l.length≤600∨(4096<l.length∧l.length≤4106))
 ·obtain⟨hs,hlen⟩:=hs;have hk:h.Ok:=by
   have:=NL hs;exact⟨this.n,this.l,this.a,this.c⟩
  have hk':=xH hk;have hfit:l.length≤4096→xY l:=fun h1=>Ck (by omega);have hgk:=K6 hfit;have hpk:cv h=0→(o9 h).length≤4096:=fun hz=>O8 (h:=fj h) hs hz;obtain⟨B,hB,e15,e16,e17,e18,e70,e71,e72,e73,e68,_⟩:=fP [fam15t,one 16 [bQ (fj h),.int .i64 6,.int .i64 8] (.bool (FH (fj h) 6 8)),one 17 [] (.bool true),one 18 [bQ (fj h)] (.int .i64 (db h)),one 70 [bQ h] (if cv h !=0 then .tup [SB [],.int .i64 (cv h)] else Me (o9 h)),
    ⟨71,{u:Unit//cv h=0},fun _=>[bQ (fj h)],fun _=>SB (o9 h)⟩,fam72t,one 73 [SB l] (yR (jX l)),fam68t]
   ⟨Aq,bM (RP _ 6 8) rfl,bM RI rfl,bM (RN (fj h) hk') rfl,bM (VL h hk fun hz=>Mg hz) rfl,⟨fun u=>VM (fj h) hk' (Mg u.2),fun _ _ _=>rfl,fun _=>rfl⟩,As,bM (VG l (by omega) hfit) rfl,Ap,trivial⟩ rfl
  have f15:∀g:Hl,g.Ok→bw B 15 [bQ g]=some (bQ (fj g)):=fun g hg=>e15 ⟨g,by have:=hg.a;omega⟩;have f17:bw B 17 []=some (.bool true):=e17 ();have f18:bw B 18 [bQ (fj h)]=some (.int .i64 (db h)):=e18 ();have f70:bw B 70 [bQ h]=some (if cv h !=0 then .tup [SB [],.int .i64 (cv h)] else Me (o9 h)):=e70 ();have f68:∀x y:Hl,x.Ok→hF x=hF y→bw B 68 [bQ x,bQ y]=some (.bool true):=fun x y q1 q2=>e68 ⟨(x,y),q1,q2⟩;have f72:∀m:List UInt8,m.length≤5000→(m.length≤4096→xY m)→bw B 72 [SB m]=some (yR (jX m)):=fun m q1 q2=>e72 ⟨m,q1,q2⟩;have f73:bw B 73 [SB l]=some (yR (jX l)):=e73 ();refine fin B hB (f15 h hk) (e16 ()) f17 fun _ _=> ?_;have hend:=S5 (call:=bw B) (l:=l) (f72 l (by omega) hfit) f73 (f15 _ hgk) (f68 _ _ (xH hgk) rfl) f17;have hrs:db h=cv h:=(qe h).symm;rw[EQ _ _ _ _ _ _ _ _ _ _ _ _ _ _ _ _ _ _ _ _ _ _ _ _ _ _ c1];refine bI f70 ?_;by_cases hz:cv h=0
  ·have f71:bw B 71 [bQ (fj h)]=some (SB (o9 h)):=e71 ⟨(),hz⟩;have hl:=hpk hz;rw[show(cv h !=0)=false by simpa using hz,if_neg (by decide)];unfold Me;rw[if_neg (by omega)];show bB (bw B 18 [bQ (fj h)]) _=_;refine bI f18 ?_;rw[hrs,hz,bF,show((0:Int)==0)=true from rfl,bx];show bB (bw B 71 [bQ (fj h)]) _=_;refine bI f71 (gA ?_);rw[tN _ _ _ _ _ _ _ _ _ _ _ _ _ _ _ _ _ _ _ c1,show((0:Int) !=0)=false from rfl,bv,ze7,show(!true)=false from rfl,bv,tM _ _ _ _ _ _ _ _ _ _ _ _ _ _ _ _ _ c1,show((0:Int)==0)=true from rfl,bx];have hp:=K5 (pb hz).1 (by rw[hrs];exact hz) hl;have g72:=f72 (o9 h) (by omega) fun _ h' e=>by
    rw[Hs (pb hz).1] at e;cases e;exact⟨hk.n,hk.l,by show(h.areas.map _).length≤_;rw[zc2];exact hk.a,fun a ha=>by
     obtain⟨b,hb,rfl⟩:=zd8.1 ha;exact hk.c b hb⟩
   rw[hp] at g72;have hnk:(hN h).Ok:=⟨hk.n,hk.l,by show(h.areas.map _).length≤_;rw[zc2];exact hk.a,fun a ha=>by
     obtain⟨b,hb,rfl⟩:=zd8.1 ha;exact hk.c b hb⟩
   have g15:=f15 (hN h) hnk;have g68:=f68 (fj (hN h)) (fj h) (xH hnk) (by rw[Hu,Hu,VN]);refine bI g72 (ya ?_);show bz ((0:Int) !=0) _ (bz ((0:Int) !=0) _ _)=_;rw[show((0:Int) !=0)=false from rfl,bv,bv];refine bI g15 (ql (bI g68 ?_));rw[cj,show(!true)=false from rfl,bv];exact hend
  ·rw[show(cv h !=0)=true by simpa using hz,if_pos rfl];show bB (bw B 18 [bQ (fj h)]) _=_;refine bI f18 ?_;rw[hrs,bF,show(cv h==0)=false by simpa using hz,bv,tN _ _ _ _ _ _ _ _ _ _ _ _ _ _ _ _ _ _ _ c1,show(cv h !=cv h)=false by simp,bv];rw[show ByteArray.mk #[]=bs [] from rfl,ze7,show(!true)=false from rfl,bv,tM _ _ _ _ _ _ _ _ _ _ _ _ _ _ _ _ _ c1,show(cv h==0)=false by simpa using hz,bv];exact hend
 ·obtain⟨B,hB,e15,e16,e17,_⟩:=fP [one 15 [bQ h] (bQ (fj h)),one 16 [bQ (fj h),.int .i64 6,.int .i64 8] (.bool (FH (fj h) 6 8)),one 17 [] (.bool true)]
   ⟨bM (RO h hb) rfl,bM (RP _ 6 8) rfl,bM RI rfl,trivial⟩ rfl
  exact fin B hB (e15 ()) (e16 ()) (e17 ()) fun h1 h2=>absurd ⟨h1,h2⟩ hs
end Go.Pd
end
