import Derived.Test.YtmhbhlbnlmbhlaaGreatDoorCrE
import Derived.Test.YtmhbhlbnlmbhlaaGreatDoorCrA
import Derived.KernelRfl
import Derived.Test.YtmhbhlbnlmbhlaaGreatDoorCrI
import Derived.Test.YtmhbhlbnlmbhlaaGreatDoorCrLaw
import Derived.Test.YtmhbhlbnlmbhlaaGreatDoorPdFf
import Derived.SizedLaws
section
namespace Go.Pd
open Go Go.Proofs Go.RowKit
set_option maxRecDepth 100000
theorem EI(a b:ByteArray):dn a b=dn b a:=Bool.beq_comm
theorem RJ:OK2 44 [] (.slc true 6 (dF kinds6)):=dT cK Tryz.func44 (ord:=O0) (N:=N0) (by kernel_rfl) (M4 _ _ _)
theorem Vp{call:CL}{f:Bool}{n:Nat}{v:ByteArray}:∀(r pre:List ByteArray) (fuel:Nat),(pre++r).length=n→n≤1000→r.length<fuel→xC call LL C1 fuel v f n (dF (pre++r)) (pre.length:Int)=some (.bool (r.any (dn v))):=by
 intro r
 induction r with
 |nil=>
  intro pre fuel hn hB hf;cases fuel with
  |zero=>exact absurd hf (Nat.not_lt_zero _)
  |succ fuel=>
   subst hn;rw[vR,mF,bv];rfl
 |cons x r ih=>
  intro pre fuel hn hB hf;cases fuel with
  |zero=>exact absurd hf (Nat.not_lt_zero _)
  |succ fuel=>
   have ih:=ih (pre++[x]) fuel (by rw[gb];exact hn) hB (by simp at hf;omega);rw[gb] at ih;subst hn;rw[vR,pX,bx,pY,bC,ti,bP,j6 pre x r (by omega),ih,List.any_cons,EI v x];show bz (dn x v) _ _=_;cases dn x v<;>rfl
theorem Vq(v:ByteArray):OK2 29 [.str v] (.bool (fw v)):=by
 obtain⟨B,hb,e⟩:=je RJ rfl;refine dT hb Tryz.func29 (ord:=O0) (N:=Uu) (by kernel_rfl) ((M5 _ _ _ v).trans ?_);rw[e,bA,cL];exact Vp (f:=true) (n:=6) kinds6 [] LL rfl (by omega) (by unfold LL;simp[kinds6])
def jg(h:Hl)(p:Pt):ByteArray×Int:=gO (iG p) h.areas kinds6
theorem RK{call:CL}{h:Hl}{p:Pt}(h54:∀a∈h.areas,call 54 [.slc a.2.1 a.2.2.length (bJ a.2.2),bW p]=some (.int .i64 (m5 p (ff a.2.2) false)))(hl:h.areas.length≤1000){kr kp:List ByteArray}{kind:ByteArray}(hk:kp++kind::kr=kinds6){n:Nat}:
  ∀(r pre:List Ar) (fuel:Nat),pre++r=h.areas→r.length<fuel→lZ call LL C1 n fuel true 6 (dF kinds6) (kp.length:Int) h.name h.tee.1 h.tee.2 h.cup.1 h.cup.2 h.lf h.line.length (bJ h.line) h.af h.areas.length (bV h.areas) p.1 p.2 (pre.length:Int)=
   match eA (iG p) kind r pre.length with
   |some i=>some (fH (kind,(i:Int)))
   |none=>tc call LL C1 n h.name h.tee.1 h.tee.2 h.cup.1 h.cup.2 h.lf h.line.length (bJ h.line) h.af h.areas.length (bV h.areas) p.1 p.2 true 6 (dF kinds6) ((kp.length+1:Nat):Int):=by
 have hkl:kp.length<6:=by
  have:=congrArg List.length hk;simp[kinds6] at this;omega
 intro r
 induction r with
 |nil=>
  intro pre fuel hn hf;cases fuel with
  |zero=>exact absurd hf (Nat.not_lt_zero _)
  |succ fuel=>
   have hlen:pre.length=h.areas.length:=by rw[←hn];simp
   rw[qK,hlen,dH,bv,show IntKind.wrap .i64 ((kp.length:Int)+1)=((kp.length+1:Nat):Int) from cE _ 1 (by omega)];rfl
 |cons x r ih=>
  intro pre fuel hn hf;cases fuel with
  |zero=>exact absurd hf (Nat.not_lt_zero _)
  |succ fuel=>
   have ih:=ih (pre++[x]) fuel (by rw[gb];exact hn) (by simp at hf;omega);rw[za6,zb4] at ih;have hlt:pre.length<h.areas.length:=by rw[←hn];simp
   have e:call 54 [.slc x.2.1 x.2.2.length (bJ x.2.2),.agg [.int .i64 p.1,.int .i64 p.2]]=_:=h54 x (by rw[←hn];simp);have c0:∀k:D→Option D,bu (bV h.areas) (Int.toNat (pre.length:Int)*2+0) k=k (.str x.1):=fun k=>by rw[←hn];exact a0 pre x r
   have c1':∀k:D→Option D,bu (bV h.areas) (Int.toNat (pre.length:Int)*2+1) k=k (.slc x.2.1 x.2.2.length (bJ x.2.2)):=fun k=>by rw[←hn];exact a1 pre x r
   have ck:∀k:D→Option D,bu (dF kinds6) (Int.toNat (kp.length:Int)*1) k=k (.str kind):=fun k=>by rw[←hk];exact ti
   have dk:decide ((0:Int)≤((kp.length:Nat):Int)∧((kp.length:Nat):Int)<((6:Nat):Int))=true:=c5 hkl;rw[qK,dP hlt,bx,c5 hlt,bC,c0,bP,dk,bC,ck,bP,bC,c1',cL,e,bA,bF,bC,ck,bP,show IntKind.wrap .i64 ((pre.length:Int)+1)=((pre.length+1:Nat):Int) from cE _ 1 (by omega),ih];rw[show eA (iG p) kind (x::r) pre.length=bz (dn x.1 kind) (bz (iG p x) (some pre.length) (eA (iG p) kind r (pre.length+1))) (eA (iG p) kind r (pre.length+1)) from rfl];show bz (dn x.1 kind) (bz (iG p x) _ _) _=_;cases dn x.1 kind
   ·rfl
   ·cases iG p x<;>rfl
theorem Vr{call:CL}{h:Hl}{p:Pt}(h54:∀a∈h.areas,call 54 [.slc a.2.1 a.2.2.length (bJ a.2.2),bW p]=some (.int .i64 (m5 p (ff a.2.2) false)))(hl:h.areas.length≤1000):
  ∀(r pre:List ByteArray) (fuel:Nat),pre++r=kinds6→r.length<fuel→tc call LL C1 fuel h.name h.tee.1 h.tee.2 h.cup.1 h.cup.2 h.lf h.line.length (bJ h.line) h.af h.areas.length (bV h.areas) p.1 p.2 true 6 (dF kinds6) (pre.length:Int)=some (fH (gO (iG p) h.areas r)):=by
 intro r
 induction r with
 |nil=>
  intro pre fuel hn hf;cases fuel with
  |zero=>exact absurd hf (Nat.not_lt_zero _)
  |succ fuel=>
   have hlen:pre.length=6:=by
    have:=congrArg List.length hn;simpa [kinds6] using this
   rw[vT,hlen,dH,bv];rfl
 |cons x r ih=>
  intro pre fuel hn hf;cases fuel with
  |zero=>exact absurd hf (Nat.not_lt_zero _)
  |succ fuel=>
   have ih:=ih (pre++[x]) fuel (by rw[gb];exact hn) (by simp at hf;omega);rw[za6,zb4] at ih;have hlt:pre.length<6:=by
    have:=congrArg List.length hn;simp[kinds6] at this;omega
   have hi:=RK h54 hl hn (n:=fuel) h.areas [] LL rfl (by unfold LL;omega);rw[show(([]:List Ar).length:Int)=0 from rfl,show([]:List Ar).length=0 from rfl,ih] at hi;rw[vT,dP hlt,bx,hi];rw[show gO (iG p) h.areas (x::r)=(match eA (iG p) x h.areas 0 with|some i=>(x,(i:Int))|none=>gO (iG p) h.areas r) from rfl];cases eA (iG p) x h.areas 0<;>rfl
theorem Vs(h:Hl)(hk:h.Ok)(p:Pt):OK2 25 [bQ h,bW p] (fH (jg h p)):=by
 obtain⟨B,hb,e44,e54,_⟩:=fP [one 44 [] (.slc true 6 (dF kinds6)),⟨54,{a:Ar//a∈h.areas},fun a=>[.slc a.1.2.1 a.1.2.2.length (bJ a.1.2.2),bW p],fun a=> .int .i64 (m5 p (ff a.1.2.2) false)⟩]
  ⟨bM RJ rfl,⟨fun a=>Ur a.1.2.2 p (hk.c a.1 a.2),fun x y e=>by
   have e:[D.slc x.1.2.1 x.1.2.2.length (bJ x.1.2.2),bW p]=[D.slc y.1.2.1 y.1.2.2.length (bJ y.1.2.2),bW p]:=e;simp only[zc5,D.slc.injEq,and_true] at e;show D.int .i64 (m5 p (ff x.1.2.2) false)= .int .i64 (m5 p (ff y.1.2.2) false);rw[fT e.2.2],fun _=>rfl⟩,trivial⟩ rfl
 refine dT hb Tryz.func25 (ord:=O0) (N:=Tw) (by kernel_rfl) ((Nc _ _ _ h.name h.tee.1 h.tee.2 h.cup.1 h.cup.2 h.lf h.line.length (bJ h.line) h.af h.areas.length (bV h.areas) p.1 p.2).trans ?_);have f44:bw B 44 []=some (.slc true 6 (dF kinds6)):=e44 ();rw[f44,bA,cL];exact Vr (fun a ha=>e54 ⟨a,ha⟩) hk.a kinds6 [] LL rfl (by unfold LL;simp[kinds6])
def qd(t:Int):List Ar→Int
 |[]=>t
 |a::r=>bz (!fw a.1) 13 (bz (dI a.2.2 !=0) (dI a.2.2) (qd t r))
def db(h:Hl):Int:=bz (!gj h.name) 8 (bz (cb h.tee) 3 (bz (cb h.cup) 3 (bz (decide ((h.line.length:Int)>16)) 5 (bz (h.line.any cb) 3 (bz (decide ((h.areas.length:Int)>32)) 5 (qd (vn (jg h h.tee).1 (jg h h.cup).1) h.areas))))))
theorem RL{call:CL}{h:Hl}(hk:h.Ok)(h29:∀v,call 29 [.str v]=some (.bool (fw v)))(h49:∀a∈h.areas,call 49 [.slc a.2.1 a.2.2.length (bJ a.2.2)]=some (.int .i64 (dI a.2.2)))
  (h25:∀p,call 25 [bQ h,bW p]=some (fH (jg h p))):
  ∀(r pre:List Ar) (fuel:Nat),pre++r=h.areas→r.length<fuel→l5 call LL C1 fuel h.name h.tee.1 h.tee.2 h.cup.1 h.cup.2 h.lf h.line.length (bJ h.line) h.af h.areas.length (bV h.areas) (pre.length:Int)=some (.int .i64 (qd (vn (jg h h.tee).1 (jg h h.cup).1) r)):=by
 intro r;have hal:=hk.a
 induction r with
 |nil=>
  intro pre fuel hn hf;cases fuel with
  |zero=>exact absurd hf (Nat.not_lt_zero _)
  |succ fuel=>
   have hlen:pre.length=h.areas.length:=by rw[←hn];simp
   have rd:∀(x:ByteArray×Int) (k:ByteArray→Int→Option D),(cy (fH x) 2 fun c=>bu c 0 fun d=>bU d fun s=>bu c 1 fun d'=>bD .i64 d' fun y=>k s y)=k x.1 x.2:=fun _ _=>rfl;have ht:call 25 [bQ h,.agg [.int .i64 h.tee.1,.int .i64 h.tee.2]]=_:=h25 h.tee;have hc:call 25 [bQ h,.agg [.int .i64 h.cup.1,.int .i64 h.cup.2]]=_:=h25 h.cup;rw[qL,hlen,dH,bv,ht,bA,rd,hc,bA,rd];rw[show qd (vn (jg h h.tee).1 (jg h h.cup).1) []=vn (jg h h.tee).1 (jg h h.cup).1 from rfl];unfold vn dn BV th BW;generalize (ByteArray.toList (jg h h.tee).1==ByteArray.toList (ByteArray.mk #[119,97,116,101,114]))=b1;generalize (ByteArray.toList (jg h h.tee).1==ByteArray.toList (ByteArray.mk #[111,117,116]))=b2;generalize (ByteArray.toList (jg h h.cup).1==ByteArray.toList (ByteArray.mk #[103,114,101,101,110]))=b3;cases b1<;>cases b2<;>cases b3<;>rfl
 |cons x r ih=>
  intro pre fuel hn hf;cases fuel with
  |zero=>exact absurd hf (Nat.not_lt_zero _)
  |succ fuel=>
   have ih:=ih (pre++[x]) fuel (by rw[gb];exact hn) (by simp at hf;omega);rw[za6,zb4] at ih;have hlt:pre.length<h.areas.length:=by rw[←hn];simp
   have c0:∀k:D→Option D,bu (bV h.areas) (Int.toNat (pre.length:Int)*2+0) k=k (.str x.1):=fun k=>by rw[←hn];exact a0 pre x r
   have c1':∀k:D→Option D,bu (bV h.areas) (Int.toNat (pre.length:Int)*2+1) k=k (.slc x.2.1 x.2.2.length (bJ x.2.2)):=fun k=>by rw[←hn];exact a1 pre x r
   rw[qL,dP hlt,bx,c5 hlt,bC,c0,bP,h29,bA,cj,bC,c1',cL,h49 x (by rw[←hn];simp),bA,bF,
    show IntKind.wrap .i64 ((pre.length:Int)+1)=((pre.length+1:Nat):Int) from cE _ 1 (by omega),ih]
   rw[show qd (vn (jg h h.tee).1 (jg h h.cup).1) (x::r)=bz (!fw x.1) 13 (bz (dI x.2.2 !=0) (dI x.2.2) (qd (vn (jg h h.tee).1 (jg h h.cup).1) r)) from rfl];cases fw x.1
   ·rfl
   ·cases dI x.2.2 !=0<;>rfl
theorem Vt(b:Bool):(bz b (3:Int) 0 !=0)=b:=by cases b<;>rfl
theorem RM{call:CL}(h24:∀p,call 24 [bW p]=some (.int .i64 (bz (cb p) 3 0))){h:Hl}(hk:h.Ok):∀(r pre:List Pt) (fuel:Nat),pre++r=h.line→r.length<fuel→
  rP call LL C1 fuel h.name h.tee.1 h.tee.2 h.cup.1 h.cup.2 h.lf h.line.length (bJ h.line) h.af h.areas.length (bV h.areas) (pre.length:Int)=bz (r.any cb) (some (.int .i64 3)) (bz (decide ((h.areas.length:Int)>32)) (some (.int .i64 5)) (l5 call LL C1 LL h.name h.tee.1 h.tee.2 h.cup.1 h.cup.2 h.lf h.line.length (bJ h.line) h.af h.areas.length (bV h.areas) 0)):=by
 intro r;have hal:=hk.l
 induction r with
 |nil=>
  intro pre fuel hn hf;cases fuel with
  |zero=>exact absurd hf (Nat.not_lt_zero _)
  |succ fuel=>
   have hlen:pre.length=h.line.length:=by rw[←hn];simp
   rw[tf,hlen,dH,bv];rfl
 |cons x r ih=>
  intro pre fuel hn hf;cases fuel with
  |zero=>exact absurd hf (Nat.not_lt_zero _)
  |succ fuel=>
   have ih:=ih (pre++[x]) fuel (by rw[gb];exact hn) (by simp at hf;omega);rw[za6,zb4] at ih;have hlt:pre.length<h.line.length:=by rw[←hn];simp
   have e:call 24 [D.agg [.int .i64 x.1,.int .i64 x.2]]=_:=h24 x;have c0:∀k:D→Option D,bu (bJ h.line) (Int.toNat (pre.length:Int)*2+0) k=k (.int .i64 x.1):=fun k=>by rw[←hn];exact q0 pre x r
   have c1':∀k:D→Option D,bu (bJ h.line) (Int.toNat (pre.length:Int)*2+1) k=k (.int .i64 x.2):=fun k=>by rw[←hn];exact q1 pre x r
   rw[tf,dP hlt,bx,c5 hlt,bC,c0,bF,c1',bF,e,bA,bF,Vt,show IntKind.wrap .i64 ((pre.length:Int)+1)=((pre.length+1:Nat):Int) from cE _ 1 (by omega),ih,List.any_cons];cases cb x<;>rfl
theorem RN(h:Hl)(hk:h.Ok):OK2 18 [bQ h] (.int .i64 (db h)):=by
 obtain⟨B,hb,e75,e24,e29,e49,e25,_⟩:=fP [one 75 [.str h.name] (.bool (gj h.name)),Jp 24 fun p=> .int .i64 (bz (cb p) 3 0),⟨29,ByteArray,fun v=>[.str v],fun v=> .bool (fw v)⟩,
   ⟨49,{a:Ar//a∈h.areas},fun a=>[.slc a.1.2.1 a.1.2.2.length (bJ a.1.2.2)],fun a=> .int .i64 (dI a.1.2.2)⟩,⟨25,Pt,fun p=>[bQ h,bW p],fun p=>fH (jg h p)⟩]
  ⟨bM (Ux h.name) rfl,p8 QB (fun _=>rfl),⟨fun v=>Vq v,fun(x y:ByteArray) e=>by
    have e:[D.str x]=[D.str y]:=e;cases e;rfl,fun _=>rfl⟩,⟨fun a=>Us a.1.2.2 (hk.c a.1 a.2),fun x y e=>by
    have e:[D.slc x.1.2.1 x.1.2.2.length (bJ x.1.2.2)]=[D.slc y.1.2.1 y.1.2.2.length (bJ y.1.2.2)]:=e;simp only[zc5,D.slc.injEq,and_true] at e;show D.int .i64 (dI x.1.2.2)= .int .i64 (dI y.1.2.2);rw[fT e.2.2],fun _=>rfl⟩,⟨fun p=>Vs h hk p,fun x y e=>by
    have e:[bQ h,bW x]=[bQ h,bW y]:=e;simp only[zc5,true_and,and_true] at e;show fH (jg h x)=fH (jg h y);rw[fY e],fun _=>rfl⟩,trivial⟩ rfl
 refine dT hb Tryz.func18 (ord:=O0) (N:=QM) (by kernel_rfl) ((Nd _ _ _ h.name h.tee.1 h.tee.2 h.cup.1 h.cup.2 h.lf h.line.length (bJ h.line) h.af h.areas.length (bV h.areas)).trans ?_);have f75:bw B 75 [.str h.name]=some (.bool (gj h.name)):=e75 ();have ft:bw B 24 [.agg [.int .i64 h.tee.1,.int .i64 h.tee.2]]=some (.int .i64 (bz (cb h.tee) 3 0)):=e24 h.tee;have fc:bw B 24 [.agg [.int .i64 h.cup.1,.int .i64 h.cup.2]]=some (.int .i64 (bz (cb h.cup) 3 0)):=e24 h.cup;have hl:=RM (call:=bw B) (fun p=>e24 p) hk h.line [] LL rfl (by have:=hk.l;unfold LL;omega);have ha:=RL (call:=bw B) hk (fun v=>e29 v) (fun a ha=>e49 ⟨a,ha⟩) (fun p=>e25 p) h.areas [] LL rfl (by have:=hk.a;unfold LL;omega);rw[show(([]:List Ar).length:Int)=0 from rfl] at ha;rw[show(([]:List Pt).length:Int)=0 from rfl,ha] at hl;rw[f75,bA,cj,ft,bA,bF,Vt,fc,bA,bF,Vt,EF _ _ _ _ _ _ _ _ _ _ _ _ _ _ c1,hl];unfold db;cases gj h.name
 ·rfl
 ·cases cb h.tee
  ·cases cb h.cup
   ·cases decide ((h.line.length:Int)>16)
    ·cases h.line.any cb
     ·cases decide ((h.areas.length:Int)>32)<;>rfl
     ·rfl
    ·rfl
   ·rfl
  ·rfl
theorem zr{h:Hl}{p:Pt}(hp:cb p=false)(ha:∀a∈h.areas,a.2.2.any cb=false):gv h p=jg h p:=
 to (fun a hm=>by
  unfold EG iG;rw[F9 (ha a hm) hp]) kinds6
theorem mI(x y:Int):cI [x,y]=bz (x !=0) x (bz (y !=0) y 0):=rfl
theorem Gj(a:Ar):Dx a=bz (!fw a.1) 13 (dI a.2.2):=by
 unfold Dx;rw[mI,mH];generalize dI a.2.2=z;cases fw a.1
 ·rfl
 ·cases hz:z !=0
  ·have:z=0:=by simpa using hz
   subst this;rfl
  ·rfl
theorem mJ:∀{l:List Ar},gZ l=0→∀a∈l,fw a.1=true∧dG a.2.2=0
 |[],_,a,h=>by cases h
 |x::r,h,a,ha=>by
  rw[show gZ (x::r)=bz (Dx x !=0) (Dx x) (gZ r) from rfl] at h;cases hx:Dx x !=0
  ·have hx0:Dx x=0:=by simpa using hx
   rw[hx,bv] at h;rcases List.mem_cons.1 ha with rfl|ha
   ·rw[Gj] at hx0;cases hk:fw a.1
    ·rw[hk] at hx0;cases hx0
    ·rw[hk] at hx0;exact⟨rfl,by rw[mH];exact hx0⟩
   ·exact mJ h a ha
  ·rw[hx,bx] at h;rw[h] at hx;cases hx
theorem DD(t:Int):∀l:List Ar,qd t l=bz (gZ l !=0) (gZ l) t
 |[]=>rfl
 |a::r=>by
  rw[show qd t (a::r)=bz (!fw a.1) 13 (bz (dI a.2.2 !=0) (dI a.2.2) (qd t r)) from rfl,show gZ (a::r)=bz (Dx a !=0) (Dx a) (gZ r) from rfl,Gj,DD t r];generalize dI a.2.2=z;cases fw a.1
  ·rfl
  ·show bz (z !=0) z _=bz ((bz (z !=0) z (gZ r)) !=0) (bz (z !=0) z (gZ r)) t;cases hz:z !=0
   ·rfl
   ·show z=bz (z !=0) z t;rw[hz];rfl
theorem qe(h:Hl):cv h=db h:=by
 unfold cv db;rw[DD];have hpre:oH h=bz (!gj h.name) 8 (bz (cb h.tee) 3 (bz (cb h.cup) 3 (bz (decide ((h.line.length:Int)>16)) 5 (bz (h.line.any cb) 3 (bz (decide ((h.areas.length:Int)>32)) 5 0))))):=by
  unfold oH;rw[show[h.tee,h.cup].any cb=(cb h.tee||(cb h.cup||false)) by simp];cases gj h.name<;>cases cb h.tee<;>cases cb h.cup<;>cases decide ((h.line.length:Int)>16)<;>cases h.line.any cb<;>cases decide ((h.areas.length:Int)>32)<;>rfl
 rw[hpre];cases gj h.name
 ·rfl
 ·cases ht:cb h.tee
  ·cases hc:cb h.cup
   ·cases decide ((h.line.length:Int)>16)
    ·cases h.line.any cb
     ·cases decide ((h.areas.length:Int)>32)
      ·show bz (gZ h.areas !=0) (gZ h.areas) _=bz (gZ h.areas !=0) (gZ h.areas) _;cases hz:gZ h.areas !=0
       ·have h0:gZ h.areas=0:=by simpa using hz
        have hall:∀a∈h.areas,a.2.2.any cb=false:=fun a ha=>(qJ (mJ h0 a ha).2).2.2.1;rw[bv,bv,zr ht hall,zr hc hall]
       ·rfl
      ·rfl
     ·rfl
    ·rfl
   ·rfl
  ·rfl
end Go.Pd
end
section
namespace Go.Pd
open Go Go.Proofs
set_option maxRecDepth 100000
def Vu:bY:=fun p=>match p with
 |58=>nm [2,3,16,17,18] [1,5] [1,2,3,5,26]
 |_=>none
noncomputable def jU(call:CL)(L:Nat)(C:Nat→Nat)(n:Nat)(a1:Bool)(a2:Nat)(a0:List D)(M:ByteArray)(O S U V:Int)(X:Bool)(Y:Nat)(W:List D)(z K:Int)(q:Ow):Option D:=
 cw (cF call L C) O0 Vu FinM.canon Tryz.f15 (bt 5 11) [] n (St.mk (J::J::D.loc 2 0 0::D.loc 3 0 0::jn 12 (D.slc a1 a2 a0::D.int .i64 z::D.int .i64 K::jn 11 [])) (Z::Z::(1,some (Ob.box [D.str (ByteArray.mk #[]),D.int .i64 0,D.int .i64 0,D.int .i64 0,D.int .i64 0,D.nils,D.nils] false))::(1,some (Ob.box [D.str M,D.int .i64 O,D.int .i64 S,D.int .i64 U,D.int .i64 V,D.slc X Y W,jv 26 q] false))::zn 22 [j5 133 2 q,Z,Z,Z]))
theorem tB(call:CL)(L:Nat)(C:Nat→Nat)(n:Nat)(Z:Bool)(Y:Nat)(z:List D)(K:ByteArray)(M O S U:Int)(W:Bool)(X:Nat)(V:List D)(J q:Int):jU call L C (n+1) Z Y z K M O S U W X V J q (Ow.nil)=
 (bz (decide (q<J))
 (bH (decide (0≤q∧q<(Y:Int)))
 (bu z (Int.toNat q*2+0) fun d=>bU d fun s=>bu z (Int.toNat q*2+1) fun a0=>dr a0 fun f a1 c=>jU call L C n Z Y z K M O S U W X V J (IntKind.wrap .i64 (q+1)) (Ow.own 1 [D.str s,D.slc f a1 c])))
 (some (D.agg [D.str K,D.int .i64 M,D.int .i64 O,D.int .i64 S,D.int .i64 U,D.slc W X V,D.slc true 0 []]))):=by kernel_rfl
theorem tC(call:CL)(L:Nat)(C:Nat→Nat)(n:Nat)(a1:Bool)(Z:Nat)(J:List D)(M:ByteArray)(O S U V:Int)(X:Bool)(Y:Nat)(W:List D)(K q:Int)(z:Nat)(a0:List D):jU call L C (n+1) a1 Z J M O S U V X Y W K q (Ow.own z a0)=
 (bz (decide (q<K))
 (bH (decide (0≤q∧q<(Z:Int)))
 (bu J (Int.toNat q*2+0) fun a3=>bU a3 fun a7=>bu J (Int.toNat q*2+1) fun a4=>dr a4 fun a5 a6 a2=>bH (decide ((z+1)*40≤limit∧z+1≤9223372036854775807))
 (jU call L C n a1 Z J M O S U V X Y W K (IntKind.wrap .i64 (q+1)) (Ow.own (z+1) (a0++[D.str a7,D.slc a5 a6 a2])))))
 (some (D.agg [D.str M,D.int .i64 O,D.int .i64 S,D.int .i64 U,D.int .i64 V,D.slc X Y W,D.slc false z a0]))):=by kernel_rfl
theorem NJ(call:CL)(L:Nat)(C:Nat→Nat)(z:ByteArray)(J K M O:Int)(U:Bool)(V:Nat)(S:List D)(X:Bool)(q:Nat)(W:List D):bT (cF call L C) O0 Vu FinM.canon Tryz.f15 [D.agg [D.str z,D.int .i64 J,D.int .i64 K,D.int .i64 M,D.int .i64 O,D.slc U V S,D.slc X q W]]=
 (jU call L C L X q W z J K M O U V S ((q:Int)) 0 (Ow.nil)):=by kernel_rfl
def TB:bY:=fun p=>match p with
 |7=>nm [2,3] [] [3]
 |58=>nm [2,3,7] [] [3]
 |_=>none
noncomputable def tD(call:CL)(L:Nat)(C:Nat→Nat)(q:Nat)(z:Int)(K:ByteArray)(M O S U:Int)(W:Bool)(X:Nat)(V:List D)(a0:Bool)(a1:Nat)(Y:List D)(vi:Int):Option D:=
 cw (cF call L C) O0 TB FinM.canon Tryz.f16 (bt 5 11) [] q (St.mk (J::J::D.int .i64 z::D.loc 3 0 0::J::J::J::D.int .i64 vi::jn 65 []) (Z::Z::Z::(1,some (Ob.box [D.str K,D.int .i64 M,D.int .i64 O,D.int .i64 S,D.int .i64 U,D.slc W X V,D.slc a0 a1 Y] false))::zn 69 []))
noncomputable def zt(call:CL)(L:Nat)(C:Nat→Nat)(q:Int)(z:ByteArray)(K M O S:Int)(V:Bool)(W:Nat)(U:List D)(Y:Bool)(a0:Nat)(X:List D):Option D:=
 eL (cF call L C) O0 TB FinM.canon Tryz.f16 [true,true] [] (C 7) (St.mk (J::J::D.int .i64 q::D.loc 3 0 0::jn 69 []) (Z::Z::Z::(1,some (Ob.box [D.str z,D.int .i64 K,D.int .i64 M,D.int .i64 O,D.int .i64 S,D.slc V W U,D.slc Y a0 X] false))::zn 69 []))
theorem vZ(call:CL)(L:Nat)(C:Nat→Nat)(O:Nat)(M:Int)(S:ByteArray)(U V W X:Int)(Z:Bool)(a0:Nat)(Y:List D)(a1:Bool)(z:Nat)(J:List D)(q:Int):tD call L C (O+1) M S U V W X Z a0 Y a1 z J q=
 (bz (decide (q<(z:Int)))
 (bH (decide (0≤q∧q<(z:Int)))
 (bu J (Int.toNat q*2+1) fun d=>dr d fun _f K _c=>bH (decide (0≤q∧q<(z:Int)))
 (bu J (Int.toNat q*2+0) fun a2=>bU a2 fun s=>bz (decide (((ByteArray.size s):Int)>60))
 (some (D.bool false))
 (bz (decide ((K:Int)>M))
 (bz (decide ((K:Int)≤64))
 (some (D.bool false))
 (bz (decide ((K:Int)>67))
 (some (D.bool false))
 (tD call L C O M S U V W X Z a0 Y a1 z J (IntKind.wrap .i64 (q+1)))))
 (bz (decide ((K:Int)>67))
 (some (D.bool false))
 (tD call L C O M S U V W X Z a0 Y a1 z J (IntKind.wrap .i64 (q+1))))))))
 (some (D.bool true))):=by kernel_rfl
theorem Gk(call:CL)(L:Nat)(C:Nat→Nat)(q:Int)(z:ByteArray)(J K M O:Int)(U:Bool)(V:Nat)(S:List D)(X:Bool)(Y:Nat)(W:List D)(hC:∀t,C t=1):zt call L C q z J K M O U V S X Y W=
 (tD call L C L q z J K M O U V S X Y W 0):=by
 unfold zt;rw[hC]
 kernel_rfl
theorem NK(call:CL)(L:Nat)(C:Nat→Nat)(z:ByteArray)(M O S U:Int)(W:Bool)(J:Nat)(V:List D)(Y:Bool)(q:Nat)(X:List D)(Z K:Int):bT (cF call L C) O0 TB FinM.canon Tryz.f16 [D.agg [D.str z,D.int .i64 M,D.int .i64 O,D.int .i64 S,D.int .i64 U,D.slc W J V,D.slc Y q X],D.int .i64 Z,D.int .i64 K]=
 (bz (decide (((ByteArray.size z):Int)>60))
 (some (D.bool false))
 (bz (decide ((J:Int)>19))
 (some (D.bool false))
 (bz (decide ((q:Int)>Z))
 (bz (decide ((q:Int)≤32))
 (some (D.bool false))
 (bz (decide ((q:Int)>35))
 (some (D.bool false))
 (zt call L C K z M O S U W J V Y q X)))
 (bz (decide ((q:Int)>35))
 (some (D.bool false))
 (zt call L C K z M O S U W J V Y q X))))):=by kernel_rfl
end Go.Pd
end
section
namespace Go.Pd
open Go Go.Proofs Go.RowKit
set_option maxRecDepth 100000
def fj(h:Hl):Hl:={h with af:=h.areas.isEmpty}
def LR(pre:List Ar):Ow:=match pre with
 |[]=> .nil
 |_=> .own pre.length (bV pre)
theorem Gm(a b:List Ar):bV (a++b)=bV a++bV b:=by simp[bV]
theorem Vv{call:CL}{h:Hl}(hb:h.areas.length*40≤140737488355328):∀(r pre:List Ar) (fuel:Nat),pre++r=h.areas→r.length<fuel→
  jU call LL C1 fuel h.af h.areas.length (bV h.areas) h.name h.tee.1 h.tee.2 h.cup.1 h.cup.2 h.lf h.line.length (bJ h.line) (h.areas.length:Int) (pre.length:Int) (LR pre)=some (bQ (fj h)):=by
 intro r
 induction r with
 |nil=>
  intro pre fuel hp hf;obtain⟨fuel,rfl⟩:∃n,fuel=n+1:=⟨fuel-1,by omega⟩;rw[zb6] at hp;subst hp;have e1:decide (((h.areas.length:Nat):Int)<(h.areas.length:Int))=false:=by simp
  cases ha:h.areas with
  |nil=>
   have e1:decide (((0:Nat):Int)<((0:Nat):Int))=false:=rfl;show jU call LL C1 (fuel+1) h.af 0 [] h.name h.tee.1 h.tee.2 h.cup.1 h.cup.2 h.lf h.line.length (bJ h.line) ((0:Nat):Int) ((0:Nat):Int) .nil=_;rw[tB,e1,bv];unfold fj;rw[ha];rfl
  |cons x l=>
   rw[ha] at e1;show jU call LL C1 (fuel+1) h.af (x::l).length (bV (x::l)) h.name h.tee.1 h.tee.2 h.cup.1 h.cup.2 h.lf h.line.length (bJ h.line) ((x::l).length:Int) ((x::l).length:Int) (.own (x::l).length (bV (x::l)))=_;rw[tC,e1,bv];unfold fj;rw[ha];rfl
 |cons x r ih=>
  intro pre fuel hp hf;obtain⟨fuel,rfl⟩:∃n,fuel=n+1:=⟨fuel-1,by omega⟩;have ih:=ih (pre++[x]) fuel (by rw[←hp];simp) (by simp at hf;omega);have hlen:pre.length<h.areas.length:=by rw[←hp];simp
  have e1:decide ((pre.length:Int)<(h.areas.length:Int))=true:=by simp;omega
  have e2:decide ((0:Int)≤(pre.length:Int)∧(pre.length:Int)<(h.areas.length:Int))=true:=za1 ⟨by omega,by omega⟩;have e3:IntKind.wrap .i64 ((pre.length:Int)+1)=((pre++[x]).length:Int):=(bS (by omega)).trans (by simp);have q0:∀{γ:Type} (k:D→Option γ),bu (bV h.areas) (Int.toNat (pre.length:Int)*2+0) k=k (.str x.1):=fun k=>by rw[←hp];exact a0 pre x r
  have q1:∀{γ:Type} (k:D→Option γ),bu (bV h.areas) (Int.toNat (pre.length:Int)*2+1) k=k (.slc x.2.1 x.2.2.length (bJ x.2.2)):=fun k=>by rw[←hp];exact a1 pre x r
  cases pre with
  |nil=>
   show jU call LL C1 (fuel+1) h.af h.areas.length (bV h.areas) h.name h.tee.1 h.tee.2 h.cup.1 h.cup.2 h.lf h.line.length (bJ h.line) (h.areas.length:Int) (([]:List Ar).length:Int) .nil=_;rw[tB,e1,bx,e2,bC,q0,bP,q1,cL,e3];exact ih
  |cons y pre=>
   show jU call LL C1 (fuel+1) h.af h.areas.length (bV h.areas) h.name h.tee.1 h.tee.2 h.cup.1 h.cup.2 h.lf h.line.length (bJ h.line) (h.areas.length:Int) ((y::pre).length:Int) (.own (y::pre).length (bV (y::pre)))=_;rw[tC,e1,bx,e2,bC,q0,bP,q1,cL,e3,show decide (((y::pre).length+1)*40≤Go.Pd.limit∧(y::pre).length+1≤9223372036854775807)=true from za1 ⟨by unfold Go.Pd.limit;omega,by omega⟩,bC];have e4:bV (y::pre)++[D.str x.1,D.slc x.2.1 x.2.2.length (bJ x.2.2)]=bV (y::pre++[x]):=by rw[Gm];rfl
   rw[e4];have e5:LR (y::pre++[x])= .own ((y::pre).length+1) (bV (y::pre++[x])):=by
    show Ow.own _ _=_;rw[show(y::pre++[x]).length=(y::pre).length+1 by simp]
   rw[e5] at ih;exact ih
theorem RO(h:Hl)(hb:h.areas.length*40≤140737488355328):OK2 15 [bQ h] (bQ (fj h)):=
 dT cK Tryz.func15 (ord:=O0) (N:=Vu) (by kernel_rfl) ((NJ _ _ _ h.name h.tee.1 h.tee.2 h.cup.1 h.cup.2 h.lf h.line.length (bJ h.line) h.af h.areas.length (bV h.areas)).trans (Vv hb h.areas [] LL rfl (by unfold LL;omega)))
def JV(corners:Int)(a:Ar):Bool:=bz (decide ((a.1.size:Int)>60)) false (bz (decide ((a.2.2.length:Int)>corners)) (bz (decide ((a.2.2.length:Int)≤64)) false (bz (decide ((a.2.2.length:Int)>67)) false true)) (bz (decide ((a.2.2.length:Int)>67)) false true))
def FH(h:Hl)(areas corners:Int):Bool:=bz (decide ((h.name.size:Int)>60)) false (bz (decide ((h.line.length:Int)>19)) false
 (bz (decide ((h.areas.length:Int)>areas)) (bz (decide ((h.areas.length:Int)≤32)) false (bz (decide ((h.areas.length:Int)>35)) false (h.areas.all (JV corners)))) (bz (decide ((h.areas.length:Int)>35)) false (h.areas.all (JV corners)))))
theorem Vw{call:CL}{h:Hl}{corners:Int}(hl:h.areas.length≤1000):∀(r pre:List Ar) (fuel:Nat),pre++r=h.areas→r.length<fuel→
  tD call LL C1 fuel corners h.name h.tee.1 h.tee.2 h.cup.1 h.cup.2 h.lf h.line.length (bJ h.line) h.af h.areas.length (bV h.areas) (pre.length:Int)=some (.bool (r.all (JV corners))):=by
 intro r
 induction r with
 |nil=>
  intro pre fuel hp hf;obtain⟨fuel,rfl⟩:∃n,fuel=n+1:=⟨fuel-1,by omega⟩;rw[zb6] at hp;have e1:decide ((pre.length:Int)<(h.areas.length:Int))=false:=by rw[hp];simp
  rw[vZ,e1,bv];rfl
 |cons x r ih=>
  intro pre fuel hp hf;obtain⟨fuel,rfl⟩:∃n,fuel=n+1:=⟨fuel-1,by omega⟩;have ih:=ih (pre++[x]) fuel (by rw[←hp];simp) (by simp at hf;omega);have hlen:pre.length<h.areas.length:=by rw[←hp];simp
  have e1:decide ((pre.length:Int)<(h.areas.length:Int))=true:=by simp;omega
  have e2:decide ((0:Int)≤(pre.length:Int)∧(pre.length:Int)<(h.areas.length:Int))=true:=za1 ⟨by omega,by omega⟩;have e3:IntKind.wrap .i64 ((pre.length:Int)+1)=((pre++[x]).length:Int):=(bS (by omega)).trans (by simp);have q0:∀{γ:Type} (k:D→Option γ),bu (bV h.areas) (Int.toNat (pre.length:Int)*2+0) k=k (.str x.1):=fun k=>by rw[←hp];exact a0 pre x r
  have q1:∀{γ:Type} (k:D→Option γ),bu (bV h.areas) (Int.toNat (pre.length:Int)*2+1) k=k (.slc x.2.1 x.2.2.length (bJ x.2.2)):=fun k=>by rw[←hp];exact a1 pre x r
  rw[vZ,e1,bx,e2,bC,q1,cL,bC,q0,bP,e3,ih,List.all_cons];unfold JV;cases decide ((x.1.size:Int)>60)<;>cases decide ((x.2.2.length:Int)>corners)<;>cases decide ((x.2.2.length:Int)≤64)<;>cases decide ((x.2.2.length:Int)>67)<;>rfl
theorem RP(h:Hl)(areas corners:Int):OK2 16 [bQ h,.int .i64 areas,.int .i64 corners] (.bool (FH h areas corners)):=by
 refine dT cK Tryz.func16 (ord:=O0) (N:=TB) (by kernel_rfl) ((NK _ _ _ h.name h.tee.1 h.tee.2 h.cup.1 h.cup.2 h.lf h.line.length (bJ h.line) h.af h.areas.length (bV h.areas) areas corners).trans ?_);have key:decide ((h.areas.length:Int)>35)=false→zt (bw fun _ _=>none) LL C1 corners h.name h.tee.1 h.tee.2 h.cup.1 h.cup.2 h.lf h.line.length (bJ h.line) h.af h.areas.length (bV h.areas)=some (.bool (h.areas.all (JV corners))):=fun hd=>by
  rw[Gk (C:=C1) (hC:=fun _=>rfl)];have:h.areas.length≤35:=by simp at hd;omega
  exact Vw (by omega) h.areas [] LL rfl (by unfold LL;omega)
 unfold FH;cases hd:decide ((h.areas.length:Int)>35)
 ·rw[key hd];cases decide ((h.name.size:Int)>60)<;>cases decide ((h.line.length:Int)>19)<;>cases decide ((h.areas.length:Int)>areas)<;>cases decide ((h.areas.length:Int)≤32)<;>rfl
 ·cases decide ((h.name.size:Int)>60)<;>cases decide ((h.line.length:Int)>19)<;>cases decide ((h.areas.length:Int)>areas)<;>cases decide ((h.areas.length:Int)≤32)<;>rfl
theorem NL{h:Hl}{areas corners:Int}(hs:FH h areas corners=true):h.Ok:=by
 have hall:(bz (decide ((h.areas.length:Int)>35)) false (h.areas.all (JV corners)))=true∧decide ((h.name.size:Int)>60)=false∧decide ((h.line.length:Int)>19)=false:=by
  unfold FH at hs;cases h1:decide ((h.name.size:Int)>60)
  ·cases h2:decide ((h.line.length:Int)>19)
   ·rw[h1,h2,bv,bv] at hs;refine⟨?_,rfl,rfl⟩;cases h3:decide ((h.areas.length:Int)>areas)
    ·rw[h3,bv] at hs;exact hs
    ·rw[h3,bx] at hs;cases h4:decide ((h.areas.length:Int)≤32)
     ·rw[h4,bv] at hs;exact hs
     ·rw[h4,bx] at hs;cases hs
   ·rw[h1,h2,bv,bx] at hs;cases hs
  ·rw[h1,bx] at hs;cases hs
 obtain⟨h1,h2,h3⟩:=hall;cases h4:decide ((h.areas.length:Int)>35)
 ·rw[h4,bv] at h1;simp only[decide_eq_false_iff_not] at h2 h3 h4;refine⟨by omega,by omega,by omega,fun a ha=> ?_⟩;have h5:=zd9.1 h1 a ha;unfold JV at h5;cases h6:decide ((a.2.2.length:Int)>67)
  ·simp only[decide_eq_false_iff_not] at h6;omega
  ·rw[h6] at h5
   revert h5
   cases decide ((a.1.size:Int)>60)<;>cases decide ((a.2.2.length:Int)>corners)<;>cases decide ((a.2.2.length:Int)≤64)<;>(intro h5;cases h5)
 ·rw[h4,bx] at h1;cases h1
theorem Gn{h:Hl}(hz:cv h=0):∀a∈h.areas,a.2.2.any cb=false:=by
 unfold cv at hz;by_cases hp:oH h=0
 ·rw[show(oH h !=0)=false by simpa using hp,bv] at hz;by_cases ha:gZ h.areas=0
  ·exact fun a hm=>(qJ (mJ ha a hm).2).2.2.1
  ·rw[show(gZ h.areas !=0)=true by simpa using ha,bx] at hz;exact absurd hz ha
 ·rw[show(oH h !=0)=true by simpa using hp,bx] at hz;exact absurd hz hp
theorem xH{h:Hl}(hk:h.Ok):(fj h).Ok:=⟨hk.n,hk.l,hk.a,hk.c⟩
theorem B0{P:Program}{n:Nat}{t:TypeId}{ds:List D}{fs:Array Field}{f1 f2 f3 f4 f5:Field}(hu:P.underlying t=some (.struct fs))(hfs:fs.toList=[f1,f2,f3,f4,f5])(h:Ty P (n+1) t ds):
  ∃g1 g2 g3 g4 g5,ds=g1++g2++g3++g4++g5∧Ty P n f1.type g1∧Ty P n f2.type g2∧Ty P n f3.type g3∧Ty P n f4.type g4∧Ty P n f5.type g5:=by
 unfold Ty at h;rw[hu] at h;obtain⟨gs,h1,h2,h3⟩:=h;have hl:gs.length=5:=by rw[h2,←Array.length_toList,hfs];rfl
 match gs,hl with
 |[g1,g2,g3,g4,g5],_=>exact⟨g1,g2,g3,g4,g5,by rw[h1];simp,h3 0 f1 g1 (by rw[hfs];rfl) rfl,h3 1 f2 g2 (by rw[hfs];rfl) rfl,h3 2 f3 g3 (by rw[hfs];rfl) rfl,h3 3 f4 g4 (by rw[hfs];rfl) rfl,h3 4 f5 g5 (by rw[hfs];rfl) rfl⟩
theorem JW{n:Nat}{c:List D}(h:Ty Tryz.prog (n+4) 84 c):∃a:Ar,c=Nf a:=by
 obtain⟨g1,g2,rfl,h1,h2⟩:=sE Tryz.underlying84 rfl h;obtain⟨s,rfl,_⟩:=BI Tryz.underlying9 h1;obtain⟨l,rfl⟩:=Gt h2;exact⟨(s,false,l),rfl⟩
theorem JX{n:Nat}{c:List D}(h:Ty Tryz.prog (n+6) 27 c):∃h:Hl,c=h.cells:=by
 obtain⟨g1,g2,g3,g4,g5,rfl,h1,h2,h3,h4,h5⟩:=B0 Tryz.underlying27 rfl h;obtain⟨s,rfl,_⟩:=BI Tryz.underlying9 h1;obtain⟨p,rfl⟩:=Gr h2;obtain⟨q,rfl⟩:=Gr h3;obtain⟨l,rfl⟩:=Gt h4;obtain⟨gs,rfl,_,h6⟩:=yU Tryz.underlying25 h5;obtain⟨ars,h7,h8⟩:=xc Nf (p:=Ty Tryz.prog (n+4) 84) (fun d hd=>JW hd) gs h6;refine⟨⟨s,p,q,false,l,false,ars⟩,?_⟩;rw[←h7,h8];rfl
end Go.Pd
end
section
namespace Go.Pd
open Go.RowKit Go.ChangeShapes Go.WideShapes
theorem B1{I:Nat→Prop}{w:World}{P:Program}{H:Type}{enc:TypeId×Value→H}{base:Nat}{spare:Nat→Bool}{held:Bool}{t e:TypeId}{fs:Array Field}{j:Nat}{f:Field}{v:Value}{dd:DataW H}{ps:List MemPlace}
  (hu:P.underlying t=some (.struct fs)) (hf:fs[j]?=some f) (hu2:P.underlying f.type=some (.slice e)) (hc:P.cellsOf f.type=1)
  (h:DataW.Trod enc P w base spare held t v dd ps) (hw:∀k∈dd.weights P t,k≤reachBytes) {cs:List D} {g:Bool} {m:Nat} {c:List D} (hr:RelC I w (.agg cs) v) (hcs:cs[f.offset]?=some (.slc g m c)):m*P.bytesOf e≤reachBytes:=by
 obtain⟨fuel,hm⟩:=h;obtain⟨xs,n',_,hx,_,hxl,hget⟩:=DataW.trod_struct hu hm;have hjlt:j<fs.size:=(zc0.1 hf).1;have h1:=hget j f hf;cases hr with
 |agg _ vs hl hrr=>
  have hlt:f.offset<vs.size:=by
   have:=(zc1.1 hcs).1;omega
  have hv1:(((Value.agg vs).cells).toList.drop f.offset).take (P.cellsOf f.type)=[vs[f.offset]]:=by
   rw[hc];show(vs.toList.drop f.offset).take 1=_;rw[List.drop_eq_getElem_cons (by simpa using hlt)];simp
  rw[hv1,zd5 (by omega)] at h1;have hrel:RelC I w (.slc g m c) vs[f.offset]:=hrr f.offset _ _ hcs (Array.getElem?_eq_getElem hlt);rcases Deep.open_slice hu2 h1 with⟨hcs,_⟩|⟨a,len,cap,m',n,Dd,Pl,hcs,_,_,_,_,hxx,_⟩
  ·simp only[zc5,and_true] at hcs;rw[hcs] at hrel;cases hrel;rw[Nat.zero_mul];exact Nat.zero_le _
  ·simp only[zc5,and_true] at hcs;rw[hcs] at hrel;cases hrel;have hdd:dd= .agg (xs.map (·.1)):=(Prod.mk.inj hx).1;have hmem:((((List.range m).map Dd).length+((List.range (m'-m)).map fun j=>Dd (m+j)).length)*P.bytesOf e)∈dd.weights P t:=by
    rw[hdd];simp only[DataW.weights,hu];refine DataW.weights_mem_each (j:=j) (t:=f.type) (d:= .slice ((List.range m).map Dd) ((List.range (m'-m)).map fun j=>Dd (m+j))) (by rw[zc3,Array.getElem?_toList,hf];rfl) ?_ _ (by simp[DataW.weights,hu2]);rw[zc3,zd5 (by omega)];show some (xs[j]).1=_;rw[hxx]
   have:=hw _ hmem;rw[zc2,zc2,List.length_range,List.length_range] at this;exact zb1 (Nat.mul_le_mul_right _ (Nat.le_add_right _ _)) this
theorem B2{P:Program}{gl:Nat→Option D}(hl:laidOutB P=true){f:FuncId}{fn:Func}{tb:TypeId}(hbool:P.underlying tb=some .bool)(hres:fn.resultTypes= #[tb])
  (hc:∀t∈fn.params.toList,uW P t=true) {H:Type} (enc:TypeId×Value→H) {s:ChangeSpec} (hvars:s.vars=[]) (hfn:∀ds:List (DataW H),ds.length=fn.params.toList.length→s.fn H (ds++[])={results:=[.lit (.bool true)],args:=ds})
  (W:World) (args:Array Value) (ds gs:List (DataW H)) (before:List MemPlace) (hval:∀(j:Nat) t v,fn.params[j]?=some t→args[j]?=some v→Value.okWide P W .any 0 t v)
  (hW:DataW.Whole enc P fn.params.toList s.vars false W args.toList ds gs before)
  (hgl:Gl gl (fun b=>b<W.heap.size) W) (hplain:∀cs,BA P 12 fn.params.toList cs→(∃p,DataW.TrodAll enc P W 0 (fun _=>true) true fn.params.toList args.toList ds p)→(∀(j:Nat) (d:D) (v:Value),(ic P fn.params.toList cs)[j]?=some d→args.toList[j]?=some v→RelC (fun b=>b<W.heap.size) W d v)→
   CallOK P gl f (ic P fn.params.toList cs) (.bool true)):
  Calls P f args W fun e W'=>∃v,e= .returned v∧s.post enc P fn false true false false W args v W':=by
 have hW0:=hW;obtain⟨p,q,hA,hV,rfl,hfz,hnd⟩:=hW;rw[hvars] at hV;have hq:gs=[]∧q=[]:=by
  cases gs with
  |nil=>exact⟨rfl,hV⟩
  |cons=>exact hV.elim
 obtain⟨rfl,rfl⟩:=hq;have hf12:∀t∈fn.params.toList,nx P 12 t=true:=fun t ht=>by
  have:=hc t ht;simp only[uW,zc4] at this;exact this.2
 obtain⟨cs,c1,c2,c3⟩:=Es (I:=fun b=>b<W.heap.size) (w:=W) (fun b hb=>hb) _ _ _ _ hf12 (fun j t v ht hv=>hval j t v (by simpa using ht) (by simpa using hv)) hA;have hlen:ds.length=fn.params.toList.length:=by
  clear hW0 hplain c1 c2 c3 hval hfz hnd;have key:∀(ts:List TypeId) (vs:List Value) (ds:List (DataW H)) (ps:List MemPlace),DataW.TrodAll enc P W 0 (fun _=>true) true ts vs ds ps→ds.length=ts.length:=by
   intro ts
   induction ts with
   |nil=>intro vs ds ps h;obtain⟨_,rfl,_⟩:=trodAll_nil h;rfl
   |cons t ts ih=>
    intro vs ds ps h;obtain⟨v,vs1,d,ds1,a,b,rfl,rfl,rfl,h1,h2⟩:=trodAll_cons h;simp[ih _ _ _ h2]
  exact key _ _ _ _ hA
 have hcall:=hplain cs c1 ⟨p,hA⟩ c3;have hF:=hcall.2 (fun b=>b<W.heap.size) W args (fun b hb=>hb) hgl (by simpa using c2) (fun j d v hd hv=>c3 j d v hd (by simpa using hv));refine hF.mono fun e W' ⟨v,he,hr,hb⟩=> ?_;have hvt:v= .bool true:=(RelV.clo (A:=fun _ _=>none) (G:=fun _=>0) hr).bool_inv;subst hvt;have hold:∀x∈p++[],x.block<W.heap.size:=fun x hx=>by simpa using hW0.lt x hx
 have hs:=hfn ds hlen;refine⟨_,he,ds,[],p++[],[],p,[],hW0,?_,?_,?_,hb.below.frame _,fun h=>by cases h⟩
 ·rw[hs,hres];exact trodAll_cons_mk (shut_bool hbool _) trodAll_mk0
 ·rw[hs];exact ny hl hb.below _ _ _ _ hc hA fun x hx=>hold x (by simpa using hx)
 ·rw[hs,hvars];rfl
end Go.Pd
end
