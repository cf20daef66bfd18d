import Derived.Test.YtjhoaknnmfifgaaGreatDoorUnP
import Derived.Test.YtjhoaknnmfifgaaGreatDoorUnH
section
namespace Go.Pd
open Go Go.Proofs Go.RowKit
set_option maxRecDepth 100000
theorem N2{call:CL}{f:Bool}{n:Nat}:∀(r pre:List Int) (fuel:Nat),(pre++r).length=n→n≤100000→r.length<fuel→
  qf call LL C1 fuel f n (fQ (pre++r)) n (pre.length:Int)=some (.int .i64 (dr r)):=by
 intro r
 induction r with
 |nil=>
  intro pre fuel hn hB hf;cases fuel with
  |zero=>exact absurd hf (Nat.not_lt_zero _)
  |succ fuel=>
   subst hn;rw[sr,cz,br];rfl
 |cons x r ih=>
  intro pre fuel hn hB hf;cases fuel with
  |zero=>exact absurd hf (Nat.not_lt_zero _)
  |succ fuel=>
   have ih:=ih (pre++[x]) fuel (by rw[cU];exact hn) hB (by simp at hf;omega);rw[cU] at ih;subst hn;rw[sr,cJ,bx,cF,bw,ox,bv,cq pre x r (by omega),ih];show bC (x !=0) _ _=some (D.int .i64 (bC (x !=0) _ _));cases x !=0<;>rfl
theorem HV(x y:Int):ct 277 [.slc true 2 [.int .i64 x,.int .i64 y]] (.int .i64 (dr [x,y])):=
 ed cA Tryz.func277 (ord:=O0) (N:=KH) (by kernel_rfl) ((G5 _ _ _ _ _ _).trans (N2 [x,y] [] LL rfl (by decide) (by unfold LL;simp)))
theorem HW(b:Bool)(e:Int):ct 278 [.bool b,.int .i64 e] (.int .i64 (bC b e 0)):=
 ed cA Tryz.func278 (ord:=O0) (N:=N0) (by kernel_rfl) ((G6 _ _ _ b e).trans (by cases b<;>rfl))
theorem HX{h:Int}(hl: -99≤h)(hr:h≤99):ct 279 [.int .i64 h,.int .i64 99] (.bool false):=by
 refine ed cA Tryz.func279 (ord:=O0) (N:=N0) (by kernel_rfl) ((G7 _ _ _ h 99).trans ?_);have h1:decide (h<IntKind.wrap .i64 (0-99))=false:=by rw[co (by omega)];simp;omega
 have h2:decide (h>99)=false:=by simp;omega
 first
  |(rw[h1,br,h2];done)
  |(simp only[h1,h2];rfl)
theorem N3{n:Nat}(hn:0<n)(hn':n≤36){h:Int}(hl: -99≤h)(hr:h≤99):ct 329 [.int .i64 h,.int .i64 n] (.int .i64 (h/n)):=by
 obtain⟨q1,q2,q3,q4,q5⟩:=jC hn hn' hl hr;refine ed cA Tryz.func329 (ord:=O0) (N:=N0) (by kernel_rfl) ((G9 _ _ _ _ _).trans ?_);have hpos:(0:Int)<n:=by omega
 have hz:(!decide ((n:Int)=0))=true:=by simp;omega
 rw[hz,bw,bw];have hd:=Int.mul_tdiv_add_tmod h n;have hml:h.tmod n<n:=Int.tmod_lt_of_pos h hpos;have hmg: -(n:Int)<h.tmod n:=by
  have:=Int.tmod_lt_of_pos (-h) hpos;rw[Int.neg_tmod] at this;omega
 cases hc:decide (h.tmod n<0) with
 |true=>
  simp only[zc5] at hc;have hu:h/n=h.tdiv n-1:=by
   refine(Int.ediv_eq_iff_of_pos hpos).2 ?_;have:(h.tdiv n-1)*n=n*h.tdiv n-n:=by rw[Int.sub_mul,ze0];omega
   have h2:(h.tdiv n-1+1)*n=n*h.tdiv n:=by rw[ze0];congr 1;omega
   omega
  rw[bx,co (x:=h.tdiv n) (by omega),co (by omega),hu]
 |false=>
  simp only[decide_eq_false_iff_not] at hc;have hu:h/n=h.tdiv n:=by
   refine(Int.ediv_eq_iff_of_pos hpos).2 ?_;have:(h.tdiv n)*n=n*h.tdiv n:=ze0 _ _;have h2:(h.tdiv n+1)*n=n*h.tdiv n+n:=by rw[Int.add_mul,ze0];omega
   omega
  rw[br,co (by omega),hu]
section
variable {call:CL}{f:Bool}{n:Nat}{c:List D}{P S:Nat→Int}
theorem HY(hc:ik n c P S)(hn:n≤36){h:Int}(hl: -99≤h)(hr:h≤99):∀(m i fuel:Nat),(i+1)+m=n→m<fuel→fX call LL C1 fuel f n c (h/n) (h%n) (.own (i+1) (jB (mB n S h) (i+1))) n ((i+1:Nat):Int)=some (.slc false n (jB (mB n S h) n))
 |0,i,fuel+1,hi,_=>by
  rw[nO];have h1:decide (((i+1:Nat):Int)<n)=false:=by simp;omega
  rw[h1,br];have:i+1=n:=by omega
  rw[this]
 |m+1,i,fuel+1,hi,hf=>by
  rw[nO];obtain⟨q1,q2,q3,q4,q5⟩:=jC (by omega) hn hl hr;have h1:decide (((i+1:Nat):Int)<n)=true:=by simp;omega
  have h2:decide ((0:Int)≤((i+1:Nat):Int)∧((i+1:Nat):Int)<n)=true:=by simp;omega
  have e1:Int.toNat ((i+1:Nat):Int)=i+1:=by simp
  have hp:=(hc (i+1) (by omega)).1;have hs:=(hc (i+1) (by omega)).2;have ih:=HY hc hn (h:=h) hl hr m (i+1) fuel (by omega) (by omega);have hw:IntKind.wrap .i64 (((i+1:Nat):Int)+1)=((i+1+1:Nat):Int):=by rw[co (by omega)];rfl
  have hx:jB (mB n S h) (i+1+1)=jB (mB n S h) (i+1)++[.int .i64 (mB n S h (i+1))]:=rfl;rw[h1,bx,h2,bw,e1,cu hp,bv,cu hs,bv,uf (by omega),bw,bw,hw,co (by omega)];rw[hx,show mB n S h (i+1)=h/n+bC (decide (S (i+1)≤h%n)) 1 0 from rfl] at ih;cases hd:decide (S (i+1)≤h%n) with
  |true=>rw[hd,bx] at ih;rw[bx];exact ih
  |false=>rw[hd,br,Int.add_zero] at ih;rw[br];exact ih
theorem KL(hc:ik n c P S)(hn:n≤36){h:Int}(hl: -99≤h)(hr:h≤99)(h0:0<n):∀(fuel:Nat),n<fuel→fX call LL C1 fuel f n c (h/n) (h%n) .nil n 0=some (.slc false n (jB (mB n S h) n))
 |fuel+1,hf=>by
  rw[vO];obtain⟨q1,q2,q3,q4,q5⟩:=jC (by omega) hn hl hr;have h1:decide ((0:Int)<n)=true:=by simp;omega
  have h2:decide ((0:Int)≤(0:Int)∧(0:Int)<n)=true:=by simp;omega
  have hp:=(hc 0 h0).1;have hs:=(hc 0 h0).2;have ih:=HY (call:=call) (f:=f) hc hn hl hr (n-1) 0 fuel (by omega) (by omega);have hw:IntKind.wrap .i64 ((0:Int)+1)=((0+1:Nat):Int):=by rw[co (by omega)];rfl
  have hx:jB (mB n S h) (0+1)=[.int .i64 (mB n S h 0)]:=rfl;rw[h1,bx,h2,bw,show Int.toNat (0:Int)=0 from rfl,cu hp,bv,cu hs,bv,hw,co (by omega)];rw[hx,show mB n S h 0=h/n+bC (decide (S 0≤h%n)) 1 0 from rfl] at ih;cases hd:decide (S 0≤h%n) with
  |true=>rw[hd,bx] at ih;rw[bx];exact ih
  |false=>rw[hd,br,Int.add_zero] at ih;rw[br];exact ih
theorem N4(hc:ik n c P S)(h0:0<n)(hn:n≤36){h:Int}(hl: -99≤h)(hr:h≤99):ct 280 [.slc f n c,.int .i64 h] (.slc false n (jB (mB n S h) n)):=by
 obtain⟨B,hB,hF⟩:=iz [one 329 [.int .i64 h,.int .i64 n] (.int .i64 (h/n))] ⟨bN (N3 h0 hn hl hr),trivial⟩ rfl;have e:B 329 [.int .i64 h,.int .i64 n]=some (.int .i64 (h/n)):=hF.1 ();refine ed hB Tryz.func280 (ord:=O0) (N:=KI) (by kernel_rfl) ((G8 _ _ _ _ _ _ _).trans ?_);obtain⟨q1,q2,q3,q4,q5⟩:=jC h0 hn hl hr;rw[e,bq,bv,co (x:=h/n*n) (by omega),q3,co (by omega),show h-(h-h%n)=h%n by omega];exact KL hc hn hl hr h0 LL (by unfold LL;omega)
end
def KM(ho:List eT):Prop:=ho=[]∨sO ho=0
theorem nQ{ho:List eT}(h:KM ho):ho.length≤36:=by
 rcases h with rfl|h
 ·decide
 ·exact(lU h).2.1
theorem Ba{ho:List eT}(h:KM ho){i:Nat}(hi:i<ho.length):3≤hP ho i∧hP ho i≤6:=by
 rcases h with rfl|h
 ·cases hi
 ·unfold sO de at h;have h:=(zb (by decide) h).2;have h:=(zb (by decide) h).2;have:=j7 _ 0 h i (by omega) (by omega);unfold zu at this;simp at this;omega
def EB(ho:List eT):Int:=bC ((ho.length:Int)==0) 12 0
theorem N5{f:Bool}{ho:List eT}(hv:KM ho){h:Int}(hl: -99≤h)(hr:h≤99):ct 225 [.slc f ho.length (ho.flatMap bR),.int .i64 h] (.tup [.slc ho.isEmpty ho.length (jB (mB ho.length (hS ho) h) ho.length),.int .i64 (EB ho)]):=by
 have hE:sO ho=EB ho:=by
  rcases hv with rfl|h
  ·rfl
  ·rw[h];unfold EB;rw[show((ho.length:Int)==0)=false from beq_eq_false_iff_ne.2 (by have:=(lU h).1;omega)];rfl
 have e109:=AN (f:=f) (xL ho);rw[show de ho.length (hP ho) (hS ho)=EB ho from hE] at e109;have ef:dr [EB ho,bC false 3 0]=EB ho:=by
  unfold EB;cases (ho.length:Int)==0<;>rfl
 by_cases hz:ho=[]
 ·subst hz;obtain⟨B,hB,hF⟩:=iz [one 109 [.slc f 0 [],.int .i64 h] .nils,one 109 [.slc f 0 []] (.int .i64 12),one 279 [.int .i64 h,.int .i64 99] (.bool false),one 278 [.bool false,.int .i64 3] (.int .i64 0),one 277 [.slc true 2 [.int .i64 12,.int .i64 0]] (.int .i64 12)].tail ⟨bN e109,bN (HX hl hr),bN (HW false 3),bN (HV 12 0),trivial⟩ rfl;obtain⟨a1,a2,a3,a4,_⟩:=hF;have a1:B 109 [.slc f 0 []]=some (.int .i64 12):=a1 ();have a2:B 279 [.int .i64 h,.int .i64 99]=some (.bool false):=a2 ();have a3:B 278 [.bool false,.int .i64 3]=some (.int .i64 0):=a3 ();have a4:B 277 [.slc true 2 [.int .i64 12,.int .i64 0]]=some (.int .i64 12):=a4 ();refine ed hB Tryz.func225 (ord:=O0) (N:=N0) (by kernel_rfl) ((A8 _ _ _ f 0 [] h).trans ?_);rw[a1,bq,bv,a2,bq,bD,a3,bq,bv,a4,bq,bv];rfl
 ·have h0:0<ho.length:=List.length_pos_iff.2 hz;have g0:EB ho=0:=by
   unfold EB;rw[show((ho.length:Int)==0)=false from beq_eq_false_iff_ne.2 (by omega)];rfl
  rw[g0] at e109 ef ⊢;obtain⟨B,hB,hF⟩:=iz [one 109 [.slc f ho.length (ho.flatMap bR)] (.int .i64 0),one 279 [.int .i64 h,.int .i64 99] (.bool false),one 278 [.bool false,.int .i64 3] (.int .i64 0),one 277 [.slc true 2 [.int .i64 0,.int .i64 0]] (.int .i64 0),one 280 [.slc f ho.length (ho.flatMap bR),.int .i64 h] (.slc false ho.length (jB (mB ho.length (hS ho) h) ho.length))]
   ⟨bN e109,bN (HX hl hr),bN (HW false 3),bN (HV 0 0),bN (N4 (xL ho) h0 (nQ hv) hl hr),trivial⟩ rfl
  obtain⟨a1,a2,a3,a4,a5,_⟩:=hF;have a1:B 109 [.slc f ho.length (ho.flatMap bR)]=some (.int .i64 0):=a1 ();have a2:B 279 [.int .i64 h,.int .i64 99]=some (.bool false):=a2 ();have a3:B 278 [.bool false,.int .i64 3]=some (.int .i64 0):=a3 ();have a4:B 277 [.slc true 2 [.int .i64 0,.int .i64 0]]=some (.int .i64 0):=a4 ();have a5:B 280 [.slc f ho.length (ho.flatMap bR),.int .i64 h]=some (.slc false ho.length (jB (mB ho.length (hS ho) h) ho.length)):=a5 ();refine ed hB Tryz.func225 (ord:=O0) (N:=N0) (by kernel_rfl) ((A8 _ _ _ f _ _ h).trans ?_);rw[a1,bq,bv,a2,bq,bD,a3,bq,bv,a4,bq,bv,a5,show((0:Int) !=0)=false from rfl,br,bq,bI];cases ho with
  |nil=>exact absurd rfl hz
  |cons=>rfl
theorem EC{v:Nat→Int}{n i:Nat}(h:i<n){γ:Type}(k:D→Option γ):bu (jB v n) (Int.toNat (i:Int)*1) k=k (.int .i64 (v i)):=by
 rw[za3,Nat.mul_one];exact cu (xT v n i h) k
section
variable {f0 f1 f2 f3 f4 f5 g h0:Bool}{b0 b1 b3 b4 b5:Nat}{e0 e1 e3 e4 e5:List D}{B:FuncId→List D→Option D}
theorem N7{ho:List eT}(hv:KM ho){h:Int}(hl: -99≤h)(hr:h≤99){s:ByteArray}{n:Nat}(hn:n=ho.length)(hF:∀x:cM,B 218 [.agg [.int .i64 x.1,.str x.2]]=some (.bool (dP x.2||fc x.2))):
  ∀(r pre:List cM) (fuel:Nat) (t1 t2:Int),(pre++r).length=n→(∀x∈r,0≤x.1∧x.1≤99)→r.length<fuel→0≤t1∧t1≤pre.length→-300*(pre.length:Int)≤t2∧t2≤300*(pre.length:Int)→
  iv B LL C1 fuel g n ((pre++r).flatMap cQ) f0 b0 e0 f1 b1 e1 f2 ho.length (ho.flatMap bR) f3 b3 e3 f4 b4 e4 f5 b5 e5 s h0 ho.length (jB (mB ho.length (hS ho) h) ho.length) n (pre.length:Int) t1 t2=some (.agg [.str s,.int .i64 (t1+oL r),.int .i64 (t2+vM ho h r pre.length)]):=by
 intro r;have h36:=nQ hv
 induction r with
 |nil=>
  intro pre fuel t1 t2 hp hx hf k1 k2;cases fuel with
  |zero=>exact absurd hf (Nat.not_lt_zero _)
  |succ fuel=>
   subst hp;rw[pz,cz,br];show some (D.agg [.str s,.int .i64 t1,.int .i64 t2])=some (D.agg [.str s,.int .i64 (t1+0),.int .i64 (t2+0)]);rw[Int.add_zero,Int.add_zero]
 |cons x r ih=>
  intro pre fuel t1 t2 hp hx hf k1 k2;cases fuel with
  |zero=>exact absurd hf (Nat.not_lt_zero _)
  |succ fuel=>
   have hpl:pre.length<ho.length:=by rw[←hn,←hp];simp
   have ih:=ih (pre++[x]) fuel;rw[cU] at ih;have h1:=hx x (za4 ..);have hxr:∀y∈r,0≤y.1∧y.1≤99:=fun y hy=>hx y (za5 _ hy);have hsz:(pre++[x]).length=pre.length+1:=by simp
   have hst:IntKind.wrap .i64 ((pre.length:Int)+1)=((pre++[x]).length:Int):=cq pre x r (by omega);obtain⟨g1,g2⟩:=El (show 0<ho.length by omega) h36 (hS ho) hl hr pre.length;obtain⟨p1,p2⟩:=Ba hv hpl;have i0:decide ((0:Int)≤(pre.length:Int)∧(pre.length:Int)<(ho.length:Int))=true:=by simp;omega
   have c0:∀(k:D→Option D),bu (ho.flatMap bR) (Int.toNat (pre.length:Int)*2+0) k=k (.int .i64 (hP ho pre.length)):=fun k=>by
    rw[za3];exact cu (xL ho pre.length hpl).1 k
   have eth:oL (x::r)=vL x+oL r:=rfl;have epa:vM ho h (x::r) pre.length=iB (mB ho.length (hS ho) h pre.length) (hP ho pre.length) x+vM ho h r (pre.length+1):=rfl;have pb:=En (g:=mB ho.length (hS ho) h pre.length) (p:=hP ho pre.length) h1 ⟨by omega,by omega⟩ ⟨by omega,by omega⟩;rw[eth,epa];have fin:∀a b,vL x=a→iB (mB ho.length (hS ho) h pre.length) (hP ho pre.length) x=b→0≤a∧a≤1→
     iv B LL C1 fuel g n ((pre++x::r).flatMap cQ) f0 b0 e0 f1 b1 e1 f2 ho.length (ho.flatMap bR) f3 b3 e3 f4 b4 e4 f5 b5 e5 s h0 ho.length (jB (mB ho.length (hS ho) h) ho.length) n ((pre++[x]).length:Int) (t1+a) (t2+b)=some (.agg [.str s,.int .i64 (t1+(vL x+oL r)),.int .i64 (t2+(iB (mB ho.length (hS ho) h pre.length) (hP ho pre.length) x+vM ho h r (pre.length+1)))]):=fun a b ha hb ha1=>by
    rw[ih (t1+a) (t2+b) hp hxr (by simp at hf;omega) (by omega) (by rw[hb] at pb;omega),ha,hb,hsz,Int.add_assoc,Int.add_assoc]
   have hw1:IntKind.wrap .i64 (t1+1)=t1+1:=co (by omega);have hn2:(pre++x::r).length=n:=hp;have q0:∀(k:D→Option D),bu ((pre++x::r).flatMap cQ) (Int.toNat (pre.length:Int)*2+0) k=k (.int .i64 x.1):=fun k=>n0 k pre x r;have q1:∀(k:D→Option D),bu ((pre++x::r).flatMap cQ) (Int.toNat (pre.length:Int)*2+1) k=k (.str x.2):=fun k=>n1 k pre x r;have l0:decide ((pre.length:Int)<(n:Int))=true:=by rw[←hn2];exact cJ pre x r
   have l1:decide ((0:Int)≤(pre.length:Int)∧(pre.length:Int)<(n:Int))=true:=by rw[←hn2];exact cF pre x r
   rw[pz,l0,bx,l1,bw,q0,bv,q1,bA,hst,hw1,hF x,bq,bD,i0,bw,EC hpl,bv,bw,c0,bv];show bC (eQ x.2) _ (bC (dP x.2||fc x.2) _ _)=_;cases hd:eQ x.2 with
   |true=>
    have:=fin 0 0 (by unfold vL;rw[hd];rfl) (by unfold iB;rw[hd];rfl) (by omega);rw[Int.add_zero,Int.add_zero] at this;rw[bx];exact this
   |false=>
    rw[br];cases hm:dP x.2||fc x.2 with
    |true=>
     have hb:iB (mB ho.length (hS ho) h pre.length) (hP ho pre.length) x=x.1-mB ho.length (hS ho) h pre.length-hP ho pre.length:=by unfold iB;rw[hd,br,hm,bx]
     have:=fin 1 _ (by unfold vL;rw[hd];rfl) hb (by omega);rw[hb] at pb;rw[bx,co (x:=x.1-_) (by omega),co (x:=x.1-_-_) (by omega),co (x:=t2+_) (by omega)];exact this
    |false=>
     have:=fin 1 2 (by unfold vL;rw[hd];rfl) (by unfold iB;rw[hd,br,hm,br]) (by omega);rw[br,co (x:=t2+2) (by omega)];exact this
def fa218:Fam:=⟨218,cM,fun x=>[.agg [.int .i64 x.1,.str x.2]],fun x=> .bool (dP x.2||fc x.2)⟩
theorem zR:fa218.Good:=⟨HQ,fun i j h=>by
 obtain⟨a,b⟩:=i;obtain⟨a',b'⟩:=j;have h:[D.agg [.int .i64 a,.str b]]=[D.agg [.int .i64 a',.str b']]:=h;simp at h;simp[h]⟩
theorem N8{ho:List eT}(hv:KM ho)(m:cw)(hl: -99≤m.2.2)(hr:m.2.2≤99)(en:List cM)(hn:en.length=ho.length)(hx:∀x∈en,0≤x.1∧x.1≤99):
  ct 160 [.agg [.slc f0 b0 e0,.slc f1 b1 e1,.slc f2 ho.length (ho.flatMap bR),.slc f3 b3 e3,.slc f4 b4 e4,.slc f5 b5 e5],.agg (bO m),.slc g en.length (en.flatMap cQ)] (.agg (bT (xU ho m en))):=by
 obtain⟨B,hB,hF⟩:=iz [one 225 [.slc f2 ho.length (ho.flatMap bR),.int .i64 m.2.2] (.tup [.slc ho.isEmpty ho.length (jB (mB ho.length (hS ho) m.2.2) ho.length),.int .i64 (EB ho)]),fa218] ⟨bN (N5 hv hl hr),zR,trivial⟩ (by kernel_rfl);have a1:B 225 [.slc f2 ho.length (ho.flatMap bR),.int .i64 m.2.2]=some (.tup [.slc ho.isEmpty ho.length (jB (mB ho.length (hS ho) m.2.2) ho.length),.int .i64 (EB ho)]):=hF.1 ();refine ed hB Tryz.func160 (ord:=O0) (N:=KG) (by kernel_rfl) ((G4 _ _ _ f0 b0 e0 f1 b1 e1 f2 _ _ f3 b3 e3 f4 b4 e4 f5 b5 e5 m.1 m.2.1 m.2.2 g _ _).trans ?_);have h36:=nQ hv;have:=N7 (B:=B) (f0:=f0) (f1:=f1) (f2:=f2) (f3:=f3) (f4:=f4) (f5:=f5) (g:=g) (h0:=ho.isEmpty) (b0:=b0) (b1:=b1) (b3:=b3) (b4:=b4) (b5:=b5) (e0:=e0) (e1:=e1) (e3:=e3) (e4:=e4) (e5:=e5) hv hl hr (s:=m.1) hn hF.2.1 en [] LL 0 0 rfl hx (by unfold LL;omega) (by decide) (by decide);rw[a1,bq,oE,gT,bI,gU,bv];rw[Int.zero_add,Int.zero_add] at this;exact this
end
def sQ(a b:Int):Int:=bC (decide (a<b)) (-1) (bC (decide (a>b)) 1 0)
theorem N9(x:Int):ct 165 [.int .i64 x] (.bool false):=
 ed cA Tryz.func165 (ord:=O0) (N:=N0) (by kernel_rfl) ((Hc _ _ _ x).trans (by rw[show(x !=x)=false by simp]))
def fa165:Fam:=⟨165,Int,fun x=>[.int .i64 x],fun _=> .bool false⟩
theorem zS:fa165.Good:=⟨N9,fun _ _ _=>rfl⟩
theorem Oa(x y:Int):ct 101 [.int .i64 x,.int .i64 y] (.int .i64 (sQ x y)):=by
 obtain⟨B,hB,hF⟩:=iz [fa165] ⟨zS,trivial⟩ rfl;have a:∀x:Int,B 165 [.int .i64 x]=some (.bool false):=hF.1;refine ed hB Tryz.func101 (ord:=O0) (N:=N0) (by kernel_rfl) ((Hb _ _ _ x y).trans ?_);rw[a,bq,bD,a,bq,bD,br,br];unfold sQ;cases decide (x<y)<;>cases decide (x>y)<;>rfl
def fa101:Fam:=⟨101,Int×Int,fun x=>[.int .i64 x.1,.int .i64 x.2],fun x=> .int .i64 (sQ x.1 x.2)⟩
theorem zT:fa101.Good:=⟨fun x=>Oa x.1 x.2,fun i j h=>by
 obtain⟨a,b⟩:=i;obtain⟨a',b'⟩:=j;have h:[D.int .i64 a,D.int .i64 b]=[D.int .i64 a',D.int .i64 b']:=h;simp at h;simp[h]⟩
theorem Oc{call:CL}{f:Bool}{n:Nat}:∀(r pre:List Int) (fuel:Nat),(pre++r).length=n→n≤100000→r.length<fuel→
  qg call LL C1 fuel f n (fQ (pre++r)) n (pre.length:Int)=some (.int .i64 (dr r)):=by
 intro r
 induction r with
 |nil=>
  intro pre fuel hn hB hf;cases fuel with
  |zero=>exact absurd hf (Nat.not_lt_zero _)
  |succ fuel=>
   subst hn;rw[su,cz,br];rfl
 |cons x r ih=>
  intro pre fuel hn hB hf;cases fuel with
  |zero=>exact absurd hf (Nat.not_lt_zero _)
  |succ fuel=>
   have ih:=ih (pre++[x]) fuel (by rw[cU];exact hn) hB (by simp at hf;omega);rw[cU] at ih;subst hn;rw[su,cJ,bx,cF,bw,ox,bv,cq pre x r (by omega),ih];show bC (x !=0) _ _=some (D.int .i64 (bC (x !=0) _ _));cases x !=0<;>rfl
theorem Od(x y:Int):ct 163 [.slc true 2 [.int .i64 x,.int .i64 y]] (.int .i64 (dr [x,y])):=
 ed cA Tryz.func163 (ord:=O0) (N:=KJ) (by kernel_rfl) ((Ha _ _ _ _ _ _).trans (Oc [x,y] [] LL rfl (by decide) (by unfold LL;simp)))
def fa163:Fam:=⟨163,Int×Int,fun x=>[.slc true 2 [.int .i64 x.1,.int .i64 x.2]],fun x=> .int .i64 (dr [x.1,x.2])⟩
theorem zU:fa163.Good:=⟨fun x=>Od x.1 x.2,fun i j h=>by
 obtain⟨a,b⟩:=i;obtain⟨a',b'⟩:=j;have h:[D.slc true 2 [.int .i64 a,.int .i64 b]]=[D.slc true 2 [.int .i64 a',.int .i64 b']]:=h;simp at h;simp[h]⟩
def vQ(a b:d9):Int:=dr [sQ a.2.2 b.2.2,sQ b.2.1 a.2.1]
theorem xY(a b:d9):decide (vQ a b<0)=up a b:=by
 have key:∀x y:Int,(x<y∧sQ x y= -1)∨(x=y∧sQ x y=0)∨(y<x∧sQ x y=1):=fun x y=>by
  unfold sQ;by_cases h1:x<y
  ·exact .inl ⟨h1,by rw[za1 h1];rfl⟩
  ·by_cases h2:x>y
   ·exact .inr (.inr ⟨h2,by rw[za2 h1,za1 h2];rfl⟩)
   ·exact .inr (.inl ⟨by omega,by rw[za2 h1,za2 h2];rfl⟩)
 unfold vQ;rcases key a.2.2 b.2.2 with⟨h,e⟩|⟨h,e⟩|⟨h,e⟩
 ·rw[e,ltS_iff.2 (.inl h)];rfl
 ·rw[e];rcases key b.2.1 a.2.1 with⟨h',e'⟩|⟨h',e'⟩|⟨h',e'⟩
  ·rw[e',ltS_iff.2 (.inr ⟨h,h'⟩)];rfl
  ·rw[e',ltS_no.2 (by omega)];rfl
  ·rw[e',ltS_no.2 (by omega)];rfl
 ·rw[e,ltS_no.2 (by omega)];rfl
theorem Oe(a b:d9):ct 162 [.agg (bT a),.agg (bT b)] (.int .i64 (vQ a b)):=by
 obtain⟨B,hB,hF⟩:=iz [fa101,fa163] ⟨zT,zU,trivial⟩ rfl;have a1:∀x y:Int,B 101 [.int .i64 x,.int .i64 y]=some (.int .i64 (sQ x y)):=fun x y=>hF.1 (x,y);have a2:∀x y:Int,B 163 [.slc true 2 [.int .i64 x,.int .i64 y]]=some (.int .i64 (dr [x,y])):=fun x y=>hF.2.1 (x,y);refine ed hB Tryz.func162 (ord:=O0) (N:=N0) (by kernel_rfl) ((Hd _ _ _ a.1 a.2.1 a.2.2 b.1 b.2.1 b.2.2).trans ?_);rw[a1,bq,bv,a1,bq,bv,a2,bq,bv];rfl
theorem xZ{m m':d9}(h:bT m=bT m'):m=m':=by
 obtain⟨a,b,c⟩:=m;obtain⟨a',b',c'⟩:=m';simp[bT] at h;simp[h]
def fa162:Fam:=⟨162,d9×d9,fun x=>[.agg (bT x.1),.agg (bT x.2)],fun x=> .int .i64 (vQ x.1 x.2)⟩
theorem zV:fa162.Good:=⟨fun x=>Oe x.1 x.2,fun i j h=>by
 obtain⟨a,b⟩:=i;obtain⟨a',b'⟩:=j;have h:[D.agg (bT a),D.agg (bT b)]=[D.agg (bT a'),D.agg (bT b')]:=h;simp only[zc3,and_true,D.agg.injEq] at h;rw[xZ h.1,xZ h.2]⟩
theorem oN:∀(Z A B C:List D),B.length=Z.length→cr (A++(B++C)) A.length Z=A++(Z++C)
 |[],A,B,C,h=>by
  rw[List.length_eq_zero_iff.1 h];rfl
 |z::Z,A,[],C,h=>by cases h
 |z::Z,A,b::B,C,h=>by
  show cr ((A++(b::B++C)).set A.length z) (A.length+1) Z=_;rw[List.set_append_right _ _ (zb0 _),Nat.sub_self];show cr (A++z::(B++C)) (A.length+1) Z=_;have:=oN Z (A++[z]) B C (by simpa using h);simpa using this
theorem dL{α:Type}(g:α→List D)(k:Nat)(hk:∀x,(g x).length=k):∀l:List α,(l.flatMap g).length=l.length*k
 |[]=>by simp
 |x::l=>by rw[List.flatMap_cons,za6,hk,dL g k hk l,za7,Nat.add_mul];omega
theorem ur{α:Type}(g:α→List D)(k:Nat)(hk:∀x,(g x).length=k)(W:List α)(y z:α)(Q:List α)(i:Int)(hi:i=(W.length:Int)):cr ((W++y::Q).flatMap g) (Int.toNat i*k) (g z)=(W++z::Q).flatMap g:=by
 subst hi;rw[za3,zd3,List.flatMap_cons,zd3,List.flatMap_cons,←dL g k hk W];exact oN (g z) _ (g y) _ (by rw[hk,hk])
theorem eY{b:Bool}:∀l:List d9,(l.flatMap bT).all (pG b)=true
 |[]=>rfl
 |x::l=>by
  rw[List.flatMap_cons,List.all_append,eY l];cases b<;>rfl
section
variable {γ:Type}(c:D→Option γ)
theorem s0(pre:List d9)(x:d9)(r:List d9):bu ((pre++x::r).flatMap bT) (Int.toNat (pre.length:Int)*3+0) c=c (.str x.1):=db pre x r bT 3 (fun _=>rfl) 0 (by omega) c
theorem s1(pre:List d9)(x:d9)(r:List d9):bu ((pre++x::r).flatMap bT) (Int.toNat (pre.length:Int)*3+1) c=c (.int .i64 x.2.1):=db pre x r bT 3 (fun _=>rfl) 1 (by omega) c
theorem s2(pre:List d9)(x:d9)(r:List d9):bu ((pre++x::r).flatMap bT) (Int.toNat (pre.length:Int)*3+2) c=c (.int .i64 x.2.2):=db pre x r bT 3 (fun _=>rfl) 2 (by omega) c
end
theorem x3{α:Type}(l:List α):l=[]∨∃l' y,l=l'++[y]:=AX (P:=fun l=>l=[]∨∃l' y,l=l'++[y]) (.inl rfl) (fun l y _=> .inr ⟨l,y,rfl⟩) l
section
variable {call mu:FuncId→List D→Option D}{e:TypeId}{k0 n m:Nat}{b vi:Int}
theorem Of(t162:∀a b:d9,call 162 [.agg (bT a),.agg (bT b)]=some (.int .i64 (vQ a b))){x:d9}(hm:m≤1000)(L:List d9)(hL:∀y∈L,up x y=false):
  ∀(R Q:List d9) (fuel:Nat),(∀y∈R,up x y=true)→(L++R++x::Q).length=m→R.length<fuel→
   nP call mu LL C1 e k0 n fuel m 0 b vi ((L++R).length:Int) ((L++R++x::Q).flatMap bT)=oM call mu LL C1 e k0 n m 0 b (IntKind.wrap .i64 (vi+1)) ((L++x::(R++Q)).flatMap bT):=by
 refine AX ?_ ?_
 ·intro Q fuel _ hlen hf;cases fuel with
  |zero=>exact absurd hf (Nat.not_lt_zero _)
  |succ fuel=>
   rw[zb4,pA];rw[zb4] at hlen;rcases x3 L with rfl|⟨L',y,rfl⟩
   ·rfl
   ·have y2:=hL y (by simp);simp at hlen;have hw:IntKind.wrap .i64 (((L'++[y]).length:Int)-1)=(L'.length:Int):=by rw[co (by simp;omega)];simp
    have d1:decide (((L'++[y]).length:Int)>0)=true:=by simp only[za6,zc5];simp
    have d2:decide ((0:Int)≤((L'++[y]).length:Int)∧((L'++[y]).length:Int)<(m:Int))=true:=by simp;omega
    have d3:decide ((0:Int)≤(L'.length:Int)∧(L'.length:Int)<(m:Int))=true:=by simp;omega
    have a0:∀(k:D→Option D),bu ((L'++[y]++x::Q).flatMap bT) (Int.toNat (L'.length:Int)*3+0) k=k (.str y.1):=fun k=>by rw[za8];exact s0 k L' y (x::Q)
    have a1:∀(k:D→Option D),bu ((L'++[y]++x::Q).flatMap bT) (Int.toNat (L'.length:Int)*3+1) k=k (.int .i64 y.2.1):=fun k=>by rw[za8];exact s1 k L' y (x::Q)
    have a2:∀(k:D→Option D),bu ((L'++[y]++x::Q).flatMap bT) (Int.toNat (L'.length:Int)*3+2) k=k (.int .i64 y.2.2):=fun k=>by rw[za8];exact s2 k L' y (x::Q)
    have ec:call 162 [D.agg [.str x.1,.int .i64 x.2.1,.int .i64 x.2.2],D.agg [.str y.1,.int .i64 y.2.1,.int .i64 y.2.2]]=some (.int .i64 (vQ x y)):=t162 x y;rw[hw,d1,bx,d2,bw,s0,bA,s1,bv,s2,bv,d3,bw,a0,bA,a1,bv,a2,bv,ec,bq,bv,xY,y2,br];rfl
 ·intro R y ih Q fuel hR hlen hf;cases fuel with
  |zero=>exact absurd hf (Nat.not_lt_zero _)
  |succ fuel=>
   have y2:=hR y (by simp);obtain⟨W,hW⟩:∃W,W=L++R:=⟨_,rfl⟩;have e1:L++(R++[y])=W++[y]:=by rw[hW,za8]
   have ih:=ih (y::Q) fuel (fun z hz=>hR z (by simp[hz])) (by simp at hlen ⊢;omega) (by simp at hf;omega);rw[←hW] at ih;rw[e1] at hlen ⊢;simp at hlen;have hw:IntKind.wrap .i64 (((W++[y]).length:Int)-1)=(W.length:Int):=by rw[co (by simp;omega)];simp
   have d1:decide (((W++[y]).length:Int)>0)=true:=by simp only[za6,zc5];simp
   have d2:decide ((0:Int)≤((W++[y]).length:Int)∧((W++[y]).length:Int)<(m:Int))=true:=by simp;omega
   have d3:decide ((0:Int)≤(W.length:Int)∧(W.length:Int)<(m:Int))=true:=by simp;omega
   have a0:∀(k:D→Option D),bu ((W++[y]++x::Q).flatMap bT) (Int.toNat (W.length:Int)*3+0) k=k (.str y.1):=fun k=>by rw[za8];exact s0 k W y (x::Q)
   have a1:∀(k:D→Option D),bu ((W++[y]++x::Q).flatMap bT) (Int.toNat (W.length:Int)*3+1) k=k (.int .i64 y.2.1):=fun k=>by rw[za8];exact s1 k W y (x::Q)
   have a2:∀(k:D→Option D),bu ((W++[y]++x::Q).flatMap bT) (Int.toNat (W.length:Int)*3+2) k=k (.int .i64 y.2.2):=fun k=>by rw[za8];exact s2 k W y (x::Q)
   have ec:call 162 [D.agg [.str x.1,.int .i64 x.2.1,.int .i64 x.2.2],D.agg [.str y.1,.int .i64 y.2.1,.int .i64 y.2.2]]=some (.int .i64 (vQ x y)):=t162 x y;have hk:∀z:d9,(bT z).length=3:=fun _=>rfl;have w1:cr ((W++[y]++x::Q).flatMap bT) (Int.toNat ((W++[y]).length:Int)*3) [.str y.1,.int .i64 y.2.1,.int .i64 y.2.2]=(W++y::y::Q).flatMap bT:=by
    have:=ur bT 3 hk (W++[y]) x y Q _ rfl;rw[za8 W [y] (y::Q)] at this;exact this
   have w2:cr ((W++y::y::Q).flatMap bT) (Int.toNat (W.length:Int)*3) [.str x.1,.int .i64 x.2.1,.int .i64 x.2.2]=(W++x::y::Q).flatMap bT:=ur bT 3 hk W y x (y::Q) _ rfl;have d4:decide (Int.toNat ((W++[y]).length:Int)*3+3≤List.length ((W++[y]++x::Q).flatMap bT))=true:=by rw[dL bT 3 hk];simp;omega
   have d5:decide (Int.toNat (W.length:Int)*3+3≤List.length ((W++y::y::Q).flatMap bT))=true:=by rw[dL bT 3 hk];simp;omega
   rw[pA,hw,d1,bx,d2,bw,s0,bA,s1,bv,s2,bv,d3,bw,a0,bA,a1,bv,a2,bv,ec,bq,bv,xY,y2,bx,bw,a0,bA,a1,bv,a2,bv,
    bw,s0,bA,s1,bv,s2,bv,bw,d4,bw,bw,w1,d5,bw,w2,ih,za8]
   rfl
theorem B5{key:d9→Int}{x:d9}{l:List d9}(h:l.Pairwise (Rk key)):∃L R,l=L++R∧zN x l=L++x::R∧(∀y∈L,up x y=false)∧∀y∈R,up x y=true:=
 ⟨l.takeWhile fun y=> !up x y,l.dropWhile fun y=> !up x y,List.takeWhile_append_dropWhile.symm,rfl,fun y hy=>by simpa using (sd hy).1,vN h⟩
theorem Og(t162:∀a b:d9,call 162 [.agg (bT a),.agg (bT b)]=some (.int .i64 (vQ a b))){l:List d9}{key:d9→Int}(hkey:l.Pairwise fun a b=>key a<key b)(hm:l.length≤1000)(hk:l.length*3=l.length*k0):
  ∀(r pre:List d9) (fuel:Nat),l=pre++r→r.length<fuel→oM call mu LL C1 e k0 fuel l.length 0 (l.length:Int) (pre.length:Int) ((gF pre++r).flatMap bT)=some (.slc false l.length ((gF l).flatMap bT)):=by
 intro r
 induction r with
 |nil=>
  intro pre fuel hp hf;cases fuel with
  |zero=>exact absurd hf (Nat.not_lt_zero _)
  |succ fuel=>
   rw[zb4] at hp ⊢;subst hp;have hl3:((gF l).flatMap bT).length=l.length*k0:=by rw[dL bT 3 (fun _=>rfl),fV,hk]
   rw[uq,show decide ((l.length:Int)<(l.length:Int))=false by simp,br,show decide (e=e)=true by simp,bw,show decide (k0=k0)=true by simp,bw,show decide (((gF l).flatMap bT).length=l.length*k0)=true by simpa using hl3,bw,eY,bw]
 |cons x r ih=>
  intro pre fuel hp hf;cases fuel with
  |zero=>exact absurd hf (Nat.not_lt_zero _)
  |succ fuel=>
   have ih:=ih (pre++[x]) fuel (by rw[hp];simp) (by simp at hf;omega);have hlen:l.length=pre.length+r.length+1:=by rw[hp];simp;omega
   have hpre:pre.Pairwise fun a b=>key a<key b:=by rw[hp] at hkey;exact(List.pairwise_append.1 hkey).1
   obtain⟨L,R,e1,e2,e3,e4⟩:=B5 (x:=x) (Ep pre hpre);have hLR:L.length+R.length=pre.length:=by rw[←za6,←e1,fV]
   have hin:=Of (mu:=mu) (e:=e) (k0:=k0) (n:=fuel) (m:=l.length) (b:=(l.length:Int)) (vi:=(pre.length:Int)) t162 (x:=x) hm L e3 R r LL e4 (by simp;omega) (by unfold LL;omega);rw[sb,e2] at ih;rw[uq,show decide ((pre.length:Int)<(l.length:Int))=true by simp;omega,bx,e1];have ez:((L++R).length:Int)=(pre.length:Int):=by simp;omega
   rw[ez] at hin;rw[hin,←ih,show IntKind.wrap .i64 ((pre.length:Int)+1)=((pre++[x]).length:Int) by rw[co (by omega)];simp];simp only[za8,List.cons_append]
end
theorem Oh{l:List d9}{key:d9→Int}(hkey:l.Pairwise fun a b=>key a<key b)(hm:l.length≤1000)(h0:0<l.length):xa Tryz.prog iy 281 (l.flatMap bT) l.length [.int .i64 0,.int .i64 (l.length:Int),.fn (.func 162) [] []] ((gF l).flatMap bT) none:=by
 obtain⟨B,hB,hF⟩:=iz [fa162] ⟨zV,trivial⟩ rfl;have a:∀x y:d9,B 162 [.agg (bT x),.agg (bT y)]=some (.int .i64 (vQ x y)):=fun x y=>hF.1 (x,y);refine P8 hB A7 Tryz.func281 (ord:=O0) (N:=B3) (by kernel_rfl) (by kernel_rfl) fun e n hn=>(He _ _ _ _ _ _ _ _ _ _).trans ?_;rw[dL bT 3 (fun _=>rfl)] at hn;cases l with
 |nil=>exact absurd h0 (zc6 _)
 |cons x r=>
  have:=Og (mu:=KE) (e:=e) (k0:=n) a hkey hm hn r [x] LL rfl (by unfold LL;simp at hm;omega);exact this
theorem Oi{l:List d9}{key:d9→Int}(hkey:l.Pairwise fun a b=>key a<key b)(hm:l.length<20)(h0:0<l.length):xa Tryz.prog iy 226 (l.flatMap bT) l.length [.int .i64 (l.length:Int),.fn (.func 162) [] []] ((gF l).flatMap bT) none:=by
 have h281:=Oh hkey (by omega) h0;refine P8 cA (sh h281) Tryz.func226 (ord:=O0) (N:=zO) (by kernel_rfl) (by kernel_rfl) fun e n hn=>(Hf _ _ _ _ _ _ _ _ _).trans ?_;have hn':=hn;rw[dL bT 3 (fun _=>rfl)] at hn';have hs:((gF l).flatMap bT).length=(l.flatMap bT).length:=by rw[dL bT 3 (fun _=>rfl),dL bT 3 (fun _=>rfl),fV]
 rw[show LL=4611686018427387903+1 from rfl,zQ,show decide ((20:Int)≤(l.length:Int))=false by simp;omega,br,eY,bw,sk,bq,bI,hs,show decide ((l.flatMap bT).length=(l.flatMap bT).length)=true by simp,bw,eY,bw];rw[show(4611686018427387903+1:Nat)=4611686018427387903+1 from rfl,zP,show decide ((20:Int)<(l.length:Int))=false by simp;omega,br,show decide (e=e)=true by simp,bw,show decide (n=n)=true by simp,bw,show decide (((gF l).flatMap bT).length=l.length*n)=true by rw[hs];simpa using hn,bw,eY,bw]
theorem Oj{l:List d9}{key:d9→Int}(hkey:l.Pairwise fun a b=>key a<key b)(hm:l.length<20)(h0:0<l.length):xa Tryz.prog iy 161 (l.flatMap bT) l.length [.fn (.func 162) [] []] ((gF l).flatMap bT) none:=by
 refine P8 cA (sh (Oi hkey hm h0)) Tryz.func161 (ord:=O0) (N:=N0) (by kernel_rfl) (by kernel_rfl) fun e n hn=>(Hg _ _ _ _ _ _ _ _).trans ?_;have hs:((gF l).flatMap bT).length=(l.flatMap bT).length:=by rw[dL bT 3 (fun _=>rfl),dL bT 3 (fun _=>rfl),fV]
 rw[eY,bw,sk,bq,bI,hs,show decide ((l.flatMap bT).length=(l.flatMap bT).length)=true by simp,bw,eY,bw,show decide (e=e)=true by simp,bw,show decide (n=n)=true by simp,bw,show decide ((l.flatMap bT).length=l.length*n)=true by simpa using hn,bw,bw]
theorem KN:ct 281 [.nils,.int .i64 0,.int .i64 0,.fn (.func 162) [] []] (.tup []):=ed cA Tryz.func281 (ord:=O0) (N:=B3) (by kernel_rfl) (Ey _)
theorem KO:ct 226 [.nils,.int .i64 0,.fn (.func 162) [] []] (.tup []):=by
 obtain⟨B,hB,hF⟩:=iz [one 281 [.nils,.int .i64 0,.int .i64 0,.fn (.func 162) [] []] (.tup [])] ⟨bN KN,trivial⟩ rfl;have a:B 281 [.nils,.int .i64 0,.int .i64 0,.fn (.func 162) [] []]=some (.tup []):=hF.1 ();exact ed hB Tryz.func226 (ord:=O0) (N:=zO) (by kernel_rfl) ((Ez _).trans (by rw[a];rfl))
theorem KP:ct 161 [.nils,.fn (.func 162) [] []] (.tup []):=by
 obtain⟨B,hB,hF⟩:=iz [one 226 [.nils,.int .i64 0,.fn (.func 162) [] []] (.tup [])] ⟨bN KO,trivial⟩ rfl;have a:B 226 [.nils,.int .i64 0,.fn (.func 162) [] []]=some (.tup []):=hF.1 ();exact ed hB Tryz.func161 (ord:=O0) (N:=N0) (by kernel_rfl) ((EA _).trans (by rw[a];rfl))
structure UV.Ok(u:UV):Prop where
 me:∀x∈u.me,-99≤x.2.2∧x.2.2≤99∧cZ x.1=true
 nd:(u.me.map (·.1)).Nodup
 ho:KM u.ho
 mr:jd u.me u.ho.length [] u.mr=0
 few:u.me.length≤200
theorem ED{u:UV}(h:uE u=0):u.Ok:=by
 unfold uE at h;obtain⟨h0,h⟩:=zb (by decide) h;obtain⟨h1,h2⟩:=zk h;unfold GK at h1;obtain⟨_,h1⟩:=zk h1;obtain⟨h3,h4⟩:=zk h1;obtain⟨q1,q2⟩:=HU _ _ _ h3;obtain⟨h5,_⟩:=fz h2;unfold GL at h5;obtain⟨h6,_⟩:=zk h5;refine⟨fun x hx=>(q1 x hx).2,q2,?_,h6,?_⟩
 ·cases hz:((u.ho.length:Int)==0) with
  |true=>
   have:u.ho.length=0:=by
    have:=ze1.1 hz;omega
   exact .inl (List.length_eq_zero_iff.1 this)
  |false=>
   rw[hz,br] at h4;exact .inr h4
 ·unfold um at h0;simp at h0;omega
theorem P9{u:UV}(hs:x9 u=true)(h:uE u=0):u.me.length≤6:=by
 have hf:=(ED h).few;unfold x9 at hs;obtain⟨_,hs⟩:=gm hs;obtain⟨h1,_⟩:=gm hs;unfold jA at h1;simp at h1;omega
def kb(u:UV)(s:ByteArray):List cM:=dW u.mr s u.ho.length 0
theorem EE{u:UV}(h:u.Ok)(s:ByteArray):∀x∈kb u s,0≤x.1∧x.1≤99:=
 Et (Q:=fun x=>0≤x.1∧x.1≤99) (fun k=>AW (NY h.mr s k false)) _ _
def je(u:UV):List d9:=sa u.ho (kb u) u.me
def plc(me:List cw)(s:d9):Int:=ix (fun m:cw=>cN m.1 s.1) me
theorem EF{me:List cw}(hn:(me.map (·.1)).Nodup){pre r:List cw}{m:cw}(h:me=pre++m::r):ix (fun x:cw=>cN x.1 m.1) me=(pre.length:Int):=by
 have H:∀(l:List cw) (i:Nat),(∀x∈l,cN x.1 m.1=false)→jx (fun x:cw=>cN x.1 m.1) (l++m::r) i=((i+l.length:Nat):Int):=by
  intro l
  induction l with
  |nil=>
   intro i _;show bC (cN m.1 m.1) (i:Int) _=_;rw[sEq_iff.2 rfl];rfl
  |cons y l ih=>
   intro i hl;show bC (cN y.1 m.1) (i:Int) (jx _ (l++m::r) (i+1))=_;rw[hl y (za4 ..),br,ih (i+1) fun x hx=>hl x (za5 _ hx)];simp;omega
 rw[h] at hn ⊢;have:=H pre 0 fun x hx=>by
  cases he:cN x.1 m.1 with
  |false=>rfl
  |true=>
   rw[List.map_append,List.map_cons] at hn;exact absurd rfl ((List.nodup_append.1 hn).2.2 m.1 (zd4.2 ⟨x,hx,sEq_iff.1 he⟩) m.1 (za4 ..))
 rw[Nat.zero_add] at this;exact this
theorem zW{ho:List eT}{en:ByteArray→List cM}{me:List cw}(hn:(me.map (·.1)).Nodup):∀(r pre:List cw),me=pre++r→(sa ho en r).Pairwise fun a b=>plc me a<plc me b
 |[],_,_=>List.Pairwise.nil
 |m::r,pre,h=>by
  have ih:=zW (ho:=ho) (en:=en) hn r (pre++[m]) (by rw[h];simp);show(List.filter _ (xU ho m (en m.1)::r.map _)).Pairwise _;rw[List.filter_cons];split
  ·refine List.pairwise_cons.2 ⟨fun b hb=> ?_,ih⟩;obtain⟨m',hm',rfl,_⟩:=stL_mem.1 (show b∈sa ho en r from hb);obtain⟨p2,r2,h2⟩:=List.append_of_mem hm';have e1:plc me (xU ho m (en m.1))=(pre.length:Int):=EF hn h;have e2:plc me (xU ho m' (en m'.1))=((pre++m::p2).length:Int):=EF hn (r:=r2) (by rw[h,h2];simp);rw[e1,e2];simp;omega
  ·exact ih
section
variable {f0 f1 f2 f3 f4 f5:Bool}{b0 b1 b2 b3 b4 b5:Nat}{e0 e1 e2 e3 e4 e5:List D}{B mu:FuncId→List D→Option D}
theorem Qa(u:UV)(hu:u.Fit)(s:ByteArray):ct 97 [.str s,.snap [.slc u.cf u.cl.length (bz u.cl),.slc u.mf u.me.length (u.me.flatMap bO),.slc u.hf u.ho.length (u.ho.flatMap bR),.slc u.kf u.mr.length (u.mr.flatMap bH),.slc u.sf u.sg.length (bz u.sg),.slc u.pf u.pa.length (u.pa.flatMap bV)] 0] (eF cQ (kb u s)):=by
 have q:=PH (f0:=u.cf) (b0:=u.cl.length) (e0:=bz u.cl) (f1:=u.mf) (b1:=u.me.length) (e1:=u.me.flatMap bO) (f2:=u.hf) (e2:=u.ho.flatMap bR) (f3:=u.kf) (f4:=u.sf) (b4:=u.sg.length) (e4:=bz u.sg) (f5:=u.pf) (b5:=u.pa.length) (e5:=u.pa.flatMap bV) u.mr s hu.2.2.1 hu.2.2.2.1;obtain⟨B,hB,hF⟩:=iz [one 91 [.agg [.slc u.cf u.cl.length (bz u.cl),.slc u.mf u.me.length (u.me.flatMap bO),.slc u.hf u.ho.length (u.ho.flatMap bR),.slc u.kf u.mr.length (u.mr.flatMap bH),.slc u.sf u.sg.length (bz u.sg),.slc u.pf u.pa.length (u.pa.flatMap bV)],.str s] (.agg [.str s,eF cQ (dW u.mr s u.ho.length 0)])] ⟨bN q,trivial⟩ rfl;have a:B 91 [.agg [.slc u.cf u.cl.length (bz u.cl),.slc u.mf u.me.length (u.me.flatMap bO),.slc u.hf u.ho.length (u.ho.flatMap bR),.slc u.kf u.mr.length (u.mr.flatMap bH),.slc u.sf u.sg.length (bz u.sg),.slc u.pf u.pa.length (u.pa.flatMap bV)],.str s]=some (.agg [.str s,eF cQ (dW u.mr s u.ho.length 0)]):=hF.1 ();refine ed hB Tryz.func97 (ord:=O0) (N:=N0) (by kernel_rfl) ((KF _ _ _ _ _ _ _ _ _ _ _ _ _ _ _ _ _ _ _ _ _ _).trans ?_);rw[a,bq,rU,gT,bA,gU,dM,bI];rw[←dM];rfl
theorem Ol{ho:List eT}{en:ByteArray→List cM}{me:List cw}{n:Nat}(hm:me.length≤1000)
  (h97:∀m∈me,B 97 [.str m.1,.snap [.slc f0 b0 e0,.slc f1 n (me.flatMap bO),.slc f2 b2 e2,.slc f3 b3 e3,.slc f4 b4 e4,.slc f5 b5 e5] 0]=some (eF cQ (en m.1)))
  (h160:∀m∈me,B 160 [.agg [.slc f0 b0 e0,.slc f1 n (me.flatMap bO),.slc f2 b2 e2,.slc f3 b3 e3,.slc f4 b4 e4,.slc f5 b5 e5],.agg (bO m),eF cQ (en m.1)]=some (.agg (bT (xU ho m (en m.1)))))
  (hn0:sa ho en me=[]→B 161 [.nils,.fn (.func 162) [] []]=some (.tup []))
  (hn1:sa ho en me≠[]→mu 161 [.slc false (sa ho en me).length ((sa ho en me).flatMap bT),.fn (.func 162) [] []]=some (.slc false (sa ho en me).length ((gF (sa ho en me)).flatMap bT))):
  ∀(r pre:List cw) (fuel:Nat),me=pre++r→me.length=n→r.length<fuel→
  kT B mu LL C1 fuel f0 b0 e0 f1 n (me.flatMap bO) f2 b2 e2 f3 b3 e3 f4 b4 e4 f5 b5 e5 f1 n (me.flatMap bO) f0 b0 e0 f2 b2 e2 f3 b3 e3 f4 b4 e4 f5 b5 e5 (e8 bT (sa ho en pre)) n (pre.length:Int)=some (eF bT (gF (sa ho en me))):=by
 intro r
 induction r with
 |nil=>
  intro pre fuel hp hn hf;cases fuel with
  |zero=>exact absurd hf (Nat.not_lt_zero _)
  |succ fuel=>
   rw[zb4] at hp;rw[←hp];have he:decide ((me.length:Int)<(n:Int))=false:=by rw[hn];simp
   cases hs:sa ho en me with
   |nil=>
    rw[show e8 bT []=Ow.nil from rfl,sn,he,br,hn0 hs];rfl
   |cons y ys=>
    have h1:=hn1 (by rw[hs];exact List.cons_ne_nil _ _);rw[hs] at h1;have hl:(gF (y::ys)).length=ys.length+1:=fV _;have hl3:((gF (y::ys)).flatMap bT).length=((y::ys).flatMap bT).length:=by rw[dL bT 3 (fun _=>rfl),dL bT 3 (fun _=>rfl),fV]
    rw[show e8 bT (y::ys)=Ow.own (ys.length+1) ((y::ys).flatMap bT) from rfl,so,he,br,eY,bw];rw[show mu 161 [.slc false (ys.length+1) ((y::ys).flatMap bT),.fn (.func 162) [] []]=_ from h1,bq,bI,hl3,show decide (((y::ys).flatMap bT).length=((y::ys).flatMap bT).length)=true by simp,bw,eY,bw];cases hq:gF (y::ys) with
    |nil=>rw[hq] at hl;cases hl
    |cons z zs=>
     rw[hq] at hl;simp at hl;rw[←hl];rfl
 |cons m r ih=>
  intro pre fuel hp hn hf;cases fuel with
  |zero=>exact absurd hf (Nat.not_lt_zero _)
  |succ fuel=>
   have hmem:m∈me:=by rw[hp];simp
   have ih:=ih (pre++[m]) fuel (by rw[hp];simp) hn (by simp at hf;omega);rw[Em] at ih;have l0:decide ((pre.length:Int)<(n:Int))=true:=by rw[←hn,hp];exact cJ pre m r
   have l1:decide ((0:Int)≤(pre.length:Int)∧(pre.length:Int)<(n:Int))=true:=by rw[←hn,hp];exact cF pre m r
   have q0:∀(c:D→Option D),bu (me.flatMap bO) (Int.toNat (pre.length:Int)*3+0) c=c (.str m.1):=fun c=>by rw[hp];exact Ki c pre m r
   have q1:∀(c:D→Option D),bu (me.flatMap bO) (Int.toNat (pre.length:Int)*3+1) c=c (.str m.2.1):=fun c=>by rw[hp];exact m1 c pre m r
   have q2:∀(c:D→Option D),bu (me.flatMap bO) (Int.toNat (pre.length:Int)*3+2) c=c (.int .i64 m.2.2):=fun c=>by rw[hp];exact m2 c pre m r
   have hst:IntKind.wrap .i64 ((pre.length:Int)+1)=((pre++[m]).length:Int):=by
    have:pre.length+r.length+1=me.length:=by rw[hp];simp;omega
    rw[co (by omega)];simp
   have a1:=h97 m hmem;have a2:B 160 [.agg [.slc f0 b0 e0,.slc f1 n (me.flatMap bO),.slc f2 b2 e2,.slc f3 b3 e3,.slc f4 b4 e4,.slc f5 b5 e5],.agg [.str m.1,.str m.2.1,.int .i64 m.2.2],.slc (en m.1).isEmpty (en m.1).length ((en m.1).flatMap cQ)]=some (.agg [.str m.1,.int .i64 (oL (en m.1)),.int .i64 (vM ho m.2.2 (en m.1) 0)]):=by
    have:=h160 m hmem;rw[dM] at this;exact this
   have hlen:=nN ho en pre;have hroom:∀k,k≤1000→decide ((k+1)*32≤cB∧k+1≤9223372036854775807)=true:=fun k hk=>by
    simp only[zc5];rw[show cB=140737488355328 from rfl];omega
   have hpm:pre.length≤me.length:=by rw[hp];simp
   have agg3:∀(a b c:D) (k:List D→Option D),gG (.agg [a,b,c]) 3 k=k [a,b,c]:=fun _ _ _ _=>rfl;have t0:∀(a b c:D) (k:D→Option D),bu [a,b,c] 0 k=k a:=fun _ _ _ _=>rfl;have t1:∀(a b c:D) (k:D→Option D),bu [a,b,c] 1 k=k b:=fun _ _ _ _=>rfl;have t2:∀(a b c:D) (k:D→Option D),bu [a,b,c] 2 k=k c:=fun _ _ _ _=>rfl;cases hs:sa ho en pre with
   |nil=>
    rw[hs] at ih;rw[show e8 bT []=Ow.nil from rfl,sn,l0,bx,l1,bw,q0,bA,q1,bA,q2,bv,a1,bq,dM,bI,a2,bq,agg3,t0,bA,t1,bv,t2,bv,hst];cases hd:decide (oL (en m.1)>0) with
    |true=>rw[hd] at ih;rw[bx];exact ih
    |false=>rw[hd] at ih;rw[br];exact ih
   |cons y ys=>
    rw[hs] at ih hlen;rw[show e8 bT (y::ys)=Ow.own (ys.length+1) ((y::ys).flatMap bT) from rfl,so,l0,bx,l1,bw,q0,bA,q1,bA,q2,bv,a1,bq,dM,bI,a2,bq,agg3,t0,bA,t1,bv,t2,bv,hst];cases hd:decide (oL (en m.1)>0) with
    |true=>
     rw[hd] at ih;rw[bx,hroom _ (by simp at hlen;omega),bw];have e:e8 bT (y::ys++[xU ho m (en m.1)])= .own (ys.length+1+1) ((y::ys).flatMap bT++bT (xU ho m (en m.1))):=fT bT (y::ys) _;rw[e] at ih;exact ih
    |false=>
     rw[hd,zb4] at ih;rw[br];exact ih
end
def KQ(u:UV):List D:=[.slc u.cf u.cl.length (bz u.cl),.slc u.mf u.me.length (u.me.flatMap bO),.slc u.hf u.ho.length (u.ho.flatMap bR),.slc u.kf u.mr.length (u.mr.flatMap bH),.slc u.sf u.sg.length (bz u.sg),.slc u.pf u.pa.length (u.pa.flatMap bV)]
theorem Qb(u:UV)(hu:u.Fit)(h:u.Ok)(hf:u.me.length<20):ct 96 [dY u,.fn (.func 97) [] [.snap (KQ u) 0]] (eF bT (gF (je u))):=by
 have q160:∀m:{m//m∈u.me},ct 160 [dY u,.agg (bO m.1),eF cQ (kb u m.1.1)] (.agg (bT (xU u.ho m.1 (kb u m.1.1)))):=fun m=>by
  have hx:=h.me m.1 m.2;have:=N8 (f0:=u.cf) (b0:=u.cl.length) (e0:=bz u.cl) (f1:=u.mf) (b1:=u.me.length) (e1:=u.me.flatMap bO) (f2:=u.hf) (f3:=u.kf) (b3:=u.mr.length) (e3:=u.mr.flatMap bH) (f4:=u.sf) (b4:=u.sg.length) (e4:=bz u.sg) (f5:=u.pf) (b5:=u.pa.length) (e5:=u.pa.flatMap bV) (g:=(kb u m.1.1).isEmpty) h.ho m.1 hx.1 hx.2.1 (kb u m.1.1) (jy _ _ _ _) (EE h _);rw[dM];exact this
 obtain⟨B,hB,hF⟩:=iz [⟨97,ByteArray,fun s=>[.str s,.snap (KQ u) 0],fun s=>eF cQ (kb u s)⟩,⟨160,{m//m∈u.me},fun m=>[dY u,.agg (bO m.1),eF cQ (kb u m.1.1)],fun m=> .agg (bT (xU u.ho m.1 (kb u m.1.1)))⟩,one 161 [.nils,.fn (.func 162) [] []] (.tup [])]
  ⟨⟨fun s=>Qa u hu s,fun i j he=>(by
   have he:[D.str i,D.snap (KQ u) 0]=[D.str j,D.snap (KQ u) 0]:=he;simp at he;rw[he])⟩,⟨q160,fun i j he=>(by
   have he:[dY u,D.agg (bO i.1),eF cQ (kb u i.1.1)]=[dY u,D.agg (bO j.1),eF cQ (kb u j.1.1)]:=he;simp only[zc3,D.agg.injEq,true_and] at he;rw[show i=j from Subtype.ext (xG he.1)])⟩,bN KP,trivial⟩ rfl
 obtain⟨a1,a2,a3,_⟩:=hF;have hlen:=nN u.ho (kb u) u.me;by_cases hz:je u=[]
 ·have go:=Ol (B:=B) (mu:=KE) (f0:=u.cf) (b0:=u.cl.length) (e0:=bz u.cl) (f1:=u.mf) (f2:=u.hf) (b2:=u.ho.length) (e2:=u.ho.flatMap bR) (f3:=u.kf) (b3:=u.mr.length) (e3:=u.mr.flatMap bH) (f4:=u.sf) (b4:=u.sg.length) (e4:=bz u.sg) (f5:=u.pf) (b5:=u.pa.length) (e5:=u.pa.flatMap bV) (ho:=u.ho) (en:=kb u) (me:=u.me) (n:=u.me.length) (by omega) (fun m _=>a1 m.1) (fun m hm=>a2 ⟨m,hm⟩) (fun _=>a3 ()) (fun hne=>absurd hz hne) u.me [] LL rfl rfl (by unfold LL;omega);exact Qs hB A7 Tryz.func96 (ord:=OH) (N:=OG) (by kernel_rfl) ((Ex _ _ _ _ _ _ _ _ _ _ _ _ _ _ _ _ _ _ _ _ _ _ _ _ _ _ _ _ _ _ _ _ _ _ _ _ _ _ _ _).trans go)
 ·have h161:=Oj (l:=je u) (key:=plc u.me) (zW h.nd u.me [] rfl) (by unfold je;omega) (List.length_pos_iff.2 hz);have go:=Ol (B:=B) (mu:=xX 161 ((je u).flatMap bT) (je u).length [.fn (.func 162) [] []] ((gF (je u)).flatMap bT)) (f0:=u.cf) (b0:=u.cl.length) (e0:=bz u.cl) (f1:=u.mf) (f2:=u.hf) (b2:=u.ho.length) (e2:=u.ho.flatMap bR) (f3:=u.kf) (b3:=u.mr.length) (e3:=u.mr.flatMap bH) (f4:=u.sf) (b4:=u.sg.length) (e4:=bz u.sg) (f5:=u.pf) (b5:=u.pa.length) (e5:=u.pa.flatMap bV) (ho:=u.ho) (en:=kb u) (me:=u.me) (n:=u.me.length) (by omega) (fun m _=>a1 m.1) (fun m hm=>a2 ⟨m,hm⟩) (fun hz'=>absurd hz' hz) (fun _=>sk) u.me [] LL rfl rfl (by unfold LL;omega);exact Qs hB (sh h161) Tryz.func96 (ord:=OH) (N:=OG) (by kernel_rfl) ((Ex _ _ _ _ _ _ _ _ _ _ _ _ _ _ _ _ _ _ _ _ _ _ _ _ _ _ _ _ _ _ _ _ _ _ _ _ _ _ _ _).trans go)
theorem Om(u:UV)(hu:u.Fit')(hf:uE u=0→u.me.length<20):ct 32 [dY u] (bC (uE u !=0) (.tup [.slc true 0 [],.int .i64 (uE u)]) (.tup [eF bT (gF (je u)),.int .i64 0])):=by
 by_cases hz:uE u=0
 ·obtain⟨B,hB,hF⟩:=iz [one 17 [dY u] (.int .i64 (uE u)),one 96 [dY u,.fn (.func 97) [] [.snap (KQ u) 0]] (eF bT (gF (je u)))] ⟨bN (NM u hu),bN (Qb u hu.1 (ED hz) (hf hz)),trivial⟩ rfl;have a1:B 17 [dY u]=some (.int .i64 (uE u)):=hF.1 ();have a2:B 96 [dY u,.fn (.func 97) [] [.snap (KQ u) 0]]=some (eF bT (gF (je u))):=hF.2.1 ();refine ed hB Tryz.func32 (ord:=O0) (N:=N0) (by kernel_rfl) ((Ew _ _ _ u.cf u.cl.length (bz u.cl) u.mf u.me.length (u.me.flatMap bO) u.hf u.ho.length (u.ho.flatMap bR) u.kf u.mr.length (u.mr.flatMap bH) u.sf u.sg.length (bz u.sg) u.pf u.pa.length (u.pa.flatMap bV)).trans ?_);unfold dY at a1 a2;unfold KQ at a2;rw[a1,bq,bv,a2,hz,show((0:Int) !=0)=false from rfl,br,br,bq,dM,bI]
 ·have hne:(uE u !=0)=true:=by simpa using hz
  obtain⟨B,hB,hF⟩:=iz [one 17 [dY u] (.int .i64 (uE u))] ⟨bN (NM u hu),trivial⟩ rfl;have a1:B 17 [dY u]=some (.int .i64 (uE u)):=hF.1 ();refine ed hB Tryz.func32 (ord:=O0) (N:=N0) (by kernel_rfl) ((Ew _ _ _ u.cf u.cl.length (bz u.cl) u.mf u.me.length (u.me.flatMap bO) u.hf u.ho.length (u.ho.flatMap bR) u.kf u.mr.length (u.mr.flatMap bH) u.sf u.sg.length (bz u.sg) u.pf u.pa.length (u.pa.flatMap bV)).trans ?_);unfold dY at a1;rw[a1,bq,bv,hne,bx,bx]
end Go.Pd
end
