import Derived.Test.YtmhbhlbnlmbhlaaGreatDoorCrB
section
namespace Go.Pd
open Go Go.Proofs Go.RowKit
set_option maxRecDepth 100000
abbrev jb(x:Int):Int:=IntKind.wrap .i64 x
def MU(p:Pt):List D:=[.int .i64 p.1,.int .i64 p.2]
abbrev bW(p:Pt):D:= .agg [.int .i64 p.1,.int .i64 p.2]
abbrev lW(s:Pt×Pt):D:= .agg [.int .i64 s.1.1,.int .i64 s.1.2,.int .i64 s.2.1,.int .i64 s.2.2]
theorem fY{a b:Pt}(h:bW a=bW b):a=b:=by
 simp only[bW,D.agg.injEq,zc5,D.int.injEq,true_and,and_true] at h;exact Prod.ext h.1 h.2
theorem xt{a b:Pt×Pt}(h:lW a=lW b):a=b:=by
 simp only[lW,D.agg.injEq,zc5,D.int.injEq,true_and,and_true] at h;exact Prod.ext (Prod.ext h.1 h.2.1) (Prod.ext h.2.2.1 h.2.2.2)
def cW(a b:Pt):Pt:=(jb (a.1-b.1),jb (a.2-b.2))
def ru(a b:Pt):Int:=jb (jb (a.1*b.2)-jb (a.2*b.1))
def y6(a b:Pt):Int:=jb (jb (a.1*b.1)+jb (a.2*b.2))
def da(a b c:Pt):Int:=sg (ru (cW b a) (cW c a))
def ge(a b p:Pt):Bool:=bz (da a b p==0) (decide (y6 (cW a p) (cW b p)≤0)) false
def oo(a b p:Pt):Bool:=bz (da a b p==0) (bz (decide ((if b.1<a.1 then b.1 else a.1)≤p.1)) (bz (decide (p.1≤if b.1>a.1 then b.1 else a.1)) (bz (decide ((if b.2<a.2 then b.2 else a.2)≤p.2)) (decide (p.2≤if b.2>a.2 then b.2 else a.2)) false) false) false) false
def qF(a b c d:Pt):Bool:=bz (decide (jb (da a b c*da a b d)<0)) (decide (jb (da c d a*da c d b)<0)) false
def iF(a b c d:Pt):Bool:=bz (ge a b c) true (bz (ge a b d) true (bz (ge c d a) true (bz (ge c d b) true (qF a b c d))))
def gP(a b c d:Pt):Bool:=bz (oo a b c) true (bz (oo a b d) true (bz (oo c d a) true (bz (oo c d b) true (qF a b c d))))
theorem Dm(a b:Pt):OK2 140 [bW a,bW b] (bW (cW a b)):=dT cK Tryz.func140 (ord:=O0) (N:=N0) (by kernel_rfl) (I6 _ _ _ a.1 a.2 b.1 b.2)
theorem LG(a b:Pt):OK2 110 [bW a,bW b] (.int .i64 (ru a b)):=dT cK Tryz.func110 (ord:=O0) (N:=N0) (by kernel_rfl) (IY _ _ _ a.1 a.2 b.1 b.2)
theorem F4(a b:Pt):OK2 139 [bW a,bW b] (.int .i64 (y6 a b)):=dT cK Tryz.func139 (ord:=O0) (N:=N0) (by kernel_rfl) (IZ _ _ _ a.1 a.2 b.1 b.2)
def lH(k:FuncId)(r:Pt→Pt→D):Fam:=⟨k,Pt×Pt,fun x=>[bW x.1,bW x.2],fun x=>r x.1 x.2⟩
theorem ek{k:FuncId}{r:Pt→Pt→D}(h:∀a b,OK2 k [bW a,bW b] (r a b))(hc:∀a b,ja k [bW a,bW b]=none):(lH k r).Good:=
 ⟨fun x=>h x.1 x.2,fun x y e=>by
  simp only[lH,zc5,and_true] at e;show r x.1 x.2=r y.1 y.2;rw[fY e.1,fY e.2],fun x=>hc x.1 x.2⟩
def Jn(k:FuncId)(r:Int→D):Fam:=⟨k,Int,fun x=>[.int .i64 x],fun x=>r x⟩
theorem p7{k:FuncId}{r:Int→D}(h:∀x,OK2 k [.int .i64 x] (r x))(hc:∀x,ja k [.int .i64 x]=none):(Jn k r).Good:=
 ⟨h,fun(x y:Int) e=>by
  have e:[D.int .i64 x]=[D.int .i64 y]:=e;cases e;rfl,hc⟩
def iB(k:FuncId)(r:Pt→Pt→Pt→D):Fam:=⟨k,Pt×Pt×Pt,fun x=>[bW x.1,bW x.2.1,bW x.2.2],fun x=>r x.1 x.2.1 x.2.2⟩
theorem dK{k:FuncId}{r:Pt→Pt→Pt→D}(h:∀a b c,OK2 k [bW a,bW b,bW c] (r a b c))(hc:∀a b c,ja k [bW a,bW b,bW c]=none):(iB k r).Good:=
 ⟨fun x=>h x.1 x.2.1 x.2.2,fun x y e=>by
  simp only[iB,zc5,and_true] at e;show r x.1 x.2.1 x.2.2=r y.1 y.2.1 y.2.2;rw[fY e.1,fY e.2.1,fY e.2.2],fun x=>hc x.1 x.2.1 x.2.2⟩
def Dn(k:FuncId)(r:Pt×Pt→Pt→D):Fam:=⟨k,(Pt×Pt)×Pt,fun x=>[lW x.1,bW x.2],fun x=>r x.1 x.2⟩
theorem sS{k:FuncId}{r:Pt×Pt→Pt→D}(h:∀a b,OK2 k [lW a,bW b] (r a b))(hc:∀a b,ja k [lW a,bW b]=none):(Dn k r).Good:=
 ⟨fun x=>h x.1 x.2,fun x y e=>by
  simp only[Dn,zc5,and_true] at e;show r x.1 x.2=r y.1 y.2;rw[xt e.1,fY e.2],fun x=>hc x.1 x.2⟩
def F5(k:FuncId)(r:Pt×Pt→Pt×Pt→D):Fam:=⟨k,(Pt×Pt)×(Pt×Pt),fun x=>[lW x.1,lW x.2],fun x=>r x.1 x.2⟩
theorem BO{k:FuncId}{r:Pt×Pt→Pt×Pt→D}(h:∀a b,OK2 k [lW a,lW b] (r a b))(hc:∀a b,ja k [lW a,lW b]=none):(F5 k r).Good:=
 ⟨fun x=>h x.1 x.2,fun x y e=>by
  simp only[F5,zc5,and_true] at e;show r x.1 x.2=r y.1 y.2;rw[xt e.1,xt e.2],fun x=>hc x.1 x.2⟩
def sT(k:FuncId):Fam:=⟨k,Bool×Int,fun x=>[.bool x.1,.int .i64 x.2],fun x=> .int .i64 (bz x.1 x.2 0)⟩
theorem jc{k:FuncId}(h:∀b e,OK2 k [.bool b,.int .i64 e] (.int .i64 (bz b e 0)))(hc:∀b e,ja k [.bool b,.int .i64 e]=none):(sT k).Good:=
 ⟨fun x=>h x.1 x.2,fun x y e=>by
  simp only[sT,zc5,D.bool.injEq,D.int.injEq,true_and,and_true] at e;show D.int .i64 (bz x.1 x.2 0)= .int .i64 (bz y.1 y.2 0);rw[e.1,e.2],fun x=>hc x.1 x.2⟩
theorem Qw(n:Int):OK2 175 [.int .i64 n] (.int .i64 (sg n)):=by
 refine dT cK Tryz.func175 (ord:=O0) (N:=N0) (by kernel_rfl) ?_;have h:∀n:Int,bz (decide (n<0)) (some (D.int .i64 (-1))) (bz (decide (n>0)) (some (D.int .i64 1)) (some (D.int .i64 0)))=some (.int .i64 (sg n)):=fun n=>by
  unfold sg;by_cases h1:n<0
  ·rw[za1 h1,if_pos h1];rfl
  ·rw[za2 h1,if_neg h1];by_cases h2:n>0
   ·rw[za1 h2,if_pos h2];rfl
   ·rw[za2 h2,if_neg h2];rfl
 exact(I7 _ _ _ n).trans (h n)
theorem Qx(n:Int):OK2 111 [.int .i64 n] (.int .i64 (sg n)):=by
 refine dT cK Tryz.func111 (ord:=O0) (N:=N0) (by kernel_rfl) ((Je _ _ _ n).trans ?_);unfold sg;by_cases h1:n<0
 ·rw[za1 h1,if_pos h1,za2 (show¬n>0 by omega)];rfl
 ·rw[za2 h1,if_neg h1];by_cases h2:n>0
  ·rw[za1 h2,if_pos h2];rfl
  ·rw[za2 h2,if_neg h2];rfl
theorem Do(a b c:Pt):OK2 108 [bW a,bW b,bW c] (.int .i64 (da a b c)):=by
 obtain⟨B,hb,h140,h110,h175,_⟩:=fP [lH 140 fun a b=>bW (cW a b),lH 110 fun a b=> .int .i64 (ru a b),Jn 175 fun x=> .int .i64 (sg x)]
  ⟨ek Dm (fun _ _=>rfl),ek LG (fun _ _=>rfl),p7 Qw (fun _=>rfl),trivial⟩ rfl
 refine dT hb Tryz.func108 (ord:=O0) (N:=N0) (by kernel_rfl) ((IX _ _ _ a.1 a.2 b.1 b.2 c.1 c.2).trans ?_);have e1:bw B 140 [bW b,bW a]=_:=h140 (b,a);have e2:bw B 140 [bW c,bW a]=_:=h140 (c,a);have e3:bw B 110 [bW (cW b a),bW (cW c a)]=_:=h110 (cW b a,cW c a);have e4:bw B 175 [.int .i64 (ru (cW b a) (cW c a))]=_:=h175 _;rw[e1];show bB (bw B 140 [bW c,bW a]) _=_;rw[e2];show bB (bw B 110 [bW (cW b a),bW (cW c a)]) _=_;rw[e3];show bB (bw B 175 [.int .i64 (ru (cW b a) (cW c a))]) _=_;rw[e4];rfl
theorem Jo(a b c:Pt):OK2 53 [bW a,bW b,bW c] (.int .i64 (da a b c)):=by
 obtain⟨B,hb,h111,_⟩:=fP [Jn 111 fun x=> .int .i64 (sg x)] ⟨p7 Qx (fun _=>rfl),trivial⟩ rfl;refine dT hb Tryz.func53 (ord:=O0) (N:=N0) (by kernel_rfl) ((MD _ _ _ a.1 a.2 b.1 b.2 c.1 c.2).trans ?_);have e:bw B 111 [.int .i64 (ru (cW b a) (cW c a))]=_:=h111 _;show bB (bw B 111 [.int .i64 (ru (cW b a) (cW c a))]) _=_;rw[e];rfl
theorem LH(s:Pt×Pt)(p:Pt):OK2 138 [lW s,bW p] (.bool (ge s.1 s.2 p)):=by
 obtain⟨B,hb,h108,h140,h139,_⟩:=fP [iB 108 fun a b c=> .int .i64 (da a b c),lH 140 fun a b=>bW (cW a b),lH 139 fun a b=> .int .i64 (y6 a b)]
  ⟨dK Do (fun _ _ _=>rfl),ek Dm (fun _ _=>rfl),ek F4 (fun _ _=>rfl),trivial⟩ rfl
 refine dT hb Tryz.func138 (ord:=O0) (N:=N0) (by kernel_rfl) ((I8 _ _ _ s.1.1 s.1.2 s.2.1 s.2.2 p.1 p.2).trans ?_);have e1:bw B 108 [bW s.1,bW s.2,bW p]=_:=h108 (s.1,s.2,p);have e2:bw B 140 [bW s.1,bW p]=_:=h140 (s.1,p);have e3:bw B 140 [bW s.2,bW p]=_:=h140 (s.2,p);have e4:bw B 139 [bW (cW s.1 p),bW (cW s.2 p)]=_:=h139 (cW s.1 p,cW s.2 p);rw[e1];show bz (da s.1 s.2 p==0) (bB (bw B 140 [bW s.1,bW p]) _) _=_;rw[e2];show bz (da s.1 s.2 p==0) (bB (bw B 140 [bW s.2,bW p]) _) _=_;rw[e3];show bz (da s.1 s.2 p==0) (bB (bw B 139 [bW (cW s.1 p),bW (cW s.2 p)]) _) _=_;rw[e4];unfold ge;cases da s.1 s.2 p==0<;>rfl
theorem Qy(s t:Pt×Pt):OK2 174 [lW s,lW t] (.bool (iF s.1 s.2 t.1 t.2)):=by
 obtain⟨B,hb,h108,h138,_⟩:=fP [iB 108 fun a b c=> .int .i64 (da a b c),Dn 138 fun s p=> .bool (ge s.1 s.2 p)]
  ⟨dK Do (fun _ _ _=>rfl),sS LH (fun _ _=>rfl),trivial⟩ rfl
 refine dT hb Tryz.func174 (ord:=O0) (N:=Mw) (by kernel_rfl) ((Ja _ _ _ s.1.1 s.1.2 s.2.1 s.2.2 t.1.1 t.1.2 t.2.1 t.2.2).trans ?_);have e1:bw B 138 [lW s,bW t.1]=_:=h138 (s,t.1);have e2:bw B 138 [lW s,bW t.2]=_:=h138 (s,t.2);have e3:bw B 138 [lW t,bW s.1]=_:=h138 (t,s.1);have e4:bw B 138 [lW t,bW s.2]=_:=h138 (t,s.2);have f1:bw B 108 [bW s.1,bW s.2,bW t.1]=_:=h108 (s.1,s.2,t.1);have f2:bw B 108 [bW s.1,bW s.2,bW t.2]=_:=h108 (s.1,s.2,t.2);have f3:bw B 108 [bW t.1,bW t.2,bW s.1]=_:=h108 (t.1,t.2,s.1);have f4:bw B 108 [bW t.1,bW t.2,bW s.2]=_:=h108 (t.1,t.2,s.2);have tail:sJ (bw B) LL C1 s.1.1 s.1.2 s.2.1 s.2.2 t.1.1 t.1.2 t.2.1 t.2.2=some (.bool (qF s.1 s.2 t.1 t.2)):=by
  rw[Ew _ _ _ _ _ _ _ _ _ _ _ c1,f1];show bB (bw B 108 [bW s.1,bW s.2,bW t.2]) _=_;rw[f2];show bz (decide (jb (da s.1 s.2 t.1*da s.1 s.2 t.2)<0)) (bB (bw B 108 [bW t.1,bW t.2,bW s.1]) _) _=_;rw[f3];show bz (decide (jb (da s.1 s.2 t.1*da s.1 s.2 t.2)<0)) (bB (bw B 108 [bW t.1,bW t.2,bW s.2]) _) _=_;rw[f4];unfold qF;cases decide (jb (da s.1 s.2 t.1*da s.1 s.2 t.2)<0)<;>rfl
 rw[e1];show bz (ge s.1 s.2 t.1) (some (D.bool true)) (bB (bw B 138 [lW s,bW t.2]) _)=_;rw[e2];show bz (ge s.1 s.2 t.1) (some (D.bool true)) (bz (ge s.1 s.2 t.2) (some (D.bool true)) (bB (bw B 138 [lW t,bW s.1]) _))=_;rw[e3];show bz (ge s.1 s.2 t.1) (some (D.bool true)) (bz (ge s.1 s.2 t.2) (some (D.bool true)) (bz (ge t.1 t.2 s.1) (some (D.bool true)) (bB (bw B 138 [lW t,bW s.2]) _)))=_;rw[e4];show bz (ge s.1 s.2 t.1) (some (D.bool true)) (bz (ge s.1 s.2 t.2) (some (D.bool true)) (bz (ge t.1 t.2 s.1) (some (D.bool true)) (bz (ge t.1 t.2 s.2) (some (D.bool true)) (sJ (bw B) LL C1 s.1.1 s.1.2 s.2.1 s.2.2 t.1.1 t.1.2 t.2.1 t.2.2))))=_;rw[tail];unfold iF;cases ge s.1 s.2 t.1<;>cases ge s.1 s.2 t.2<;>cases ge t.1 t.2 s.1<;>cases ge t.1 t.2 s.2<;>rfl
theorem LI(a b p:Pt):OK2 112 [bW a,bW b,bW p] (.bool (oo a b p)):=by
 obtain⟨B,hb,h53,_⟩:=fP [iB 53 fun a b c=> .int .i64 (da a b c)] ⟨dK Jo (fun _ _ _=>rfl),trivial⟩ rfl;refine dT hb Tryz.func112 (ord:=O0) (N:=N0) (by kernel_rfl) ((Jf _ _ _ a.1 a.2 b.1 b.2 p.1 p.2).trans ?_);have e:bw B 53 [bW a,bW b,bW p]=_:=h53 (a,b,p);rw[e];unfold oo;show bz (da a b p==0) _ _=_;generalize (da a b p==0)=b1;generalize decide ((if b.1<a.1 then b.1 else a.1)≤p.1)=b2;generalize decide (p.1≤if b.1>a.1 then b.1 else a.1)=b3;generalize decide ((if b.2<a.2 then b.2 else a.2)≤p.2)=b4;cases b1<;>cases b2<;>cases b3<;>cases b4<;>rfl
theorem Qz(a b c d:Pt):OK2 106 [bW a,bW b,bW c,bW d] (.bool (gP a b c d)):=by
 obtain⟨B,hb,h53,h112,_⟩:=fP [iB 53 fun a b c=> .int .i64 (da a b c),iB 112 fun a b c=>D.bool (oo a b c)]
  ⟨dK Jo (fun _ _ _=>rfl),dK LI (fun _ _ _=>rfl),trivial⟩ rfl
 refine dT hb Tryz.func106 (ord:=O0) (N:=ME) (by kernel_rfl) ((Jg _ _ _ a.1 a.2 b.1 b.2 c.1 c.2 d.1 d.2).trans ?_);have e1:bw B 112 [bW a,bW b,bW c]=_:=h112 (a,b,c);have e2:bw B 112 [bW a,bW b,bW d]=_:=h112 (a,b,d);have e3:bw B 112 [bW c,bW d,bW a]=_:=h112 (c,d,a);have e4:bw B 112 [bW c,bW d,bW b]=_:=h112 (c,d,b);have f1:bw B 53 [bW a,bW b,bW c]=_:=h53 (a,b,c);have f2:bw B 53 [bW a,bW b,bW d]=_:=h53 (a,b,d);have f3:bw B 53 [bW c,bW d,bW a]=_:=h53 (c,d,a);have f4:bw B 53 [bW c,bW d,bW b]=_:=h53 (c,d,b);have tail:sL (bw B) LL C1 a.1 a.2 b.1 b.2 c.1 c.2 d.1 d.2=some (.bool (qF a b c d)):=by
  rw[Ex _ _ _ _ _ _ _ _ _ _ _ c1,f1];show bB (bw B 53 [bW a,bW b,bW d]) _=_;rw[f2];show bz (decide (jb (da a b c*da a b d)<0)) (bB (bw B 53 [bW c,bW d,bW a]) _) _=_;rw[f3];show bz (decide (jb (da a b c*da a b d)<0)) (bB (bw B 53 [bW c,bW d,bW b]) _) _=_;rw[f4];unfold qF;cases decide (jb (da a b c*da a b d)<0)<;>rfl
 rw[e1];show bz (oo a b c) (some (D.bool true)) (bB (bw B 112 [bW a,bW b,bW d]) _)=_;rw[e2];show bz (oo a b c) (some (D.bool true)) (bz (oo a b d) (some (D.bool true)) (bB (bw B 112 [bW c,bW d,bW a]) _))=_;rw[e3];show bz (oo a b c) (some (D.bool true)) (bz (oo a b d) (some (D.bool true)) (bz (oo c d a) (some (D.bool true)) (bB (bw B 112 [bW c,bW d,bW b]) _)))=_;rw[e4];show bz (oo a b c) (some (D.bool true)) (bz (oo a b d) (some (D.bool true)) (bz (oo c d a) (some (D.bool true)) (bz (oo c d b) (some (D.bool true)) (sL (bw B) LL C1 a.1 a.2 b.1 b.2 c.1 c.2 d.1 d.2))))=_;rw[tail];unfold gP;cases oo a b c<;>cases oo a b d<;>cases oo c d a<;>cases oo c d b<;>rfl
theorem EC(b:Bool)(e:Int):OK2 84 [.bool b,.int .i64 e] (.int .i64 (bz b e 0)):=dT cK Tryz.func84 (ord:=O0) (N:=N0) (by kernel_rfl) ((Mr _ _ _ b e).trans (by cases b<;>rfl))
def cI:List Int→Int
 |[]=>0
 |x::r=>bz (x !=0) x (cI r)
theorem Un{call:CL}{f:Bool}{n:Nat}:∀(r pre:List Int) (fuel:Nat),(pre++r).length=n→n≤1000→r.length<fuel→xd call LL C1 fuel f n (dE (pre++r)) n (pre.length:Int)=some (.int .i64 (cI r)):=by
 intro r
 induction r with
 |nil=>
  intro pre fuel hn hB hf;cases fuel with
  |zero=>exact absurd hf (Nat.not_lt_zero _)
  |succ fuel=>
   subst hn;rw[vG,mF,bv];rfl
 |cons x r ih=>
  intro pre fuel hn hB hf;cases fuel with
  |zero=>exact absurd hf (Nat.not_lt_zero _)
  |succ fuel=>
   have ih:=ih (pre++[x]) fuel (by rw[gb];exact hn) hB (by simp at hf;omega);rw[gb] at ih;subst hn;rw[vG,pX,bx,pY,bC,pZ,bF,j6 pre x r (by omega),ih];rw[show cI (x::r)=bz (x !=0) x (cI r) from rfl];cases x !=0<;>rfl
theorem ED{f:Bool}(l:List Int)(hl:l.length≤1000):OK2 76 [.slc f l.length (dE l)] (.int .i64 (cI l)):=
 dT cK Tryz.func76 (ord:=O0) (N:=TP) (by kernel_rfl) ((Ms _ _ _ _ _ _).trans (Un (f:=f) l [] LL rfl hl (by unfold LL;omega)))
theorem oq:∀{a b:List Int},dE a=dE b→a=b
 |[],[],_=>rfl
 |[],y::b,h=>by cases h
 |x::a,[],h=>by cases h
 |x::a,y::b,h=>by
  have h:D.int .i64 x::dE a=D.int .i64 y::dE b:=h;simp only[zc5,D.int.injEq,true_and] at h;rw[h.1,oq h.2]
def vL(k:FuncId):Fam:=⟨k,{l:List Int//l.length≤1000},fun l=>[.slc true l.1.length (dE l.1)],fun l=> .int .i64 (cI l.1)⟩
theorem jd{k:FuncId}(h:∀l:List Int,l.length≤1000→OK2 k [.slc true l.length (dE l)] (.int .i64 (cI l)))(hc:∀n c,ja k [.slc true n c]=none):(vL k).Good:=
 ⟨fun l=>h l.1 l.2,fun x y e=>by
  have e:[D.slc true x.1.length (dE x.1)]=[D.slc true y.1.length (dE y.1)]:=e;simp only[zc5,D.slc.injEq,true_and,and_true] at e;show D.int .i64 (cI x.1)= .int .i64 (cI y.1);rw[oq e.2],fun _=>hc _ _⟩
def nB(n:Int):Bool:=bz (decide (n< -1000000)) true (decide (n>1000000))
def cb(p:Pt):Bool:=bz (nB p.1) true (nB p.2)
def lI(x:Int×Int×Int):Bool:=bz (decide (x.1<x.2.1)) true (decide (x.1>x.2.2))
theorem QA(n a b:Int):OK2 100 [.int .i64 n,.int .i64 a,.int .i64 b] (.bool (lI (n,a,b))):=
 dT cK Tryz.func100 (ord:=O0) (N:=N0) (by kernel_rfl) ((IT _ _ _ n a b).trans (by unfold lI;cases decide (n<a)<;>rfl))
def fam100:Fam:=⟨100,Int×Int×Int,fun x=>[.int .i64 x.1,.int .i64 x.2.1,.int .i64 x.2.2],fun x=> .bool (lI x)⟩
theorem qG:fam100.Good:=⟨fun x=>QA x.1 x.2.1 x.2.2,fun x y e=>by
 have e:[D.int .i64 x.1,.int .i64 x.2.1,.int .i64 x.2.2]=[D.int .i64 y.1,.int .i64 y.2.1,.int .i64 y.2.2]:=e;simp only[zc5,D.int.injEq,true_and,and_true] at e;show D.bool (lI x)= .bool (lI y);rw[show x=y from Prod.ext e.1 (Prod.ext e.2.1 e.2.2)],fun _=>rfl⟩
theorem Uo(n:Int):OK2 90 [.int .i64 n] (.bool (nB n)):=
 dT cK Tryz.func90 (ord:=O0) (N:=N0) (by kernel_rfl) ((MC _ _ _ n).trans (by unfold nB;cases decide (n< -1000000)<;>rfl))
theorem QB(p:Pt):OK2 24 [bW p] (.int .i64 (bz (cb p) 3 0)):=by
 obtain⟨B,hb,h90,_⟩:=fP [Jn 90 fun x=>D.bool (nB x)] ⟨p7 Uo (fun _=>rfl),trivial⟩ rfl;refine dT hb Tryz.func24 (ord:=O0) (N:=N0) (by kernel_rfl) ((Mq _ _ _ p.1 p.2).trans ?_);have e1:bw B 90 [.int .i64 p.1]=_:=h90 p.1;have e2:bw B 90 [.int .i64 p.2]=_:=h90 p.2;rw[e1,e2];show bz (nB p.1) _ (bz (nB p.2) _ _)=_;unfold cb;cases nB p.1<;>cases nB p.2<;>rfl
theorem QC(p:Pt):OK2 137 [bW p] (.bool (cb p)):=by
 obtain⟨B,hb,h100,_⟩:=fP [fam100] ⟨qG,trivial⟩ rfl;refine dT hb Tryz.func137 (ord:=O0) (N:=N0) (by kernel_rfl) ((IV _ _ _ p.1 p.2).trans ?_);have e1:bw B 100 [.int .i64 p.1,.int .i64 (-1000000),.int .i64 1000000]=_:=h100 (p.1,-1000000,1000000);have e2:bw B 100 [.int .i64 p.2,.int .i64 (-1000000),.int .i64 1000000]=_:=h100 (p.2,-1000000,1000000);rw[e1,e2];show bz (nB p.1) _ (some (D.bool (nB p.2)))=_;unfold cb;cases nB p.1<;>rfl
def Jp(k:FuncId)(r:Pt→D):Fam:=⟨k,Pt,fun x=>[bW x],fun x=>r x⟩
theorem p8{k:FuncId}{r:Pt→D}(h:∀a,OK2 k [bW a] (r a))(hc:∀a,ja k [bW a]=none):(Jp k r).Good:=
 ⟨fun x=>h x,fun x y e=>by
  have e:[bW x]=[bW y]:=e;simp only[zc5,and_true] at e;show r x=r y;rw[fY e],fun x=>hc x⟩
def xu:List Pt→Nat→Int
 |[],_=> -1
 |p::r,i=>bz (cb p) i (xu r (i+1))
def bJ(l:List Pt):List D:=l.flatMap MU
section
variable {γ:Type}(pre:List Pt)(x:Pt)(r:List Pt){k:D→Option γ}
theorem q0:bu (bJ (pre++x::r)) (Int.toNat (pre.length:Int)*2+0) k=k (.int .i64 x.1):=lT pre x r MU 2 (fun _=>rfl) 0 (by omega) k
theorem q1:bu (bJ (pre++x::r)) (Int.toNat (pre.length:Int)*2+1) k=k (.int .i64 x.2):=lT pre x r MU 2 (fun _=>rfl) 1 (by omega) k
end
theorem QD{call:CL}(h137:∀p:Pt,call 137 [bW p]=some (.bool (cb p))){f:Bool}{n:Nat}:∀(r pre:List Pt) (fuel:Nat),(pre++r).length=n→n≤1000→r.length<fuel→rG call LL C1 fuel f n (bJ (pre++r)) n (pre.length:Int)=some (.int .i64 (xu r pre.length)):=by
 intro r
 induction r with
 |nil=>
  intro pre fuel hn hB hf;cases fuel with
  |zero=>exact absurd hf (Nat.not_lt_zero _)
  |succ fuel=>
   subst hn;rw[sI,mF,bv];rfl
 |cons x r ih=>
  intro pre fuel hn hB hf;cases fuel with
  |zero=>exact absurd hf (Nat.not_lt_zero _)
  |succ fuel=>
   have ih:=ih (pre++[x]) fuel (by rw[gb];exact hn) hB (by simp at hf;omega);rw[gb,za6,zb4] at ih;subst hn;have e:call 137 [D.agg [.int .i64 x.1,.int .i64 x.2]]=_:=h137 x;have hs:=j6 pre x r (by omega);rw[za6,zb4] at hs;rw[sI,pX,bx,pY,bC,q0,bF,q1,bF,e,bA,cj,hs,ih];rw[show xu (x::r) pre.length=bz (cb x) (pre.length:Int) (xu r (pre.length+1)) from rfl];cases cb x<;>rfl
theorem Dp:∀(l:List Pt) (i:Nat),decide (xu l i≥0)=l.any cb
 |[],_=>rfl
 |p::r,i=>by
  have:=Dp r (i+1);rw[show xu (p::r) i=bz (cb p) (i:Int) (xu r (i+1)) from rfl,List.any_cons];cases cb p
  ·rw[bv,Bool.false_or,this]
  ·rw[bx,Bool.true_or,za1 (by omega)]
theorem QE{f:Bool}(l:List Pt)(hl:l.length≤1000):OK2 191 [.slc f l.length (bJ l),.fn (.func 137) [] []] (.int .i64 (xu l 0)):=by
 obtain⟨B,hb,h137,_⟩:=fP [Jp 137 fun x=>D.bool (cb x)] ⟨p8 QC (fun _=>rfl),trivial⟩ rfl;exact dT hb Tryz.func191 (ord:=O0) (N:=Mv) (by kernel_rfl) ((IW _ _ _ _ _ _).trans (QD (fun p=>h137 p) (f:=f) l [] LL rfl hl (by unfold LL;omega)))
theorem je{k:FuncId}{ds:List D}{r:D}(h:OK2 k ds r)(hc:ja k ds=none):∃B,dA B∧bw B k ds=some r:=by
 obtain⟨B,hb,h1,_⟩:=fP [one k ds r] ⟨bM h hc,trivial⟩ rfl;exact⟨B,hb,h1 ()⟩
theorem QF{f:Bool}(l:List Pt)(hl:l.length≤1000):OK2 136 [.slc f l.length (bJ l),.fn (.func 137) [] []] (.bool (l.any cb)):=by
 obtain⟨B,hb,e⟩:=je (QE (f:=f) l hl) rfl;refine dT hb Tryz.func136 (ord:=O0) (N:=N0) (by kernel_rfl) ((IU _ _ _ _ _ _).trans ?_);rw[e];show some (D.bool (decide (xu l 0≥0)))=_;rw[Dp]
theorem Jq{f:Bool}(l:List Pt)(hl:l.length≤1000):OK2 77 [.slc f l.length (bJ l)] (.int .i64 (bz (l.any cb) 3 0)):=by
 obtain⟨B,hb,h136,h84,_⟩:=fP [one 136 [.slc f l.length (bJ l),.fn (.func 137) [] []] (.bool (l.any cb)),sT 84] ⟨bM (QF l hl) rfl,jc EC (fun _ _=>rfl),trivial⟩ rfl;refine dT hb Tryz.func77 (ord:=O0) (N:=N0) (by kernel_rfl) ((Mt _ _ _ _ _ _).trans ?_);have e1:bw B 136 [.slc f l.length (bJ l),.fn (.func 137) [] []]=_:=h136 ();have e2:bw B 84 [.bool (l.any cb),.int .i64 3]=_:=h84 (l.any cb,3);rw[e1];show bB (bw B 84 [.bool (l.any cb),.int .i64 3]) _=_;rw[e2];rfl
def vc:Nat→List (Pt×Pt)→List (List D)
 |_,[]=>[]
 |i,s::r=>[.int .i64 i,lW s]::vc (i+1) r
theorem y7:∀(l:List Pt) (z:Pt),(nz l z).length=l.length
 |[],_=>rfl
 |[_],_=>rfl
 |x::y::r,z=>by
  show(nz (y::r) z).length+1=_;rw[y7 (y::r) z];rfl
theorem ot(l:List Pt):(ff l).length=l.length:=by
 cases l with
 |nil=>rfl
 |cons x r=>exact y7 (x::r) x
theorem y8:∀(l:List Pt) (x z:Pt) (i:Nat),i≤l.length→(nz (x::l) z)[i]?=some ((x::l).getD i z,(x::l).getD (i+1) z)
 |[],x,z,i,h=>by
  have:i=0:=by simpa using h
  subst this;rfl
 |y::l,x,z,0,_=>rfl
 |y::l,x,z,i+1,h=>by
  show(nz (y::l) z)[i]?=_;rw[y8 l y z i (by simpa using h)];rfl
theorem xv(l:List Pt)(d:Pt)(i:Nat)(h:i<l.length):(ff l)[i]?=some (l.getD i d,l.getD ((i+1)%l.length) d):=by
 cases l with
 |nil=>simp at h
 |cons x r=>
  have hr:i≤r.length:=by simpa using Nat.lt_succ_iff.1 h
  show(nz (x::r) x)[i]?=_;rw[y8 r x x i hr];have h1:(x::r).getD i x=(x::r).getD i d:=by
   simp only[List.getD_eq_getElem?_getD];rw[zd5 h];rfl
  have h2:(x::r).getD (i+1) x=(x::r).getD ((i+1)%(x::r).length) d:=by
   by_cases hi:i+1<(x::r).length
   ·rw[Nat.mod_eq_of_lt hi];simp only[List.getD_eq_getElem?_getD];rw[zd5 hi];rfl
   ·have:i+1=(x::r).length:=by omega
    rw[this,Nat.mod_self];simp only[List.getD_eq_getElem?_getD];rw[zd6 (zb0 _)];rfl
  rw[h1,h2]
theorem j8{γ:Type}(l:List Pt)(d:Pt)(i j:Nat)(hi:i<l.length)(hj:j<2){k:D→Option γ}:bu (bJ l) (i*2+j) k=k (.int .i64 (if j=0 then(l.getD i d).1 else(l.getD i d).2)):=by
 have hsplit:l=l.take i++l.getD i d::l.drop (i+1):=by
  have h1:l.getD i d=l[i]:=by simp[List.getD_eq_getElem?_getD,zd5 hi]
  rw[h1];simp
 have hlen:(l.take i).length=i:=by simp;omega
 have h:=lT (l.take i) (l.getD i d) (l.drop (i+1)) MU 2 (fun _=>rfl) j hj k;rw[←hsplit,hlen,za3] at h;refine h.trans ?_
 match j,hj with
 |0,_=>rfl
 |1,_=>rfl
theorem sU(l:List Pt):∀(k i:Nat),i+k=l.length→kQ l.length (bJ l) k i=some (vc i ((ff l).drop i))
 |0,i,h=>by
  rw[List.drop_eq_nil_of_le (by rw[ot];omega)];rfl
 |k+1,i,h=>by
  have hi:i<l.length:=by omega
  have hm:(i+1)%l.length<l.length:=ze1 _ (by omega);have hd:(ff l).drop i=(l.getD i (0,0),l.getD ((i+1)%l.length) (0,0))::(ff l).drop (i+1):=by
   have h1:=xv l (0,0) i hi;obtain⟨h2,h3⟩:=zc1.1 h1;rw[List.drop_eq_getElem_cons h2,h3]
  unfold kQ;rw[j8 l (0,0) i 0 hi (by omega),bF,j8 l (0,0) i 1 hi (by omega),bF,j8 l (0,0) _ 0 hm (by omega),bF,j8 l (0,0) _ 1 hm (by omega),bF,sU l k (i+1) (by omega),hd];rfl
theorem Dq{f:Bool}(l:List Pt)(hl:l.length≤1000):IQ 176 [.snap [.slc f l.length (bJ l)] 0]=some (vc 0 (ff l)):=by
 show bH (decide (l.length<4611686018427387904)) (kQ l.length (bJ l) l.length 0)=_;rw[za1 (by omega),bC,sU l l.length 0 (by omega)];rfl
def gt(p:Pt):List (Pt×Pt)→Int→Int
 |[],x=>x
 |s::r,x=>bz (ge s.1 s.2 p) 0 (bz (!decide (s.1.2>p.2)==decide (s.2.2>p.2)) (bz (decide (da s.1 s.2 p>0)==decide (s.2.2>p.2)) (gt p r (jb (0-x))) (gt p r x)) (gt p r x))
theorem MV{call:CL}{sq:FuncId→List D→Option (List (List D))}(h138:∀s p,call 138 [lW s,bW p]=some (.bool (ge s.1 s.2 p)))(h108:∀a b c,call 108 [bW a,bW b,bW c]=some (.int .i64 (da a b c)))(p:Pt):
  ∀(l:List (Pt×Pt)) (i:Nat) (x:Int),iz call LL C1 sq (vc i l) p.1 p.2 x=some (.int .i64 (gt p l x))
 |[],i,x=>by
  show iz call LL C1 sq [] p.1 p.2 x=_;rw[BK];rfl
 |s::l,i,x=>by
  have e1:=h138 s p;have e2:=h108 s.1 s.2 p;show iz call LL C1 sq ([.int .i64 i,lW s]::vc (i+1) l) p.1 p.2 x=_;rw[yX];show bB (call 138 [lW s,bW p]) _=_;rw[e1];show bz (ge s.1 s.2 p) _ (bz _ (bB (call 108 [bW s.1,bW s.2,bW p]) _) _)=_;rw[e2];show bz (ge s.1 s.2 p) _ (bz _ (bz _ (iz call LL C1 sq (vc (i+1) l) p.1 p.2 (jb (0-x))) (iz call LL C1 sq (vc (i+1) l) p.1 p.2 x)) (iz call LL C1 sq (vc (i+1) l) p.1 p.2 x))=_;rw[MV h138 h108 p l (i+1) (jb (0-x)),MV h138 h108 p l (i+1) x];rw[show gt p (s::l) x=bz (ge s.1 s.2 p) 0 (bz (!decide (s.1.2>p.2)==decide (s.2.2>p.2)) (bz (decide (da s.1 s.2 p>0)==decide (s.2.2>p.2)) (gt p l (jb (0-x))) (gt p l x)) (gt p l x)) from rfl];cases ge s.1 s.2 p
  ·cases (!decide (s.1.2>p.2)==decide (s.2.2>p.2))
   ·rfl
   ·cases (decide (da s.1 s.2 p>0)==decide (s.2.2>p.2))<;>rfl
  ·rfl
theorem F6{f:Bool}(l:List Pt)(p:Pt)(hl:l.length≤1000):OK2 80 [.slc f l.length (bJ l),bW p] (.int .i64 (gt p (ff l) (-1))):=by
 obtain⟨B,hb,h138,h108,_⟩:=fP [Dn 138 fun s p=>D.bool (ge s.1 s.2 p),iB 108 fun a b c=> .int .i64 (da a b c)]
  ⟨sS LH (fun _ _=>rfl),dK Do (fun _ _ _=>rfl),trivial⟩ rfl
 refine Tt hb iA Tryz.func80 (ord:=O0) (N:=TQ) (by kernel_rfl) ((My _ _ _ _ _ _ _ p.1 p.2).trans ?_);rw[Dq l hl];exact MV (fun s p=>h138 (s,p)) (fun a b c=>h108 (a,b,c)) p (ff l) 0 (-1)
def gQ(a b c:Pt):Bool:=bz (da a b c==0) (decide (y6 (cW a b) (cW c b)>0)) false
def jS(n i:Nat)(s:Pt×Pt):Nat→List (Pt×Pt)→Bool
 |_,[]=>true
 |k,t::r=>bz (decide (k≤i)) (jS n i s (k+1) r) (bz (decide (k=i+1)) (bz (gQ s.1 s.2 t.2) false (jS n i s (k+1) r))
   (bz (decide (i=0∧k+1=n)) (!gQ t.1 t.2 s.2) (bz (iF s.1 s.2 t.1 t.2) false (jS n i s (k+1) r))))
def qH(n:Nat)(all:List (Pt×Pt)):Nat→List (Pt×Pt)→Bool
 |_,[]=>true
 |i,s::r=>bz (decide (s.1=s.2)) false (bz (jS n i s 0 all) (qH n all (i+1) r) false)
theorem BP(a b:Nat):decide ((a:Int)≤(b:Int))=decide (a≤b):=by rw[Bool.eq_iff_iff];simp
theorem lX(a b:Nat):((a:Int)==(b:Int))=decide (a=b):=by rw[Bool.eq_iff_iff];simp;omega
structure SimpC(call:CL):Prop where
 h108:∀a b c,call 108 [bW a,bW b,bW c]=some (.int .i64 (da a b c))
 h140:∀a b,call 140 [bW a,bW b]=some (bW (cW a b))
 h139:∀a b,call 139 [bW a,bW b]=some (.int .i64 (y6 a b))
 h174:∀s t,call 174 [lW s,lW t]=some (.bool (iF s.1 s.2 t.1 t.2))
theorem F7{call:CL}(hc:SimpC call){sq:FuncId→List D→Option (List (List D))}{ys:List (List D)}{f:Bool}{m:Nat}{c:List D}{n i:Nat}(hn:n≤1000)(hi:i<n)(s:Pt×Pt):
  ∀(l:List (Pt×Pt)) (k:Nat),cV call LL C1 sq ys (vc k l) f m c (n:Int) (i:Int) s.1.1 s.1.2 s.2.1 s.2.2=bz (jS n i s k l) (eT call LL C1 sq ys f m c (n:Int)) (some (D.bool false))
 |[],k=>by
  show cV call LL C1 sq ys [] f m c (n:Int) (i:Int) s.1.1 s.1.2 s.2.1 s.2.2=_;rw[vg];rfl
 |t::l,k=>by
  have ih:=F7 hc (sq:=sq) (ys:=ys) (f:=f) (m:=m) (c:=c) hn hi s l (k+1);have w1:jb ((i:Int)+1)=((i+1:Nat):Int):=(bS (by omega)).trans (by omega);have w2:jb ((n:Int)-1)=((n-1:Nat):Int):=(bS (by omega)).trans (by omega);have b0:((i:Int)==0)=decide (i=0):=lX i 0;show cV call LL C1 sq ys ([.int .i64 k,lW t]::vc (k+1) l) f m c (n:Int) (i:Int) s.1.1 s.1.2 s.2.1 s.2.2=_;rw[sK];show bz (decide ((k:Int)≤(i:Int))) (cV call LL C1 sq ys (vc (k+1) l) f m c (n:Int) (i:Int) s.1.1 s.1.2 s.2.1 s.2.2)
   (bz ((k:Int)==jb ((i:Int)+1)) (bB (call 108 [bW s.1,bW s.2,bW t.2]) _) (bz ((i:Int)==0) (bz ((k:Int)==jb ((n:Int)-1)) (bB (call 108 [bW t.1,bW t.2,bW s.2]) _) (bB (call 174 [lW s,lW t]) _)) (bB (call 174 [lW s,lW t]) _)))=_
  rw[hc.h108 s.1 s.2 t.2,hc.h108 t.1 t.2 s.2,hc.h174 s t,w1,w2,b0,lX,lX,BP];show bz (decide (k≤i)) _ (bz (decide (k=i+1)) (bz (da s.1 s.2 t.2==0) (bB (call 140 [bW s.1,bW s.2]) _) _)
   (bz (decide (i=0)) (bz (decide (k=n-1)) (bz (da t.1 t.2 s.2==0) (bB (call 140 [bW t.1,bW t.2]) _) _) _) _))=_
  rw[hc.h140 s.1 s.2,hc.h140 t.1 t.2,hc.h140 t.2 s.2,hc.h140 s.2 t.2];show bz (decide (k≤i)) _ (bz (decide (k=i+1)) (bz (da s.1 s.2 t.2==0) (bB (call 139 [bW (cW s.1 s.2),bW (cW t.2 s.2)]) _) _)
   (bz (decide (i=0)) (bz (decide (k=n-1)) (bz (da t.1 t.2 s.2==0) (bB (call 139 [bW (cW t.1 t.2),bW (cW s.2 t.2)]) _) _) _) _))=_
  rw[hc.h139 (cW s.1 s.2) (cW t.2 s.2),hc.h139 (cW t.1 t.2) (cW s.2 t.2)];show bz (decide (k≤i)) (cV call LL C1 sq ys (vc (k+1) l) f m c (n:Int) (i:Int) s.1.1 s.1.2 s.2.1 s.2.2)
   (bz (decide (k=i+1)) (bz (da s.1 s.2 t.2==0) (bz (decide (y6 (cW s.1 s.2) (cW t.2 s.2)>0)) (some (D.bool false)) (cV call LL C1 sq ys (vc (k+1) l) f m c (n:Int) (i:Int) s.1.1 s.1.2 s.2.1 s.2.2)) (cV call LL C1 sq ys (vc (k+1) l) f m c (n:Int) (i:Int) s.1.1 s.1.2 s.2.1 s.2.2))
    (bz (decide (i=0)) (bz (decide (k=n-1)) (bz (da t.1 t.2 s.2==0) (bz (decide (y6 (cW t.1 t.2) (cW s.2 t.2)>0)) (some (D.bool false)) (eT call LL C1 sq ys f m c (n:Int))) (eT call LL C1 sq ys f m c (n:Int)))
     (bz (iF s.1 s.2 t.1 t.2) (some (D.bool false)) (cV call LL C1 sq ys (vc (k+1) l) f m c (n:Int) (i:Int) s.1.1 s.1.2 s.2.1 s.2.2)))
     (bz (iF s.1 s.2 t.1 t.2) (some (D.bool false)) (cV call LL C1 sq ys (vc (k+1) l) f m c (n:Int) (i:Int) s.1.1 s.1.2 s.2.1 s.2.2))))=_
  rw[ih];rw[show jS n i s k (t::l)=bz (decide (k≤i)) (jS n i s (k+1) l) (bz (decide (k=i+1)) (bz (gQ s.1 s.2 t.2) false (jS n i s (k+1) l))
   (bz (decide (i=0∧k+1=n)) (!gQ t.1 t.2 s.2) (bz (iF s.1 s.2 t.1 t.2) false (jS n i s (k+1) l)))) from rfl]
  have e3:decide (i=0∧k+1=n)=(decide (i=0)&&decide (k=n-1)):=by
   rw[Bool.eq_iff_iff];simp;omega
  rw[e3];unfold gQ;cases decide (k≤i)
  ·cases decide (k=i+1)
   ·cases decide (i=0)
    ·cases iF s.1 s.2 t.1 t.2<;>rfl
    ·cases decide (k=n-1)
     ·cases iF s.1 s.2 t.1 t.2<;>rfl
     ·cases da t.1 t.2 s.2==0
      ·rfl
      ·cases decide (y6 (cW t.1 t.2) (cW s.2 t.2)>0)<;>rfl
   ·cases da s.1 s.2 t.2==0
    ·rfl
    ·cases decide (y6 (cW s.1 s.2) (cW t.2 s.2)>0)<;>rfl
  ·rfl
theorem F8(a b:Pt):(a.1==b.1&&(a.2==b.2&&true))=decide (a=b):=by
 rw[Bool.eq_iff_iff];simp only[Bool.and_true,zc4,ze8,zc7];exact⟨fun h=>Prod.ext h.1 h.2,fun h=>by rw[h];exact⟨rfl,rfl⟩⟩
theorem LJ{call:CL}(hc:SimpC call){sq:FuncId→List D→Option (List (List D))}{f:Bool}{m:Nat}{c:List D}{n:Nat}(hn:n≤1000){all:List (Pt×Pt)}(hs:sq 176 [.snap [.slc f m c] 0]=some (vc 0 all)):
  ∀(l:List (Pt×Pt)) (i:Nat),i+l.length≤n→eT call LL C1 sq (vc i l) f m c (n:Int)=some (.bool (qH n all i l))
 |[],i,_=>by
  show eT call LL C1 sq [] f m c (n:Int)=_;rw[xe];rfl
 |s::l,i,hi=>by
  have hi':i+1+l.length≤n:=by simp at hi;omega
  have ih:=LJ hc hn hs l (i+1) hi';show eT call LL C1 sq ([.int .i64 i,lW s]::vc (i+1) l) f m c (n:Int)=_;rw[vh];show bz (s.1.1==s.2.1&&(s.1.2==s.2.2&&true)) (some (D.bool false)) (bB (sq 176 [.snap [.slc f m c] 0]) fun ys2=>cV call LL C1 sq (vc (i+1) l) ys2 f m c (n:Int) (i:Int) s.1.1 s.1.2 s.2.1 s.2.2)=_;rw[hs,bA,F7 hc hn (by omega) s all 0,ih,F8];rw[show qH n all i (s::l)=bz (decide (s.1=s.2)) false (bz (jS n i s 0 all) (qH n all (i+1) l) false) from rfl];cases decide (s.1=s.2)
  ·cases jS n i s 0 all<;>rfl
  ·rfl
def qI(l:List Pt):Bool:=qH l.length (ff l) 0 (ff l)
theorem QG{f:Bool}(l:List Pt)(hl:l.length≤1000):OK2 107 [.slc f l.length (bJ l)] (.bool (qI l)):=by
 obtain⟨B,hb,h108,h140,h139,h174,_⟩:=fP [iB 108 fun a b c=> .int .i64 (da a b c),lH 140 fun a b=>bW (cW a b),lH 139 fun a b=> .int .i64 (y6 a b),F5 174 fun s t=>D.bool (iF s.1 s.2 t.1 t.2)]
  ⟨dK Do (fun _ _ _=>rfl),ek Dm (fun _ _=>rfl),ek F4 (fun _ _=>rfl),BO Qy (fun _ _=>rfl),trivial⟩ rfl
 refine Tt hb iA Tryz.func107 (ord:=O0) (N:=Jb) (by kernel_rfl) ((Jc _ _ _ _ _ _ _).trans ?_);rw[Dq l hl,bA];exact LJ ⟨fun a b c=>h108 (a,b,c),fun a b=>h140 (a,b),fun a b=>h139 (a,b),fun s t=>h174 (s,t)⟩ hl (Dq l hl) (ff l) 0 (by rw[ot];omega)
def xw(l:List Pt):Int:=cI [bz (decide ((l.length:Int)<3)) 2 0,bz (decide ((l.length:Int)>64)) 5 0,bz (l.any cb) 3 0]
def dG(l:List Pt):Int:=bz (xw l !=0) (xw l) (bz (!qI l) 16 0)
theorem Jr{f:Bool}(l:List Pt)(hl:l.length≤1000):OK2 50 [.slc f l.length (bJ l)] (.int .i64 (dG l)):=by
 obtain⟨B,hb,h84,h77,h76,h107,_⟩:=fP [sT 84,one 77 [.slc f l.length (bJ l)] (.int .i64 (bz (l.any cb) 3 0)),vL 76,one 107 [.slc f l.length (bJ l)] (.bool (qI l))]
  ⟨jc EC (fun _ _=>rfl),bM (Jq l hl) rfl,jd (fun l hl=>ED l hl) (fun _ _=>rfl),bM (QG l hl) rfl,trivial⟩ rfl
 refine dT hb Tryz.func50 (ord:=O0) (N:=N0) (by kernel_rfl) ((Mx _ _ _ _ _ _).trans ?_);have e1:bw B 84 [.bool (decide ((l.length:Int)<3)),.int .i64 2]=_:=h84 (_,2);have e2:bw B 84 [.bool (decide ((l.length:Int)>64)),.int .i64 5]=_:=h84 (_,5);have e3:bw B 77 [.slc f l.length (bJ l)]=_:=h77 ();have e4:bw B 76 [.slc true 3 [.int .i64 (bz (decide ((l.length:Int)<3)) 2 0),.int .i64 (bz (decide ((l.length:Int)>64)) 5 0),.int .i64 (bz (l.any cb) 3 0)]]=some (.int .i64 (xw l)):=
  h76 ⟨[bz (decide ((l.length:Int)<3)) 2 0,bz (decide ((l.length:Int)>64)) 5 0,bz (l.any cb) 3 0],by simp⟩
 have e5:bw B 107 [.slc f l.length (bJ l)]=_:=h107 ();have e6:bw B 84 [.bool (!qI l),.int .i64 16]=_:=h84 (_,16);rw[e1];show bB (bw B 84 [.bool (decide ((l.length:Int)>64)),.int .i64 5]) _=_;rw[e2];show bB (bw B 77 [.slc f l.length (bJ l)]) _=_;rw[e3];show bB (bw B 76 [.slc true 3 [.int .i64 (bz (decide ((l.length:Int)<3)) 2 0),.int .i64 (bz (decide ((l.length:Int)>64)) 5 0),.int .i64 (bz (l.any cb) 3 0)]]) _=_;rw[e4];show bz (xw l !=0) (some (D.int .i64 (xw l))) (bB (bw B 107 [.slc f l.length (bJ l)]) _)=_;rw[e5];show bz (xw l !=0) (some (D.int .i64 (xw l))) (bB (bw B 84 [.bool (!qI l),.int .i64 16]) _)=_;rw[e6];unfold dG;cases xw l !=0<;>rfl
def vM(e x:Int):D:= .tup [.int .i64 (bz (e !=0) 0 x),.int .i64 e]
theorem y9(e x:Int):bz (e !=0) (some (D.tup [D.int .i64 0,D.int .i64 e])) (some (D.tup [D.int .i64 x,D.int .i64 0]))=some (vM e x):=by
 unfold vM;cases h:e !=0
 ·have:e=0:=by simpa using h
  subst this;rfl
 ·rfl
theorem BQ{f:Bool}(p:Pt):OK2 77 [.slc f 1 [.int .i64 p.1,.int .i64 p.2]] (.int .i64 (bz (cb p) 3 0)):=by
 have:=Jq (f:=f) [p] (by simp);rw[show[p].any cb=cb p by simp] at this;exact this
def fam77a:Fam:=⟨77,Pt,fun p=>[.slc true 1 [.int .i64 p.1,.int .i64 p.2]],fun p=> .int .i64 (bz (cb p) 3 0)⟩
theorem Up{f:Bool}(l:List Pt)(p:Pt)(hl:l.length≤1000):OK2 45 [.slc f l.length (bJ l),bW p] (vM (cI [dG l,bz (cb p) 3 0]) (gt p (ff l) (-1))):=by
 obtain⟨B,hb,h50,h77,h76,h80,_⟩:=fP [one 50 [.slc f l.length (bJ l)] (.int .i64 (dG l)),one 77 [.slc true 1 [.int .i64 p.1,.int .i64 p.2]] (.int .i64 (bz (cb p) 3 0)),vL 76,one 80 [.slc f l.length (bJ l),bW p] (.int .i64 (gt p (ff l) (-1)))]
  ⟨bM (Jr l hl) rfl,bM (BQ p) rfl,jd (fun l hl=>ED l hl) (fun _ _=>rfl),bM (F6 l p hl) rfl,trivial⟩ rfl
 refine dT hb Tryz.func45 (ord:=O0) (N:=N0) (by kernel_rfl) ((Mz _ _ _ _ _ _ p.1 p.2).trans ?_);have e1:bw B 50 [.slc f l.length (bJ l)]=_:=h50 ();have e2:bw B 77 [.slc true 1 [.int .i64 p.1,.int .i64 p.2]]=_:=h77 ();have e3:bw B 76 [.slc true 2 [.int .i64 (dG l),.int .i64 (bz (cb p) 3 0)]]=_:=h76 ⟨[dG l,bz (cb p) 3 0],by simp⟩;have e4:bw B 80 [.slc f l.length (bJ l),bW p]=_:=h80 ();rw[e1];show bB (bw B 77 [.slc true 1 [.int .i64 p.1,.int .i64 p.2]]) _=_;rw[e2];show bB (bw B 76 [.slc true 2 [.int .i64 (dG l),.int .i64 (bz (cb p) 3 0)]]) _=_;rw[e3];show bz (cI [dG l,bz (cb p) 3 0] !=0) _ (bB (bw B 80 [.slc f l.length (bJ l),bW p]) _)=_;rw[e4];exact y9 _ _
def Dr:List (Pt×Pt)→Int→Int
 |[],x=>x
 |s::r,x=>Dr r (jb (x+ru s.1 s.2))
def MW(x:Int):Int:=if jb (0-x)>x then jb (0-x) else x
theorem QH{call:CL}{sq:FuncId→List D→Option (List (List D))}(h110:∀a b,call 110 [bW a,bW b]=some (.int .i64 (ru a b))):∀(l:List (Pt×Pt)) (i:Nat) (x:Int),kR call LL C1 sq (vc i l) x=some (.tup [.int .i64 (MW (Dr l x)),.int .i64 0])
 |[],i,x=>by
  show kR call LL C1 sq [] x=_;rw[yY];rfl
 |s::l,i,x=>by
  have e:=h110 s.1 s.2;show kR call LL C1 sq ([.int .i64 i,lW s]::vc (i+1) l) x=_;rw[xf];show bB (call 110 [bW s.1,bW s.2]) _=_;rw[e];exact QH h110 l (i+1) _
theorem Uq{f:Bool}(l:List Pt)(hl:l.length≤1000):OK2 52 [.slc f l.length (bJ l)] (vM (dG l) (MW (Dr (ff l) 0))):=by
 obtain⟨B,hb,h50,h110,_⟩:=fP [one 50 [.slc f l.length (bJ l)] (.int .i64 (dG l)),lH 110 fun a b=> .int .i64 (ru a b)]
  ⟨bM (Jr l hl) rfl,ek LG (fun _ _=>rfl),trivial⟩ rfl
 refine Tt hb iA Tryz.func52 (ord:=O0) (N:=TR) (by kernel_rfl) ((MA _ _ _ _ _ _ _).trans ?_);have e1:bw B 50 [.slc f l.length (bJ l)]=_:=h50 ();rw[e1];show bz (dG l !=0) _ (bB (IQ 176 [.snap [.slc f l.length (bJ l)] 0]) _)=_;rw[Dq l hl,bA,QH (fun a b=>h110 (a,b)) (ff l) 0 0];exact y9 _ _
def pt(l:List Pt)(i:Nat):Pt:=l.getD i (0,0)
section
variable {γ:Type}{l:List Pt}{j:Nat}{k:D→Option γ}
theorem ou(hj:j<l.length):bu (bJ l) (Int.toNat ((j:Nat):Int)*2+0) k=k (.int .i64 (pt l j).1):=by
 rw[za3,j8 l (0,0) j 0 hj (by omega)];rfl
theorem ov(hj:j<l.length):bu (bJ l) (Int.toNat ((j:Nat):Int)*2+1) k=k (.int .i64 (pt l j).2):=by
 rw[za3,j8 l (0,0) j 1 hj (by omega)];rfl
end
theorem c5{j n:Nat}(h:j<n):decide ((0:Int)≤((j:Nat):Int)∧((j:Nat):Int)<(n:Int))=true:=za1 ⟨zc9 _,Int.ofNat_lt.2 h⟩
theorem cE(i k:Nat)(h:i+k≤4611686018427387904):IntKind.wrap .i64 ((i:Int)+(k:Int))=((i+k:Nat):Int):=(bS (by omega)).trans (by omega)
theorem sV(j n:Nat):Int.tmod ((j:Nat):Int) ((n:Nat):Int)=((j%n:Nat):Int):=rfl
theorem BR{n:Nat}(h:0<n):(!decide (((n:Nat):Int)=0))=true:=by simp;omega
theorem dP{i n:Nat}(h:i<n):decide (((i:Nat):Int)<((n:Nat):Int))=true:=za1 (Int.ofNat_lt.2 h)
theorem dH(n:Nat):decide (((n:Nat):Int)<((n:Nat):Int))=false:=za2 (Int.lt_irrefl _)
theorem za(a b:Nat):((a:Int) !=(b:Int))=decide (a≠b):=by rw[Bool.eq_iff_iff];simp;omega
theorem sW(l:List Pt)(i:Nat)(hi:i<l.length):(ff l).drop i=(pt l i,pt l ((i+1)%l.length))::(ff l).drop (i+1):=by
 have h1:=xv l (0,0) i hi;obtain⟨h2,h3⟩:=zc1.1 h1;rw[List.drop_eq_getElem_cons h2,h3];rfl
theorem xx(l:List Pt):(ff l).drop l.length=[]:=List.drop_eq_nil_of_le (by rw[ot];omega)
def PE(p:Pt)(s:Pt×Pt):Bool:=bz (decide (s.1.2>p.2)) (bz (decide (s.2.2≤p.2)) (bz (decide (da s.1 s.2 p>0)) true (bz (decide (s.2.2>p.2)) (bz (decide (s.1.2≤p.2)) (decide (da s.2 s.1 p>0)) false) false)) (bz (decide (s.2.2>p.2)) (bz (decide (s.1.2≤p.2)) (decide (da s.2 s.1 p>0)) false) false))
 (bz (decide (s.2.2>p.2)) (bz (decide (s.1.2≤p.2)) (decide (da s.2 s.1 p>0)) false) false)
def m5(p:Pt):List (Pt×Pt)→Bool→Int
 |[],odd=>bz odd 1 (-1)
 |s::r,odd=>bz (oo s.1 s.2 p) 0 (m5 p r (bz (PE p s) (!odd) odd))
theorem MX{call:CL}(h112:∀a b c,call 112 [bW a,bW b,bW c]=some (.bool (oo a b c)))(h53:∀a b c,call 53 [bW a,bW b,bW c]=some (.int .i64 (da a b c))){f:Bool}(l:List Pt)(p:Pt)(hl:l.length≤1000):
  ∀(k i fuel:Nat) (odd:Bool),i+k=l.length→k<fuel→xj call LL C1 fuel f l.length (bJ l) p.1 p.2 odd (i:Int)=some (.int .i64 (m5 p ((ff l).drop i) odd))
 |0,i,fuel+1,odd,h,_=>by
  have:i=l.length:=by omega
  subst this;rw[vI,dH,bv,xx];cases odd<;>rfl
 |k+1,i,fuel+1,odd,h,hf=>by
  have hi:i<l.length:=by omega
  have hm:(i+1)%l.length<l.length:=ze1 _ (by omega);have hw:IntKind.wrap .i64 ((i:Int)+1)=((i+1:Nat):Int):=cE i 1 (by omega);obtain⟨a,ha⟩:∃a,a=pt l i:=⟨_,rfl⟩;obtain⟨b,hb⟩:∃b,b=pt l ((i+1)%l.length):=⟨_,rfl⟩;have e7:∀t:Bool,eC call LL C1 fuel f l.length (bJ l) odd (i:Int) p.1 p.2 t=some (.int .i64 (m5 p ((ff l).drop (i+1)) (bz t (!odd) odd))):=fun t=>by
   rw[yZ _ _ _ _ _ _ _ _ _ _ _ _ c1,sO _ _ _ _ _ _ _ _ _ _ _ c1,sO _ _ _ _ _ _ _ _ _ _ _ c1,hw];cases t
   ·exact MX h112 h53 l p hl k (i+1) fuel odd (by omega) (by omega)
   ·exact MX h112 h53 l p hl k (i+1) fuel (!odd) (by omega) (by omega)
  rw[vI,dP hi,bx,c5 hi,bC,ou hi,bF,ov hi,bF,BR (by omega),bC,hw,sV,c5 hm,bC,ou hm,bF,ov hm,bF,sW l i hi,←ha,←hb];show bB (call 112 [bW a,bW b,bW p]) _=_;rw[h112,bA,cj];rw[show m5 p ((a,b)::(ff l).drop (i+1)) odd=bz (oo a b p) 0 (m5 p ((ff l).drop (i+1)) (bz (PE p (a,b)) (!odd) odd)) from rfl];cases oo a b p
  ·rw[bv,bv];show bz (decide (a.2>p.2)) (bz (decide (b.2≤p.2)) (bB (call 53 [bW a,bW b,bW p]) _) (bz (decide (b.2>p.2)) (bz (decide (a.2≤p.2)) (bB (call 53 [bW b,bW a,bW p]) _) _) _)) (bz (decide (b.2>p.2)) (bz (decide (a.2≤p.2)) (bB (call 53 [bW b,bW a,bW p]) _) _) _)=_;rw[h53 a b p,h53 b a p];simp only[bA,bF,e7];unfold PE;cases decide (a.2>p.2)<;>cases decide (b.2≤p.2)<;>cases decide (b.2>p.2)<;>cases decide (a.2≤p.2)<;>cases decide (da a b p>0)<;>rfl
  ·rfl
theorem Ur{f:Bool}(l:List Pt)(p:Pt)(hl:l.length≤1000):OK2 54 [.slc f l.length (bJ l),bW p] (.int .i64 (m5 p (ff l) false)):=by
 obtain⟨B,hb,h112,h53,_⟩:=fP [iB 112 fun a b c=>D.bool (oo a b c),iB 53 fun a b c=> .int .i64 (da a b c)] ⟨dK LI (fun _ _ _=>rfl),dK Jo (fun _ _ _=>rfl),trivial⟩ rfl;exact dT hb Tryz.func54 (ord:=PV) (N:=PU) (by kernel_rfl) ((MG _ _ _ _ _ _ p.1 p.2).trans (MX (fun a b c=>h112 (a,b,c)) (fun a b c=>h53 (a,b,c)) (f:=f) l p hl l.length 0 LL false (by omega) (by unfold LL;omega)))
def eU(n i:Nat)(s:Pt×Pt):Nat→List (Pt×Pt)→Bool
 |_,[]=>true
 |k,t::r=>bz (decide (k≠i)) (bz (decide ((k+1)%n≠i)) (bz (decide ((i+1)%n≠k)) (bz (gP s.1 s.2 t.1 t.2) false (eU n i s (k+1) r)) (eU n i s (k+1) r)) (eU n i s (k+1) r)) (eU n i s (k+1) r)
def gX(l:List Pt):Nat→List (Pt×Pt)→Bool
 |_,[]=>true
 |i,s::r=>bz (decide (s.1=s.2)) false (bz (gQ s.1 s.2 (pt l ((i+2)%l.length))) false (bz (eU l.length i s 0 (ff l)) (gX l (i+1) r) false))
theorem LK{call:CL}(h106:∀a b c d,call 106 [bW a,bW b,bW c,bW d]=some (.bool (gP a b c d))){f:Bool}(l:List Pt)(hl:l.length≤1000){i:Nat}(hi:i<l.length)(fu:Nat):
  ∀(m k fuel:Nat),k+m=l.length→m<fuel→gc call LL C1 fu fuel f l.length (bJ l) (l.length:Int) (i:Int) (k:Int)=
   bz (eU l.length i (pt l i,pt l ((i+1)%l.length)) k ((ff l).drop k)) (mG call LL C1 fu f l.length (bJ l) (l.length:Int) ((i+1:Nat):Int)) (some (.int .i64 16))
 |0,k,fuel+1,h,_=>by
  have:k=l.length:=by omega
  subst this;rw[m9,dH,bv,xx,show IntKind.wrap .i64 ((i:Int)+1)=((i+1:Nat):Int) from cE i 1 (by omega)];rfl
 |m+1,k,fuel+1,h,hf=>by
  have hk:k<l.length:=by omega
  have hmi:(i+1)%l.length<l.length:=ze1 _ (by omega);have hmk:(k+1)%l.length<l.length:=ze1 _ (by omega);have hwi:IntKind.wrap .i64 ((i:Int)+1)=((i+1:Nat):Int):=cE i 1 (by omega);have hwk:IntKind.wrap .i64 ((k:Int)+1)=((k+1:Nat):Int):=cE k 1 (by omega);have ih:=LK h106 (f:=f) l hl hi fu m (k+1) fuel (by omega) (by omega);rw[m9,dP hk,bx,BR (by omega)];simp only[bC,hwi,hwk,sV,c5 hi,c5 hk,c5 hmi,c5 hmk,ou hi,ov hi,ou hk,ov hk,ou hmi,ov hmi,ou hmk,ov hmk,bF,za];rw[sW l k hk];show bz (decide (k≠i)) (bz (decide ((k+1)%l.length≠i)) (bz (decide ((i+1)%l.length≠k)) (bB (call 106 [bW (pt l i),bW (pt l ((i+1)%l.length)),bW (pt l k),bW (pt l ((k+1)%l.length))]) _) _) _) _=_;rw[h106];simp only[bA,cj,ih];rw[show eU l.length i (pt l i,pt l ((i+1)%l.length)) k ((pt l k,pt l ((k+1)%l.length))::(ff l).drop (k+1))=bz (decide (k≠i)) (bz (decide ((k+1)%l.length≠i)) (bz (decide ((i+1)%l.length≠k)) (bz (gP (pt l i) (pt l ((i+1)%l.length)) (pt l k) (pt l ((k+1)%l.length))) false (eU l.length i (pt l i,pt l ((i+1)%l.length)) (k+1) ((ff l).drop (k+1)))) (eU l.length i (pt l i,pt l ((i+1)%l.length)) (k+1) ((ff l).drop (k+1)))) (eU l.length i (pt l i,pt l ((i+1)%l.length)) (k+1) ((ff l).drop (k+1)))) (eU l.length i (pt l i,pt l ((i+1)%l.length)) (k+1) ((ff l).drop (k+1))) from rfl];cases decide (k≠i)
  ·rfl
  ·cases decide ((k+1)%l.length≠i)
   ·rfl
   ·cases decide ((i+1)%l.length≠k)
    ·rfl
    ·cases gP (pt l i) (pt l ((i+1)%l.length)) (pt l k) (pt l ((k+1)%l.length))<;>rfl
theorem QI{call:CL}(h106:∀a b c d,call 106 [bW a,bW b,bW c,bW d]=some (.bool (gP a b c d)))(h53:∀a b c,call 53 [bW a,bW b,bW c]=some (.int .i64 (da a b c))){f:Bool}(l:List Pt)(hl:l.length≤1000):
  ∀(m i fuel:Nat),i+m=l.length→m<fuel→mG call LL C1 fuel f l.length (bJ l) (l.length:Int) (i:Int)=some (.int .i64 (bz (gX l i ((ff l).drop i)) 0 16))
 |0,i,fuel+1,h,_=>by
  have:i=l.length:=by omega
  subst this;rw[sM,dH,bv,xx];rfl
 |m+1,i,fuel+1,h,hf=>by
  have hi:i<l.length:=by omega
  have hm1:(i+1)%l.length<l.length:=ze1 _ (by omega);have hm2:(i+2)%l.length<l.length:=ze1 _ (by omega);have hw1:IntKind.wrap .i64 ((i:Int)+1)=((i+1:Nat):Int):=cE i 1 (by omega);have hw2:IntKind.wrap .i64 ((i:Int)+2)=((i+2:Nat):Int):=cE i 2 (by omega);have ih:=QI h106 h53 (f:=f) l hl m (i+1) fuel (by omega) (by omega);have hin:j7 call LL C1 fuel f l.length (bJ l) (l.length:Int) (i:Int)=bz (eU l.length i (pt l i,pt l ((i+1)%l.length)) 0 (ff l)) (some (.int .i64 (bz (gX l (i+1) ((ff l).drop (i+1))) 0 16))) (some (.int .i64 16)):=by
   rw[xi _ _ _ _ _ _ _ _ _ c1];refine(LK h106 l hl hi fuel l.length 0 LL (by omega) (by unfold LL;omega)).trans ?_;rw[ih,List.drop_zero]
  rw[sM,dP hi,bx,BR (by omega)];simp only[bC,hw1,hw2,sV,c5 hi,c5 hm1,c5 hm2,ou hi,ov hi,ou hm1,ov hm1,ou hm2,ov hm2,bF];rw[sW l i hi,hin];show bz ((pt l i).1==(pt l ((i+1)%l.length)).1&&((pt l i).2==(pt l ((i+1)%l.length)).2&&true)) _ (bB (call 53 [bW (pt l i),bW (pt l ((i+1)%l.length)),bW (pt l ((i+2)%l.length))]) _)=_;rw[h53,F8];rw[show gX l i ((pt l i,pt l ((i+1)%l.length))::(ff l).drop (i+1))=bz (decide (pt l i=pt l ((i+1)%l.length))) false (bz (gQ (pt l i) (pt l ((i+1)%l.length)) (pt l ((i+2)%l.length))) false (bz (eU l.length i (pt l i,pt l ((i+1)%l.length)) 0 (ff l)) (gX l (i+1) ((ff l).drop (i+1))) false)) from rfl];show bz _ (some (.int .i64 16)) (bz (da (pt l i) (pt l ((i+1)%l.length)) (pt l ((i+2)%l.length))==0) (bz (decide (y6 (cW (pt l i) (pt l ((i+1)%l.length))) (cW (pt l ((i+2)%l.length)) (pt l ((i+1)%l.length)))>0)) (some (D.int .i64 16)) _) _)=_;unfold gQ;cases decide (pt l i=pt l ((i+1)%l.length))
  ·cases da (pt l i) (pt l ((i+1)%l.length)) (pt l ((i+2)%l.length))==0
   ·cases eU l.length i (pt l i,pt l ((i+1)%l.length)) 0 (ff l)<;>rfl
   ·cases decide (y6 (cW (pt l i) (pt l ((i+1)%l.length))) (cW (pt l ((i+2)%l.length)) (pt l ((i+1)%l.length)))>0)
    ·cases eU l.length i (pt l i,pt l ((i+1)%l.length)) 0 (ff l)<;>rfl
    ·rfl
  ·rfl
def dI(l:List Pt):Int:=bz (decide ((l.length:Int)<3)) 2 (bz (decide ((l.length:Int)>64)) 5 (bz (l.any cb) 3 (bz (gX l 0 (ff l)) 0 16)))
theorem QJ{call:CL}(h24:∀p,call 24 [bW p]=some (.int .i64 (bz (cb p) 3 0))){f:Bool}{n:Nat}:∀(r pre:List Pt) (fuel:Nat),(pre++r).length=n→n≤1000→r.length<fuel→
  rH call LL C1 fuel f n (bJ (pre++r)) (pre.length:Int)=bz (r.any cb) (some (.int .i64 3)) (mG call LL C1 LL f n (bJ (pre++r)) (n:Int) 0):=by
 intro r
 induction r with
 |nil=>
  intro pre fuel hn hB hf;cases fuel with
  |zero=>exact absurd hf (Nat.not_lt_zero _)
  |succ fuel=>
   subst hn;rw[sN,mF,bv];rfl
 |cons x r ih=>
  intro pre fuel hn hB hf;cases fuel with
  |zero=>exact absurd hf (Nat.not_lt_zero _)
  |succ fuel=>
   have ih:=ih (pre++[x]) fuel (by rw[gb];exact hn) hB (by simp at hf;omega);rw[gb] at ih;subst hn;have e:call 24 [D.agg [.int .i64 x.1,.int .i64 x.2]]=_:=h24 x;rw[sN,pX,bx,pY,bC,q0,bF,q1,bF,e,bA,bF,j6 pre x r (by omega),ih,List.any_cons];cases cb x<;>rfl
theorem Us{f:Bool}(l:List Pt)(hl:l.length≤1000):OK2 49 [.slc f l.length (bJ l)] (.int .i64 (dI l)):=by
 obtain⟨B,hb,h24,h53,h106,_⟩:=fP [Jp 24 fun p=> .int .i64 (bz (cb p) 3 0),iB 53 fun a b c=> .int .i64 (da a b c),⟨106,Pt×Pt×Pt×Pt,fun x=>[bW x.1,bW x.2.1,bW x.2.2.1,bW x.2.2.2],fun x=> .bool (gP x.1 x.2.1 x.2.2.1 x.2.2.2)⟩]
  ⟨p8 QB (fun _=>rfl),dK Jo (fun _ _ _=>rfl),⟨fun x=>Qz x.1 x.2.1 x.2.2.1 x.2.2.2,fun x y e=>by
   have e:[bW x.1,bW x.2.1,bW x.2.2.1,bW x.2.2.2]=[bW y.1,bW y.2.1,bW y.2.2.1,bW y.2.2.2]:=e;simp only[zc5,and_true] at e;show D.bool (gP x.1 x.2.1 x.2.2.1 x.2.2.2)= .bool (gP y.1 y.2.1 y.2.2.1 y.2.2.2);rw[fY e.1,fY e.2.1,fY e.2.2.1,fY e.2.2.2],fun _=>rfl⟩,trivial⟩ rfl
 refine dT hb Tryz.func49 (ord:=PD) (N:=PC) (by kernel_rfl) ((MF _ _ _ _ _ _).trans ?_);have e1:=QJ (call:=bw B) (fun p=>h24 p) (f:=f) l [] LL rfl hl (by unfold LL;omega);have e2:=QI (call:=bw B) (fun a b c d=>h106 (a,b,c,d)) (fun a b c=>h53 (a,b,c)) (f:=f) l hl l.length 0 LL (by omega) (by unfold LL;omega);rw[show(([]:List Pt).length:Int)=0 from rfl,zb7] at e1;rw[e1];rw[show((0:Nat):Int)=0 from rfl,List.drop_zero] at e2;rw[e2];unfold dI;cases decide ((l.length:Int)<3)
 ·cases decide ((l.length:Int)>64)
  ·cases l.any cb<;>rfl
  ·rfl
 ·rfl
def iU(p:Pt):Prop:= -1000000≤p.1∧p.1≤1000000∧-1000000≤p.2∧p.2≤1000000
theorem sX{n:Int}(h:nB n=false): -1000000≤n∧n≤1000000:=by
 unfold nB at h;rw[ID] at h;split at h
 ·cases h
 ·simp at h;rename_i h2;simp at h2;omega
theorem BS{p:Pt}(h:cb p=false):iU p:=by
 unfold cb at h;rw[ID] at h;split at h
 ·cases h
 ·rename_i h2;have h1:=sX (by simpa using h2);have h3:=sX h;exact⟨h1.1,h1.2,h3.1,h3.2⟩
theorem sY{a b:Int}{A B:Nat}(ha:a.natAbs≤A)(hb:b.natAbs≤B):(a*b).natAbs≤A*B:=by
 rw[Int.natAbs_mul];exact zc8 ha hb
theorem xy{a b:Pt}(ha:iU a)(hb:iU b):cW a b=ve a b:=by
 obtain⟨a1,a2,a3,a4⟩:=ha;obtain⟨b1,b2,b3,b4⟩:=hb;unfold cW ve jb;rw[bS (by omega),bS (by omega)]
def PF(p:Pt):Prop:=p.1.natAbs≤2000000∧p.2.natAbs≤2000000
theorem xz{a b:Pt}(ha:iU a)(hb:iU b):PF (ve a b):=by
 obtain⟨a1,a2,a3,a4⟩:=ha;obtain⟨b1,b2,b3,b4⟩:=hb;unfold PF ve;constructor<;>dsimp only<;>omega
theorem MY{a b:Pt}(ha:PF a)(hb:PF b):ru a b=LB a b:=by
 have h1:=sY ha.1 hb.2;have h2:=sY ha.2 hb.1;unfold ru LB jb;rw[bS (show _≤a.1*b.2∧_ by omega),bS (show _≤a.2*b.1∧_ by omega),bS (by omega)]
theorem QK{a b:Pt}(ha:PF a)(hb:PF b):y6 a b=dt a b:=by
 have h1:=sY ha.1 hb.1;have h2:=sY ha.2 hb.2;unfold y6 dt jb;rw[bS (show _≤a.1*b.1∧_ by omega),bS (show _≤a.2*b.2∧_ by omega),bS (by omega)]
theorem kV{a b c:Pt}(ha:iU a)(hb:iU b)(hc:iU c):da a b c=lF a b c:=by
 unfold da lF;rw[xy hb ha,xy hc ha,MY (xz hb ha) (xz hc ha)]
theorem QL(n:Int): -1≤sg n∧sg n≤1:=by unfold sg;split<;>(try split)<;>omega
theorem Ds(x:Int):(x==0)=decide (x=0):=by rw[Bool.eq_iff_iff];simp
theorem sZ{a b p:Pt}(ha:iU a)(hb:iU b)(hp:iU p):ge a b p=fp a b p:=by
 unfold ge fp;rw[kV ha hb hp,xy ha hp,xy hb hp,QK (xz ha hp) (xz hb hp),Ds];cases decide (lF a b p=0)<;>rfl
theorem zb{a b p:Pt}(ha:iU a)(hb:iU b)(hp:iU p):oo a b p=fp a b p:=by
 rw[Mo];unfold oo TO;rw[kV ha hb hp,Ds];have m1:(if b.1<a.1 then b.1 else a.1)=min a.1 b.1:=by split<;>omega
 have m2:(if b.1>a.1 then b.1 else a.1)=max a.1 b.1:=by split<;>omega
 have m3:(if b.2<a.2 then b.2 else a.2)=min a.2 b.2:=by split<;>omega
 have m4:(if b.2>a.2 then b.2 else a.2)=max a.2 b.2:=by split<;>omega
 rw[m1,m2,m3,m4];cases decide (lF a b p=0)<;>cases decide (min a.1 b.1≤p.1)<;>cases decide (p.1≤max a.1 b.1)<;>cases decide (min a.2 b.2≤p.2)<;>rfl
theorem zc{a b c d:Pt}(ha:iU a)(hb:iU b)(hc:iU c)(hd:iU d):qF a b c d=(decide (lF a b c*lF a b d<0)&&decide (lF c d a*lF c d b<0)):=by
 unfold qF jb;rw[kV ha hb hc,kV ha hb hd,kV hc hd ha,kV hc hd hb];have bd:∀x y:Int,(-1≤x∧x≤1)→(-1≤y∧y≤1)→IntKind.wrap .i64 (x*y)=x*y:=fun x y hx hy=>by
  have:= @sY x y 1 1 (by omega) (by omega);exact bS (by omega)
 have tb:∀a b c:Pt,-1≤lF a b c∧lF a b c≤1:=fun a b c=>QL _;rw[bd _ _ (tb a b c) (tb a b d),bd _ _ (tb c d a) (tb c d b)];cases decide (lF a b c*lF a b d<0)<;>rfl
theorem zd{a b c d:Pt}(ha:iU a)(hb:iU b)(hc:iU c)(hd:iU d):iF a b c d=oh a b c d:=by
 unfold iF oh;rw[sZ ha hb hc,sZ ha hb hd,sZ hc hd ha,sZ hc hd hb,zc ha hb hc hd];cases fp a b c<;>cases fp a b d<;>cases fp c d a<;>cases fp c d b<;>rfl
theorem ze{a b c d:Pt}(ha:iU a)(hb:iU b)(hc:iU c)(hd:iU d):gP a b c d=oh a b c d:=by
 unfold gP oh;rw[zb ha hb hc,zb ha hb hd,zb hc hd ha,zb hc hd hb,zc ha hb hc hd];cases fp a b c<;>cases fp a b d<;>cases fp c d a<;>cases fp c d b<;>rfl
theorem zf:∀(l:List Pt) (z:Pt) (s:Pt×Pt),s∈nz l z→s.1∈l∧(s.2∈l∨s.2=z)
 |[],_,_,h=>by cases h
 |[x],z,s,h=>by
  have:s=(x,z):=by simpa [nz] using h
  subst this;exact⟨za4 ..,.inr rfl⟩
 |x::y::r,z,s,h=>by
  rcases List.mem_cons.1 (show s∈(x,y)::nz (y::r) z from h) with rfl|h
  ·exact⟨za4 ..,.inl (za5 _ (za4 ..))⟩
  ·obtain⟨h1,h2⟩:=zf (y::r) z s h;exact⟨za5 _ h1,h2.imp (fun h=>za5 _ h) id⟩
theorem Dt{l:List Pt}{s:Pt×Pt}(h:s∈ff l):s.1∈l∧s.2∈l:=by
 cases l with
 |nil=>cases h
 |cons x r=>
  obtain⟨h1,h2⟩:=zf (x::r) x s h;exact⟨h1,h2.elim id fun e=>by rw[e];exact za4 ..⟩
theorem rN{l:List Pt}(h:l.any cb=false):∀p∈l,iU p:=fun p hp=>BS (by
 rw[ze0] at h;simpa using h p hp)
theorem zg{p:Pt}(hp:iU p):∀(L:List (Pt×Pt)),(∀s∈L,iU s.1∧iU s.2)→∀b:Bool,gt p L (bz b 1 (-1))=bz (L.any fun s=>fp s.1 s.2 p) 0 (bz (b^^gV (IO p) L) 1 (-1))
 |[],_,b=>by cases b<;>rfl
 |s::L,h,b=>by
  obtain⟨h1,h2⟩:=h s (za4 ..);have ih:=zg hp L fun t ht=>h t (za5 _ ht);rw[show gt p (s::L) (bz b 1 (-1))=bz (ge s.1 s.2 p) 0 (bz (!decide (s.1.2>p.2)==decide (s.2.2>p.2)) (bz (decide (da s.1 s.2 p>0)==decide (s.2.2>p.2)) (gt p L (jb (0-bz b 1 (-1)))) (gt p L (bz b 1 (-1)))) (gt p L (bz b 1 (-1)))) from rfl];rw[sZ h1 h2 hp,kV h1 h2 hp,show jb (0-bz b 1 (-1))=bz (!b) 1 (-1) by cases b<;>exact bS (by decide),ih (!b),ih b,List.any_cons];rw[show gV (IO p) (s::L)=(((decide (s.1.2>p.2) !=decide (s.2.2>p.2))&&(decide (lF s.1 s.2 p>0)==decide (s.2.2>p.2)))^^gV (IO p) L) from rfl];cases fp s.1 s.2 p
  ·rw[bv,Bool.false_or];cases (L.any fun s=>fp s.1 s.2 p)
   ·cases decide (s.1.2>p.2)<;>cases decide (s.2.2>p.2)<;>cases decide (lF s.1 s.2 p>0)<;>cases b<;>cases gV (IO p) L<;>rfl
   ·cases decide (s.1.2>p.2)<;>cases decide (s.2.2>p.2)<;>cases decide (lF s.1 s.2 p>0)<;>rfl
  ·rfl
theorem MZ{p:Pt}(hp:iU p){s:Pt×Pt}(h1:iU s.1)(h2:iU s.2):PE p s=Ev p s:=by
 unfold PE Ev;rw[kV h1 h2 hp,kV h2 h1 hp];cases decide (s.1.2>p.2)<;>cases decide (s.2.2≤p.2)<;>cases decide (s.2.2>p.2)<;>cases decide (s.1.2≤p.2)<;>cases decide (lF s.1 s.2 p>0)<;>cases decide (lF s.2 s.1 p>0)<;>rfl
theorem Du{p:Pt}(hp:iU p):∀(L:List (Pt×Pt)),(∀s∈L,iU s.1∧iU s.2)→∀b:Bool,m5 p L b=bz (L.any fun s=>fp s.1 s.2 p) 0 (bz (b^^gV (Ev p) L) 1 (-1))
 |[],_,b=>by cases b<;>rfl
 |s::L,h,b=>by
  obtain⟨h1,h2⟩:=h s (za4 ..);have ih:=Du hp L fun t ht=>h t (za5 _ ht);rw[show m5 p (s::L) b=bz (oo s.1 s.2 p) 0 (m5 p L (bz (PE p s) (!b) b)) from rfl,zb h1 h2 hp,MZ hp h1 h2,ih,List.any_cons,show gV (Ev p) (s::L)=(Ev p s^^gV (Ev p) L) from rfl];cases fp s.1 s.2 p
  ·rw[bv,Bool.false_or];cases (L.any fun s=>fp s.1 s.2 p)<;>cases Ev p s<;>cases b<;>cases gV (Ev p) L<;>rfl
  ·rfl
theorem F9{l:List Pt}{p:Pt}(hl:l.any cb=false)(hp:cb p=false):gt p (ff l) (-1)=m5 p (ff l) false:=by
 have hP:=BS hp;have hL:∀s∈ff l,iU s.1∧iU s.2:=fun s hs=>⟨rN hl _ (Dt hs).1,rN hl _ (Dt hs).2⟩;have e1:=zg hP (ff l) hL false;rw[bv] at e1;rw[e1,Du hP (ff l) hL false];cases h:(ff l).any fun s=>fp s.1 s.2 p
 ·rw[BJ fun s hs=>by
   rw[ze0] at h;simpa using h s hs]
 ·rfl
theorem vO{n:Nat}{all:List (Pt×Pt)}:∀(L:List (Pt×Pt)) (i:Nat),qH n all i L=true↔∀(j:Nat) (s:Pt×Pt),L[j]?=some s→s.1≠s.2∧jS n (i+j) s 0 all=true
 |[],i=>⟨fun _ j s h=>by simp at h,fun _=>rfl⟩
 |s::L,i=>by
  rw[show qH n all i (s::L)=bz (decide (s.1=s.2)) false (bz (jS n i s 0 all) (qH n all (i+1) L) false) from rfl];have ih:=vO (n:=n) (all:=all) L (i+1);constructor
  ·intro h;by_cases e:s.1=s.2
   ·rw[za1 e] at h;cases h
   ·rw[za2 e,bv] at h;cases hi:jS n i s 0 all
    ·rw[hi] at h;cases h
    ·rw[hi,bx] at h;intro j t ht;cases j with
     |zero=>simp at ht;subst ht;exact⟨e,hi⟩
     |succ j=>
      have:=ih.1 h j t (by simpa using ht);rw[show i+(j+1)=i+1+j by omega];exact this
  ·intro h;obtain⟨h1,h2⟩:=h 0 s rfl;rw[za2 h1,bv];rw[Nat.add_zero] at h2;rw[h2,bx];refine ih.2 fun j t ht=> ?_;have:=h (j+1) t (by simpa using ht);rw[show i+1+j=i+(j+1) by omega];exact this
def s3(n i:Nat)(s:Pt×Pt)(q:Nat)(t:Pt×Pt):Prop:=
 (q=i+1→gQ s.1 s.2 t.2=false)∧(i+1<q→(i=0∧q+1=n)→gQ t.1 t.2 s.2=false)∧(i+1<q→¬(i=0∧q+1=n)→iF s.1 s.2 t.1 t.2=false)
theorem zh{n i:Nat}{s:Pt×Pt}:∀(L:List (Pt×Pt)) (k:Nat),k+L.length=n→(jS n i s k L=true↔∀(j:Nat) (t:Pt×Pt),L[j]?=some t→s3 n i s (k+j) t)
 |[],k,_=>⟨fun _ j s h=>by simp at h,fun _=>rfl⟩
 |t::L,k,hn=>by
  rw[show jS n i s k (t::L)=bz (decide (k≤i)) (jS n i s (k+1) L) (bz (decide (k=i+1)) (bz (gQ s.1 s.2 t.2) false (jS n i s (k+1) L))
   (bz (decide (i=0∧k+1=n)) (!gQ t.1 t.2 s.2) (bz (iF s.1 s.2 t.1 t.2) false (jS n i s (k+1) L)))) from rfl]
  have hn':k+1+L.length=n:=by simp at hn;omega
  have ih:=zh (n:=n) (i:=i) (s:=s) L (k+1) hn';have split:(∀(j:Nat) (t':Pt×Pt),(t::L)[j]?=some t'→s3 n i s (k+j) t')↔s3 n i s k t∧jS n i s (k+1) L=true:=by
   rw[ih];constructor
   ·intro h;refine⟨h 0 t rfl,fun j t' ht=> ?_⟩;have:=h (j+1) t' (by simpa using ht);rw[show k+1+j=k+(j+1) by omega];exact this
   ·rintro ⟨h1,h2⟩ j t' ht
    cases j with
    |zero=>simp at ht;subst ht;exact h1
    |succ j=>
     have:=h2 j t' (by simpa using ht);rw[show k+(j+1)=k+1+j by omega];exact this
  rw[split];by_cases c1:k≤i
  ·rw[za1 c1,bx];exact⟨fun h=>⟨⟨fun e=>by omega,fun e=>by omega,fun e=>by omega⟩,h⟩,fun h=>h.2⟩
  ·rw[za2 c1,bv];by_cases c2:k=i+1
   ·rw[za1 c2,bx];cases hc:gQ s.1 s.2 t.2
    ·rw[bv];exact⟨fun h=>⟨⟨fun _=>hc,fun e=>by omega,fun e=>by omega⟩,h⟩,fun h=>h.2⟩
    ·rw[bx];exact⟨fun h=>(by cases h),fun h=>by rw[h.1.1 c2] at hc;cases hc⟩
   ·rw[za2 c2,bv];by_cases c3:i=0∧k+1=n
    ·rw[za1 c3,bx];have hL:L=[]:=List.length_eq_zero_iff.1 (by omega);subst hL;constructor
     ·intro h;exact⟨⟨fun e=>absurd e c2,fun _ _=>by simpa using h,fun _ e=>absurd c3 e⟩,rfl⟩
     ·intro h;rw[h.1.2.1 (by omega) c3];rfl
    ·rw[za2 c3,bv];cases hm:iF s.1 s.2 t.1 t.2
     ·rw[bv];exact⟨fun h=>⟨⟨fun e=>absurd e c2,fun _ e=>absurd e c3,fun _ _=>hm⟩,h⟩,fun h=>h.2⟩
     ·rw[bx];exact⟨fun h=>(by cases h),fun h=>by rw[h.1.2.2 (by omega) c3] at hm;cases hm⟩
theorem p9{n i:Nat}{s:Pt×Pt}:∀(L:List (Pt×Pt)) (k:Nat),(eU n i s k L=true↔∀(j:Nat) (t:Pt×Pt),L[j]?=some t→k+j≠i→(k+j+1)%n≠i→(i+1)%n≠k+j→gP s.1 s.2 t.1 t.2=false)
 |[],k=>⟨fun _ j s h=>by simp at h,fun _=>rfl⟩
 |t::L,k=>by
  rw[show eU n i s k (t::L)=bz (decide (k≠i)) (bz (decide ((k+1)%n≠i)) (bz (decide ((i+1)%n≠k)) (bz (gP s.1 s.2 t.1 t.2) false (eU n i s (k+1) L)) (eU n i s (k+1) L)) (eU n i s (k+1) L)) (eU n i s (k+1) L) from rfl];have ih:=p9 (n:=n) (i:=i) (s:=s) L (k+1);have split:(∀(j:Nat) (t':Pt×Pt),(t::L)[j]?=some t'→k+j≠i→(k+j+1)%n≠i→(i+1)%n≠k+j→gP s.1 s.2 t'.1 t'.2=false)↔(k≠i→(k+1)%n≠i→(i+1)%n≠k→gP s.1 s.2 t.1 t.2=false)∧eU n i s (k+1) L=true:=by
   rw[ih];constructor
   ·intro h;refine⟨h 0 t rfl,fun j t' ht=> ?_⟩;have:=h (j+1) t' (by simpa using ht);rw[show k+1+j=k+(j+1) by omega];exact this
   ·rintro ⟨h1,h2⟩ j t' ht
    cases j with
    |zero=>simp at ht;subst ht;exact h1
    |succ j=>
     have:=h2 j t' (by simpa using ht);rw[show k+(j+1)=k+1+j by omega];exact this
  rw[split];by_cases c1:k≠i
  ·rw[za1 c1,bx];by_cases c2:(k+1)%n≠i
   ·rw[za1 c2,bx];by_cases c3:(i+1)%n≠k
    ·rw[za1 c3,bx];cases hm:gP s.1 s.2 t.1 t.2
     ·rw[bv];exact⟨fun h=>⟨fun _ _ _=>rfl,h⟩,fun h=>h.2⟩
     ·rw[bx];exact⟨fun h=>(by cases h),fun h=>by have:=h.1 c1 c2 c3;cases this⟩
    ·rw[za2 c3,bv];exact⟨fun h=>⟨fun _ _ e=>absurd e c3,h⟩,fun h=>h.2⟩
   ·rw[za2 c2,bv];exact⟨fun h=>⟨fun _ e _=>absurd e c2,h⟩,fun h=>h.2⟩
  ·rw[za2 c1,bv];exact⟨fun h=>⟨fun e _ _=>absurd e c1,h⟩,fun h=>h.2⟩
theorem s4{l:List Pt}:∀(L:List (Pt×Pt)) (i:Nat),gX l i L=true↔∀(j:Nat) (s:Pt×Pt),L[j]?=some s→s.1≠s.2∧gQ s.1 s.2 (pt l ((i+j+2)%l.length))=false∧eU l.length (i+j) s 0 (ff l)=true
 |[],i=>⟨fun _ j s h=>by simp at h,fun _=>rfl⟩
 |s::L,i=>by
  rw[show gX l i (s::L)=bz (decide (s.1=s.2)) false (bz (gQ s.1 s.2 (pt l ((i+2)%l.length))) false (bz (eU l.length i s 0 (ff l)) (gX l (i+1) L) false)) from rfl];have ih:=s4 (l:=l) L (i+1);constructor
  ·intro h;by_cases e:s.1=s.2
   ·rw[za1 e] at h;cases h
   ·rw[za2 e,bv] at h;cases hc:gQ s.1 s.2 (pt l ((i+2)%l.length))
    ·rw[hc,bv] at h;cases hi:eU l.length i s 0 (ff l)
     ·rw[hi] at h;cases h
     ·rw[hi,bx] at h;intro j t ht;cases j with
      |zero=>simp at ht;subst ht;exact⟨e,hc,hi⟩
      |succ j=>
       have:=ih.1 h j t (by simpa using ht);rw[show i+(j+1)=i+1+j by omega];exact this
    ·rw[hc] at h;cases h
  ·intro h;obtain⟨h1,h2,h3⟩:=h 0 s rfl;rw[Nat.add_zero] at h2 h3;rw[za2 h1,bv,h2,bv,h3,bx];refine ih.2 fun j t ht=> ?_;have:=h (j+1) t (by simpa using ht);rw[show i+1+j=i+(j+1) by omega];exact this
theorem lY{l:List Pt}{i:Nat}(h:i<l.length):(ff l)[i]?=some (pt l i,pt l ((i+1)%l.length)):=xv l (0,0) i h
theorem xA{l:List Pt}{i:Nat}{s:Pt×Pt}(h:(ff l)[i]?=some s):i<l.length:=by
 have:=(zc1.1 h).1;rw[ot] at this;exact this
structure SimpP(l:List Pt):Prop where
 ne:∀i,i<l.length→pt l i≠pt l ((i+1)%l.length)
 corn:∀i,i<l.length→gQ (pt l i) (pt l ((i+1)%l.length)) (pt l ((i+2)%l.length))=false
 meet:∀i q,i<l.length→q<l.length→q≠i→(q+1)%l.length≠i→(i+1)%l.length≠q→oh (pt l i) (pt l ((i+1)%l.length)) (pt l q) (pt l ((q+1)%l.length))=false
theorem na{l:List Pt}(hl:∀p∈l,iU p){i:Nat}(h:i<l.length):iU (pt l i):=hl _ (by
 unfold pt;rw[List.getD_eq_getElem?_getD,zd5 h];exact List.getElem_mem h)
theorem Ga{l:List Pt}(h3:3≤l.length)(hl:∀p∈l,iU p):qI l=true↔SimpP l:=by
 have hmod:∀j,j%l.length<l.length:=fun j=>ze1 _ (by omega);have hin:∀j,iU (pt l (j%l.length)):=fun j=>na hl (hmod j);unfold qI;rw[vO];have key:∀i,i<l.length→(jS l.length i (pt l i,pt l ((i+1)%l.length)) 0 (ff l)=true↔∀q,q<l.length→s3 l.length i (pt l i,pt l ((i+1)%l.length)) q (pt l q,pt l ((q+1)%l.length))):=fun i hi=>by
  rw[zh (ff l) 0 (by rw[ot];omega)];constructor
  ·intro h q hq;have:=h q _ (lY hq)
   rwa [Nat.zero_add] at this
  ·intro h j t ht;have hj:=xA ht;rw[lY hj] at ht;cases ht;rw[Nat.zero_add];exact h j hj
 constructor
 ·intro h;have hh:∀i,i<l.length→pt l i≠pt l ((i+1)%l.length)∧∀q,q<l.length→s3 l.length i (pt l i,pt l ((i+1)%l.length)) q (pt l q,pt l ((q+1)%l.length)):=fun i hi=>by
   obtain⟨h1,h2⟩:=h i _ (lY hi);rw[Nat.zero_add] at h2;exact⟨h1,(key i hi).1 h2⟩
  have half:∀i q,i<q→q<l.length→(q+1)%l.length≠i→(i+1)%l.length≠q→oh (pt l i) (pt l ((i+1)%l.length)) (pt l q) (pt l ((q+1)%l.length))=false:=fun i q hiq hq h4 h5=>by
   have hi:i<l.length:=by omega
   have h6:(i+1)%l.length=i+1:=Nat.mod_eq_of_lt (by omega);have h7:=((hh i hi).2 q hq).2.2 (by omega) (fun e=>by
    rw[e.2,Nat.mod_self] at h4;exact h4 e.1.symm)
   rw[←zd (na hl hi) (hin _) (na hl hq) (hin _)];exact h7
  refine⟨fun i hi=>(hh i hi).1,fun i hi=> ?_,fun i q hi hq h4 h5 h6=> ?_⟩
  ·by_cases e:i+1<l.length
   ·have:=((hh i hi).2 (i+1) e).1 rfl;rw[show i+1+1=i+2 by omega] at this;exact this
   ·have e1:i+1=l.length:=by omega
    have h7:=((hh 0 (by omega)).2 i hi).2.1 (by omega) ⟨rfl,e1⟩;rw[show(i+2)%l.length=(0+1)%l.length by rw[show i+2=l.length+1 by omega,Nat.add_mod_left]];exact h7
  ·rcases Nat.lt_or_gt_of_ne h4 with hlt|hlt
   ·rw[←Et];exact half q i hlt hi h6 h5
   ·exact half i q hlt hq h5 h6
 ·intro h j s hs;have hj:=xA hs;rw[lY hj] at hs;cases hs;rw[Nat.zero_add];refine⟨h.ne j hj,(key j hj).2 fun q hq=>⟨fun e=> ?_,fun h1 e=> ?_,fun h1 e=> ?_⟩⟩
  ·subst e;have:=h.corn j hj;show gQ (pt l j) (pt l ((j+1)%l.length)) (pt l ((j+1+1)%l.length))=false;exact this
  ·have:=h.corn q hq;obtain⟨rfl,e2⟩:=e;rw[show(q+2)%l.length=(0+1)%l.length by rw[show q+2=l.length+1 by omega,Nat.add_mod_left]] at this;exact this
  ·show iF _ _ _ _=false;rw[zd (na hl hj) (hin _) (na hl hq) (hin _)];have h6:(j+1)%l.length=j+1:=Nat.mod_eq_of_lt (by omega);refine h.meet j q hj hq (by omega) (fun e2=> ?_) (by omega);by_cases e3:q+1<l.length
   ·rw[Nat.mod_eq_of_lt e3] at e2;omega
   ·have e4:q+1=l.length:=by omega
    rw[e4,Nat.mod_self] at e2;exact e ⟨e2.symm,e4⟩
theorem Dv{l:List Pt}(h3:3≤l.length)(hl:∀p∈l,iU p):gX l 0 (ff l)=true↔SimpP l:=by
 have hmod:∀j,j%l.length<l.length:=fun j=>ze1 _ (by omega);have hin:∀j,iU (pt l (j%l.length)):=fun j=>na hl (hmod j);rw[s4];constructor
 ·intro h;have hh:∀i,i<l.length→_:=fun i hi=>h i _ (lY hi);refine⟨fun i hi=>(hh i hi).1,fun i hi=> ?_,fun i q hi hq h4 h5 h6=> ?_⟩
  ·have:=(hh i hi).2.1;rw[Nat.zero_add] at this;exact this
  ·have h7:=(hh i hi).2.2;rw[Nat.zero_add,p9] at h7;have:=h7 q _ (lY hq) (by omega) (by rw[Nat.zero_add];exact h5) (by rw[Nat.zero_add];exact h6);rw[←ze (na hl hi) (hin _) (na hl hq) (hin _)];exact this
 ·intro h j s hs;have hj:=xA hs;rw[lY hj] at hs;cases hs;rw[Nat.zero_add];refine⟨h.ne j hj,h.corn j hj,(p9 _ _).2 fun q t ht h4 h5 h6=> ?_⟩;have hq:=xA ht;rw[lY hq] at ht;cases ht;rw[Nat.zero_add] at h4 h5 h6;show gP _ _ _ _=false;rw[ze (na hl hj) (hin _) (na hl hq) (hin _)];exact h.meet j q hj hq h4 h5 h6
theorem EE{l:List Pt}(h3:3≤l.length)(hl:∀p∈l,iU p):qI l=gX l 0 (ff l):=by
 rw[Bool.eq_iff_iff,Ga h3 hl,Dv h3 hl]
theorem mH(l:List Pt):dG l=dI l:=by
 unfold dG xw dI;by_cases h1:(l.length:Int)<3
 ·rw[za1 h1];rfl
 ·rw[za2 h1];by_cases h2:(l.length:Int)>64
  ·rw[za1 h2];rfl
  ·rw[za2 h2];cases h3:l.any cb
   ·rw[EE (by omega) (rN h3)];cases gX l 0 (ff l)<;>rfl
   ·rfl
theorem qJ{l:List Pt}(h:dG l=0):3≤l.length∧l.length≤64∧l.any cb=false∧SimpP l:=by
 rw[mH] at h;unfold dI at h;by_cases h1:(l.length:Int)<3
 ·rw[za1 h1] at h;cases h
 ·rw[za2 h1,bv] at h;by_cases h2:(l.length:Int)>64
  ·rw[za1 h2] at h;cases h
  ·rw[za2 h2,bv] at h;cases h3:l.any cb
   ·rw[h3,bv] at h;refine⟨by omega,by omega,rfl,(Dv (by omega) (rN h3)).1 ?_⟩;cases h4:gX l 0 (ff l)
    ·rw[h4] at h;cases h
    ·rfl
   ·rw[h3] at h;cases h
end Go.Pd
end
