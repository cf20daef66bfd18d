import Derived.Test.YtmhbhlbnlmbhlaaGreatDoorCrA
import Derived.KernelRfl
import Derived.Test.YtmhbhlbnlmbhlaaGreatDoorCrN
import Derived.Test.YtmhbhlbnlmbhlaaGreatDoorCrE
import Derived.Laws.Strings
import Derived.Test.YtmhbhlbnlmbhlaaGreatDoorCsF
section
namespace Go.Pd
open Go Go.Proofs
set_option maxRecDepth 100000
def NY:bY:=fun p=>match p with
 |58=>nm [0,3,4] [] []
 |_=>none
noncomputable def rV(call:CL)(L:Nat)(C:Nat→Nat)(n:Nat)(vs:ByteArray)(z q:Int):Option D:=
 cw (cF call L C) O0 NY FinM.canon Tryz.f215 (bt 5 11) [] n (St.mk (D.str vs::J::J::D.int .i64 z::D.int .i64 q::jn 15 []) (zn 20 []))
theorem tI(call:CL)(L:Nat)(C:Nat→Nat)(n:Nat)(vs:ByteArray)(z q:Int):rV call L C (n+1) vs z q=
 (bz (decide (q<((ByteArray.size vs):Int)))
 (bH (decide (0≤q∧Int.toNat q<ByteArray.size vs))
 (rV call L C n vs (IntKind.wrap .i64 (IntKind.wrap .i64 (IntKind.wrap .i64 (10*z)+IntKind.wrap .i64 (cA vs (Int.toNat q)))-48)) (IntKind.wrap .i64 (q+1))))
 (some (D.int .i64 z))):=by kernel_rfl
theorem J8(call:CL)(L:Nat)(C:Nat→Nat)(vs:ByteArray):bT (cF call L C) O0 NY FinM.canon Tryz.f215 [D.str vs]=
 (rV call L C L vs 0 0):=by kernel_rfl
def NZ:bY:=fun p=>match p with
 |28=>nm [0,1,5] [] []
 |_=>none
noncomputable def mK(call:CL)(L:Nat)(C:Nat→Nat)(n:Nat)(q z:Int)(vs:ByteArray):Option D:=
 cw (cF call L C) O0 NZ FinM.canon Tryz.f210 [true,true,false,false] [] n (St.mk (D.int .i64 z::D.int .i64 q::J::J::J::D.str vs::jn 19 []) (zn 25 []))
theorem nG(call:CL)(L:Nat)(C:Nat→Nat)(n:Nat)(z q:Int)(vs:ByteArray):mK call L C (n+1) z q vs=
 (bz (decide (q>0))
 (bH (decide (0≤Int.tmod q 10∧Int.tmod q 10≤IntKind.wrap .i64 (Int.tmod q 10+1)∧IntKind.wrap .i64 (Int.tmod q 10+1)≤(10:Int)))
 (bH (!decide (((ByteArray.size (ByteArray.extract (ByteArray.mk #[48,49,50,51,52,53,54,55,56,57]) (Int.toNat (Int.tmod q 10)) (Int.toNat (IntKind.wrap .i64 (Int.tmod q 10+1))))+ByteArray.size vs):Int)>9223372036854775807))
 (mK call L C n z (IntKind.wrap .i64 (Int.tdiv q 10)) (ByteArray.extract (ByteArray.mk #[48,49,50,51,52,53,54,55,56,57]) (Int.toNat (Int.tmod q 10)) (Int.toNat (IntKind.wrap .i64 (Int.tmod q 10+1)))++vs))))
 (bz (decide (((ByteArray.size vs):Int)<z))
 (bH (decide (0≤Int.tmod q 10∧Int.tmod q 10≤IntKind.wrap .i64 (Int.tmod q 10+1)∧IntKind.wrap .i64 (Int.tmod q 10+1)≤(10:Int)))
 (bH (!decide (((ByteArray.size (ByteArray.extract (ByteArray.mk #[48,49,50,51,52,53,54,55,56,57]) (Int.toNat (Int.tmod q 10)) (Int.toNat (IntKind.wrap .i64 (Int.tmod q 10+1))))+ByteArray.size vs):Int)>9223372036854775807))
 (mK call L C n z (IntKind.wrap .i64 (Int.tdiv q 10)) (ByteArray.extract (ByteArray.mk #[48,49,50,51,52,53,54,55,56,57]) (Int.toNat (Int.tmod q 10)) (Int.toNat (IntKind.wrap .i64 (Int.tmod q 10+1)))++vs))))
 (some (D.str vs)))):=by kernel_rfl
theorem J9(call:CL)(L:Nat)(C:Nat→Nat)(z q:Int):bT (cF call L C) O0 NZ FinM.canon Tryz.f210 [D.int .i64 z,D.int .i64 q]=
 (mK call L C L q z (ByteArray.mk #[])):=by kernel_rfl
end Go.Pd
end
section
namespace Go.Pd
open Go Go.Proofs Go.RowKit
set_option maxRecDepth 100000
def bs(l:List UInt8):ByteArray:=ByteArray.mk l.toArray
theorem bL(l:List UInt8):(bs l).size=l.length:=by simp[bs,ByteArray.size]
theorem nc{l:List UInt8}{i:Nat}{b:UInt8}(h:l[i]?=some b):cA (bs l) i=(b.toNat:Int):=by
 obtain⟨h1,h2⟩:=zc1.1 h;rw[tg (by rw[bL];exact h1)];have:(bs l)[i]'(by rw[bL];exact h1)=l[i]:=by
  show(bs l).data[i]'_=_;simp[bs]
 rw[this,h2]
theorem c8(a b:List UInt8):bs a++bs b=bs (a++b):=by
 apply ByteArray.ext;simp[bs,ByteArray.data_append]
theorem kY(l:List UInt8)(i j:Nat):ByteArray.extract (bs l) i j=bs ((l.take j).drop i):=by
 apply ByteArray.ext;simp[bs,ByteArray.data_extract,List.drop_take]
theorem wb(c:UInt8)(k:UInt8):((c.toNat:Int)==(k.toNat:Int))=decide (c=k):=by
 rw[Bool.eq_iff_iff];simp only[ze8,zc7];exact⟨fun h=>UInt8.toNat_inj.1 (by omega),fun h=>by rw[h]⟩
def oN(c:UInt8):Prop:=48≤c.toNat∧c.toNat≤57
def vN:Nat→List UInt8→Nat
 |a,[]=>a
 |a,c::r=>vN (10*a+(c.toNat-48)) r
theorem GJ:∀(l:List UInt8) (a:Nat) (r:List UInt8),vN a (l++r)=vN (vN a l) r
 |[],_,_=>rfl
 |c::l,a,r=>GJ l (10*a+(c.toNat-48)) r
theorem LU:∀(l:List UInt8) (a k:Nat),(∀c∈l,oN c)→a<10^k→vN a l<10^(k+l.length)
 |[],_,_,_,h=>h
 |c::l,a,k,hd,h=>by
  have hc:=hd c (za4 ..);have:=LU l (10*a+(c.toNat-48)) (k+1) (fun x hx=>hd x (za5 _ hx)) (by
   have:=hc.2;rw[Nat.pow_succ];omega)
  rw[za7,show k+(l.length+1)=k+1+l.length by omega];exact this
theorem R4{call:CL}:∀(r pre:List UInt8) (fuel a:Nat),(∀c∈r,oN c)→(pre++r).length≤18→a<10^pre.length→r.length<fuel→rV call LL C1 fuel (bs (pre++r)) (a:Int) (pre.length:Int)=some (.int .i64 ((vN a r:Nat):Int)):=by
 intro r
 induction r with
 |nil=>
  intro pre fuel a hd hl ha hf;obtain⟨fuel,rfl⟩:∃n,fuel=n+1:=⟨fuel-1,by omega⟩;rw[tI,bL,zb6,za2 (by omega),bv];rfl
 |cons c r ih=>
  intro pre fuel a hd hl ha hf;obtain⟨fuel,rfl⟩:∃n,fuel=n+1:=⟨fuel-1,by omega⟩;have hlen:pre.length<(pre++c::r).length:=by simp
  have hc:=hd c (za4 ..);obtain⟨c1,c2⟩:=hc;have h18:pre.length≤17:=by simp at hl;omega
  have ha17:a<10^17:=zb2 ha (Nat.pow_le_pow_right (by omega) h18);have ih:=ih (pre++[c]) fuel (10*a+(c.toNat-48)) (fun x hx=>hd x (za5 _ hx)) (by simp at hl ⊢;omega) (by
   rw[za6,zb4,Nat.pow_succ];omega) (by simp at hf;omega)
  rw[za8,List.singleton_append] at ih;rw[tI,bL,za1 (show(pre.length:Int)<((pre++c::r).length:Int) by omega),bx];refine bK (za1 ⟨by omega,by rw[za3];exact hlen⟩) ?_;rw[za3,nc (b:=c) (by simp),show IntKind.wrap .i64 ((pre.length:Int)+1)=((pre++[c]).length:Int) from(bS (by omega)).trans (by simp),
   bS (y:=10*(a:Int)) (by omega),bS (y:=(c.toNat:Int)) (by omega),bS (y:=10*(a:Int)+(c.toNat:Int)) (by omega),bS (y:=10*(a:Int)+(c.toNat:Int)-48) (by omega),
   show 10*(a:Int)+(c.toNat:Int)-48=((10*a+(c.toNat-48):Nat):Int) by omega]
  exact ih
theorem R5(l:List UInt8)(hd:∀c∈l,oN c)(hl:l.length≤18):OK2 215 [.str (bs l)] (.int .i64 ((vN 0 l:Nat):Int)):=
 dT cK Tryz.func215 (ord:=O0) (N:=NY) (by kernel_rfl) ((J8 _ _ _ _).trans (R4 l [] LL 0 hd (by simpa using hl) (by simp) (by unfold LL;omega)))
def FJ(d:Nat):UInt8:=UInt8.ofNat (48+d)
theorem xM{d:Nat}(h:d<10):(FJ d).toNat=48+d:=by
 unfold FJ;rw[UInt8.toNat_ofNat'];omega
theorem N1{d:Nat}(h:d<10):oN (FJ d):=by
 unfold oN;rw[xM h];omega
def mL(n:Nat):List UInt8:=if n=0 then[] else mL (n/10)++[FJ (n%10)]
termination_by n
decreasing_by omega
theorem eV:mL 0=[]:=by rw[mL];rfl
theorem gx{n:Nat}(h:n≠0):mL n=mL (n/10)++[FJ (n%10)]:=by rw[mL,if_neg h]
theorem N2(n:Nat):∀c∈mL n,oN c:=by
 induction n using Nat.strongRecOn with
 |ind n ih=>
  by_cases h:n=0
  ·subst h;rw[eV];exact fun c hc=>by cases hc
  ·rw[gx h];intro c hc;rcases za9.1 hc with hc|hc
   ·exact ih (n/10) (by omega) c hc
   ·rw[zd4] at hc;subst hc;exact N1 (by omega)
theorem N3(n:Nat):vN 0 (mL n)=n:=by
 induction n using Nat.strongRecOn with
 |ind n ih=>
  by_cases h:n=0
  ·subst h;rw[eV];rfl
  ·rw[gx h,GJ,ih (n/10) (by omega)];show 10*(n/10)+((FJ (n%10)).toNat-48)=n;rw[xM (by omega)];omega
theorem rW:∀(k n:Nat),n<10^k→(mL n).length≤k
 |0,n,h=>by
  have:n=0:=by simpa using h
  subst this;rw[eV];exact zb0 _
 |k+1,n,h=>by
  by_cases h0:n=0
  ·subst h0;rw[eV];simp
  ·rw[gx h0,za6,zb4];have:=rW k (n/10) (by rw[Nat.pow_succ] at h;omega);omega
def jx(least:Nat)(l:List UInt8):List UInt8:=List.replicate (least-l.length) 48++l
theorem N4:∀{d:Nat},d<10→ByteArray.extract (ByteArray.mk #[48,49,50,51,52,53,54,55,56,57]) d (d+1)=bs [FJ d]
 |0,_=>by decide
 |1,_=>by decide
 |2,_=>by decide
 |3,_=>by decide
 |4,_=>by decide
 |5,_=>by decide
 |6,_=>by decide
 |7,_=>by decide
 |8,_=>by decide
 |9,_=>by decide
 |_+10,h=>by omega
theorem R6{call:CL}{least:Nat}(hL:least≤100):∀(k n fuel:Nat) (s:List UInt8),n<10^k→k≤19→n≤4000000000000000000→s.length≤200-k→k+(least-s.length)<fuel→mK call LL C1 fuel (least:Int) (n:Int) (bs s)=some (.str (bs (jx least (mL n++s)))):=by
 have dig:∀n:Nat,n≤4000000000000000000→decide ((0:Int)≤Int.tmod (n:Int) 10∧Int.tmod (n:Int) 10≤IntKind.wrap IntKind.i64 (Int.tmod (n:Int) 10+1)∧IntKind.wrap IntKind.i64 (Int.tmod (n:Int) 10+1)≤(10:Int))=true∧
   ByteArray.extract (ByteArray.mk #[48,49,50,51,52,53,54,55,56,57]) (Int.toNat (Int.tmod (n:Int) 10)) (Int.toNat (IntKind.wrap IntKind.i64 (Int.tmod (n:Int) 10+1)))=bs [FJ (n%10)]∧IntKind.wrap IntKind.i64 (Int.tdiv (n:Int) 10)=((n/10:Nat):Int):=fun n hn=>by
  have e1:Int.tmod (n:Int) 10=((n%10:Nat):Int):=rfl;have e2:IntKind.wrap IntKind.i64 (((n%10:Nat):Int)+1)=((n%10+1:Nat):Int):=(bS (by omega)).trans (by omega);rw[e1,e2];refine⟨za1 ⟨by omega,by omega,by omega⟩,?_,?_⟩
  ·rw[za3,za3];exact N4 (by omega)
  ·rw[show Int.tdiv (n:Int) 10=((n/10:Nat):Int) from rfl];exact bS (by omega)
 have zero:∀(m fuel:Nat) (s:List UInt8),least-s.length=m→m<fuel→mK call LL C1 fuel (least:Int) ((0:Nat):Int) (bs s)=some (.str (bs (List.replicate m 48++s))):=by
  intro m
  induction m with
  |zero=>
   intro fuel s hm hf;obtain⟨fuel,rfl⟩:∃n,fuel=n+1:=⟨fuel-1,by omega⟩;rw[nG,za2 (show¬(((0:Nat):Int)>0) by omega),bv,bL,za2 (show¬((s.length:Int)<(least:Int)) by omega),bv];rfl
  |succ m ih=>
   intro fuel s hm hf;obtain⟨fuel,rfl⟩:∃n,fuel=n+1:=⟨fuel-1,by omega⟩;obtain⟨d1,d2,d3⟩:=dig 0 (by omega);have ih:=ih fuel (48::s) (by simp;omega) (by omega);rw[nG,za2 (show¬(((0:Nat):Int)>0) by omega),bv,bL,za1 (show(s.length:Int)<(least:Int) by omega),bx,d1,bC,d2,d3,bL,c8];refine bK ?_ ?_
   ·rw[za2]
    ·rfl
    ·simp only[zb4];omega
   ·refine ih.trans ?_;rw[List.replicate_succ',za8];rfl
 intro k
 induction k with
 |zero=>
  intro n fuel s hn hk h4 hs hf;have:n=0:=by simpa using hn
  subst this;rw[zero _ fuel s rfl (by omega),eV];rfl
 |succ k ih=>
  intro n fuel s hn hk h4 hs hf;by_cases h0:n=0
  ·subst h0;rw[zero _ fuel s rfl (by omega),eV];rfl
  ·obtain⟨fuel,rfl⟩:∃n,fuel=n+1:=⟨fuel-1,by omega⟩;obtain⟨d1,d2,d3⟩:=dig n h4;have ih:=ih (n/10) fuel (FJ (n%10)::s) (by rw[Nat.pow_succ] at hn;omega) (by omega) (by omega) (by simp;omega) (by simp;omega);rw[nG,za1 (show(n:Int)>0 by omega),bx,d1,bC,d2,d3,bL,bL,c8];refine bK ?_ ?_
   ·rw[za2]
    ·rfl
    ·simp only[zb4];omega
   ·refine ih.trans ?_;rw[gx h0,za8];rfl
theorem R7(n least:Nat)(hn:n≤4000000000000000000)(hL:least≤100):OK2 210 [.int .i64 (n:Int),.int .i64 (least:Int)] (.str (bs (jx least (mL n)))):=
 dT cK Tryz.func210 (ord:=O0) (N:=NZ) (by kernel_rfl) ((J9 _ _ _ _ _).trans ((R6 hL 19 n LL [] (by omega) (by omega) hn (by simp) (by unfold LL;simp;omega)).trans (by rw[zb6])))
theorem eE{a b:List UInt8}(h:bs a=bs b):a=b:=by
 have:=congrArg (fun x:ByteArray=>x.data.toList) h;simpa [bs] using this
def iq(n:Nat):List UInt8:=jx 1 (mL n)
theorem iV:iq 0=[48]:=by unfold iq jx;rw[eV];rfl
theorem gy{n:Nat}(h:n≠0):iq n=mL n:=by
 unfold iq jx;rw[show 1-(mL n).length=0 by rw[gx h];simp];rfl
theorem xN(n:Nat):∀c∈iq n,oN c:=by
 by_cases h:n=0
 ·subst h;rw[iV];intro c hc;rw[zd4] at hc;subst hc;exact⟨by decide,by decide⟩
 ·rw[gy h];exact N2 n
theorem GK(n:Nat):vN 0 (iq n)=n:=by
 by_cases h:n=0
 ·subst h;rw[iV];rfl
 ·rw[gy h];exact N3 n
theorem l9{n k:Nat}(h:n<10^k)(hk:1≤k):1≤(iq n).length∧(iq n).length≤k:=by
 by_cases h0:n=0
 ·subst h0;rw[iV];exact⟨zb0 _,hk⟩
 ·rw[gy h0];refine⟨by rw[gx h0];simp,rW k n h⟩
def GL(d:Nat):List UInt8:=if 1<d then 47::iq d else[]
def rx(n:Int):List UInt8:=if n<0 then[45] else[]
def xO(n:Int)(d:Nat):List UInt8:=rx n++(iq n.natAbs++GL d)
theorem zC{d:Nat}(h:¬1<d):GL d=[]:=by unfold GL;rw[if_neg h]
structure SmT(x:Int×Nat):Prop where
 n:x.1.natAbs<1000000000
 l:1≤x.2
 d:x.2<1000000000
def R8(x:Int×Nat):ByteArray:=bs (xO x.1 x.2)
def N5(x y:Int×Nat):Int:=x.1*(y.2:Int)+y.1*(x.2:Int)
theorem EM(k:Nat)(l:List UInt8)(x:UInt8):jx (k+1) (l++[x])=jx k l++[x]:=by
 unfold jx;rw[za6,zb4,show k+1-(l.length+1)=k-l.length by omega,za8]
theorem GM(k r:Nat):jx (k+1) (mL r)=jx k (mL (r/10))++[FJ (r%10)]:=by
 by_cases h:r=0
 ·subst h;rw[show 0/10=0 from rfl,show 0%10=0 from rfl,eV];unfold jx;rw[zb5,Nat.sub_zero,Nat.sub_zero,zb6,zb6,List.replicate_succ'];rfl
 ·rw[gx h,EM]
theorem DI:∀(k q r:Nat),q≠0→r<10^k→mL (q*10^k+r)=mL q++jx k (mL r)
 |0,q,r,_,hr=>by
  have:r=0:=by simpa using hr
  subst this;rw[Nat.pow_zero,Nat.mul_one,Nat.add_zero,eV];unfold jx;simp
 |k+1,q,r,hq,hr=>by
  have hp:q*10^(k+1)=q*10^k*10:=by rw[Nat.pow_succ,ze4]
  have hpos:0<q*10^k:=Nat.mul_pos (by omega) (Nat.pow_pos (by omega));rw[Nat.pow_succ] at hr;rw[hp,gx (by omega),show(q*10^k*10+r)/10=q*10^k+r/10 by omega,show(q*10^k*10+r)%10=r%10 by omega,DI k q (r/10) hq (by omega),GM,za8]
theorem GN{n i:Nat}(h:jV n (i+1)≠0):mL (jV n i)=mL (jV n (i+1))++jx 9 (mL (jV n i%1000000000)):=by
 have:=DI 9 (jV n (i+1)) (jV n i%1000000000) h (by omega);rw[←this,ki]
 congr 1
 omega
def fam210p:Fam:=⟨210,{x:Nat×Nat//x.1<1000000000∧x.2≤9},fun x=>[.int .i64 (x.1.1:Int),.int .i64 (x.1.2:Int)],fun x=> .str (bs (jx x.1.2 (mL x.1.1)))⟩
theorem xP:fam210p.Good:=⟨fun x=>R7 x.1.1 x.1.2 (by have:=x.2.1;omega) (by have:=x.2.2;omega),fun(x y:{x:Nat×Nat//x.1<1000000000∧x.2≤9}) e=>by
 have e:[D.int .i64 (x.1.1:Int),.int .i64 (x.1.2:Int)]=[D.int .i64 (y.1.1:Int),.int .i64 (y.1.2:Int)]:=e;simp only[zc5,D.int.injEq,and_true,true_and] at e;show D.str (bs (jx x.1.2 (mL x.1.1)))= .str (bs (jx y.1.2 (mL y.1.1)));rw[show x.1.1=y.1.1 by omega,show x.1.2=y.1.2 by omega],fun _=>rfl⟩
theorem zE{k r:Nat}(h:r<10^k):(jx k (mL r)).length=k:=by
 have:=rW k r h;unfold jx;rw[za6,List.length_replicate];omega
theorem N6{n i:Nat}(h:i+1<(gf n).length):jV n (i+1)≠0:=len_lt.1 h
abbrev tJ(f:Bool)(z:Int):D:= .agg [.bool (decide (z<0)),.slc f (gf z.natAbs).length (dE (gf z.natAbs))]
section
variable {B:FuncId→List D→Option D}{n:Nat}{f:Bool}
theorem nH(n:Nat):∀k,k≤(gf n).length→(mL (jV n ((gf n).length-k))).length≤9*k
 |0,_=>by
  have:¬jV n ((gf n).length-0)≠0:=fun hh=>absurd (len_lt.2 hh) (by omega);rw[show jV n ((gf n).length-0)=0 by omega,eV];simp
 |k+1,hk=>by
  have ih:=nH n k (by omega);by_cases h0:jV n ((gf n).length-(k+1)+1)=0
  ·have hs:=ki n ((gf n).length-(k+1));have:=rW 9 (jV n ((gf n).length-(k+1))) (by omega);omega
  ·rw[GN h0,za6,zE (ze1 _ (by omega)),show(gf n).length-(k+1)+1=(gf n).length-k by omega];omega
theorem R9(h0:∀x k:Nat,x<1000000000→k≤9→bw B 210 [.int .i64 (x:Int),.int .i64 (k:Int)]=some (.str (bs (jx k (mL x)))))(hl:(gf n).length≤100000)(neg:Bool):∀(j fuel:Nat),j<(gf n).length→j<fuel→
  oL (bw B) LL C1 fuel neg f (gf n).length (dE (gf n)) (bs (mL (jV n j))) ((j:Int)-1)=some (.str (bs ((if neg then[45] else[])++mL n))):=by
 intro j
 induction j with
 |zero=>
  intro fuel hj hf;obtain⟨fuel,rfl⟩:∃n,fuel=n+1:=⟨fuel-1,by omega⟩;have hlen:=nH n (gf n).length (zb0 _);rw[Nat.sub_self,kg] at hlen;rw[qQ,za2 (show¬(((0:Nat):Int)-1≥0) by omega),bv,kg];cases neg
  ·rfl
  ·rw[bx,bL];refine bK ?_ ?_
   ·rw[za2]
    ·rfl
    ·omega
   ·rw[show ByteArray.mk #[45]=bs [45] from rfl,c8];rfl
 |succ j ih=>
  intro fuel hj hf;obtain⟨fuel,rfl⟩:∃n,fuel=n+1:=⟨fuel-1,by omega⟩;have e1:((j+1:Nat):Int)-1=(j:Int):=by omega
  have hlen:=nH n ((gf n).length-(j+1)) (by omega);rw[show(gf n).length-((gf n).length-(j+1))=j+1 by omega] at hlen;rw[qQ,e1,za1 (show(j:Int)≥0 by omega),bx];refine bK (za1 ⟨by omega,by omega⟩) ?_;rw[zA (by omega),bF];refine bI (h0 _ 9 (ze1 _ (by omega)) (by omega)) ?_;rw[bP,bL,bL,c8,zE (ze1 _ (by omega)),←GN (N6 hj),bS (by omega)];refine bK ?_ ?_
  ·rw[za2]
   ·rfl
   ·omega
  ·exact ih fuel (by omega) (by omega)
end
theorem Sa{f:Bool}(z:Int)(hl:(gf z.natAbs).length≤100000):OK2 213 [tJ f z] (.str (bs (xO z 1))):=by
 obtain⟨B,hB,e0,_⟩:=fP [fam210p] ⟨xP,trivial⟩ rfl;have h0:∀x k:Nat,x<1000000000→k≤9→bw B 210 [.int .i64 (x:Int),.int .i64 (k:Int)]=some (.str (bs (jx k (mL x)))):=fun x k h1 h2=>e0 ⟨(x,k),h1,h2⟩;refine dT hB Tryz.func213 (ord:=O0) (N:=NX) (by kernel_rfl) ((J6 _ _ _ _ _ _ _).trans ?_);have hr:xO z 1=rx z++iq z.natAbs:=by unfold xO;rw[zC (by omega),zb6]
 rw[hr];by_cases hz:z=0
 ·subst hz;rw[show(0:Int).natAbs=0 from rfl,kf,iV];rfl
 ·have hn:z.natAbs≠0:=by omega
  have hlen:0<(gf z.natAbs).length:=by rw[oM hn];simp
  rw[show((((gf z.natAbs).length:Nat):Int)==0)=false from beq_eq_false_iff_ne.2 (by omega),bv,bS (y:=(((gf z.natAbs).length:Nat):Int)-1) (by omega)];refine bK (za1 ⟨by omega,by omega⟩) ?_;have e1:(((gf z.natAbs).length:Nat):Int)-1=(((gf z.natAbs).length-1:Nat):Int):=by omega
  have e2:IntKind.wrap IntKind.i64 ((((gf z.natAbs).length:Nat):Int)-2)=(((gf z.natAbs).length-1:Nat):Int)-1:=(bS (by omega)).trans (by omega);have ht:jV z.natAbs ((gf z.natAbs).length-1)≠0:=len_lt.1 (by omega);have hs:jV z.natAbs ((gf z.natAbs).length-1+1)=0:=by
   have:¬jV z.natAbs ((gf z.natAbs).length-1+1)≠0:=fun hh=>absurd (len_lt.2 hh) (by omega);omega
  rw[ki] at hs;rw[e1,zA (by omega),bF,e2,show jV z.natAbs ((gf z.natAbs).length-1)%1000000000=jV z.natAbs ((gf z.natAbs).length-1) by omega];refine bI (h0 _ 1 (by omega) (by omega)) ?_;have e3:jx 1 (mL (jV z.natAbs ((gf z.natAbs).length-1)))=mL (jV z.natAbs ((gf z.natAbs).length-1)):=gy ht;rw[bP,e3,R9 h0 hl (decide (z<0)) _ LL (by omega) (by unfold LL;omega),gy hn];unfold rx;by_cases h:z<0
  ·rw[za1 h,if_pos rfl,if_pos h]
  ·rw[za2 h,if_neg (by decide),if_neg h]
def fam220:Fam:=⟨220,{x:Bool×List Int//x.2.length≤1000000},fun x=>[.bool x.1.1,.slc false x.1.2.length (dE x.1.2)],fun x=>rv x.1.1 (DH false x.1.2) (gw x.1.2)⟩
theorem zF:fam220.Good:=⟨fun x=>LT x.1.1 x.1.2 x.2,fun(x y:{x:Bool×List Int//x.2.length≤1000000}) e=>by
 have e:[D.bool x.1.1,D.slc false x.1.2.length (dE x.1.2)]=[D.bool y.1.1,D.slc false y.1.2.length (dE y.1.2)]:=e;simp only[zc5,D.slc.injEq,D.bool.injEq,and_true,true_and] at e;show rv x.1.1 (DH false x.1.2) (gw x.1.2)=rv y.1.1 (DH false y.1.2) (gw y.1.2);rw[e.1,oq e.2.2],fun _=>rfl⟩
section
variable {B:FuncId→List D→Option D}{N:Nat}{neg:Bool}
end
theorem EN(l:List Int):DH false l=false:=by unfold DH;exact wa _
section
variable {B:FuncId→List D→Option D}{a b d:Nat}{fa fb:Bool}
end
def jW(s:Bool)(m:Nat):Int:=if s then -(m:Int) else(m:Int)
theorem DJ{s:Bool}{m:Nat}(h:m≠0):(jW s m !=0)=true:=by
 refine ze9.2 ?_;unfold jW;split<;>omega
theorem EO(s:Bool):(jW s 0 !=0)=false:=by cases s<;>rfl
theorem zG(s:Bool)(m:Nat)(hm:m≤9000000000000000000):IntKind.wrap IntKind.i64 (Int.tdiv (jW s m) 1000000000)=jW s (m/1000000000):=by
 have:Int.tdiv (jW s m) 1000000000=jW s (m/1000000000):=by
  unfold jW;split
  ·rw[Int.neg_tdiv];rfl
  ·rfl
 rw[this];refine bS ?_;unfold jW;split<;>omega
theorem zH(s:Bool)(m:Nat)(K:Int→Option D):bz (decide (Int.tmod (jW s m) 1000000000<0)) (K (IntKind.wrap IntKind.i64 (0-Int.tmod (jW s m) 1000000000))) (K (Int.tmod (jW s m) 1000000000))=K ((m%1000000000:Nat):Int):=by
 have hlt:m%1000000000<1000000000:=ze1 _ (by omega);unfold jW;split
 ·have e:Int.tmod (-(m:Int)) 1000000000= -((m%1000000000:Nat):Int):=by rw[Int.neg_tmod];rfl
  rw[e];generalize m%1000000000=q at*;by_cases h0:q=0
  ·subst h0;rw[za2 (by omega),bv];rfl
  ·rw[za1 (by omega),bx,bS (by omega),show 0- -(q:Int)=(q:Int) by omega]
 ·have e:Int.tmod (m:Int) 1000000000=((m%1000000000:Nat):Int):=rfl;rw[e,za2 (by omega),bv]
theorem GO{B:FuncId→List D→Option D}{N:Nat}(h2:∀(b:Bool) (l:List Int),l.length≤1000000→bw B 220 [.bool b,.slc false l.length (dE l)]=some (rv b (DH false l) (gw l)))(hN:0<N)(s neg:Bool)(i fuel:Nat)(hi:i≤1000)(hz:jV N i=0):
  fJ (bw B) LL C1 (fuel+1) (jW s 0) (GH (l8 i (yP N))) neg=some (rv neg false (gf N)):=by
 have hcall:=h2 neg (l8 i (yP N)) (by rw[oJ];omega);rw[zB _ _ hz,EN] at hcall;have hlen:=oJ i (yP N);generalize l8 i (yP N)=q at*;cases q with
 |nil=>
  have:i=0:=by simpa using hlen.symm
  subst this;rw[kg] at hz;omega
 |cons y r=>
  refine(qP ..).trans ?_;rw[EO,bv];exact bI hcall rfl
theorem Ka{B:FuncId→List D→Option D}(s neg:Bool)(m:Nat)(hm:m≤9000000000000000000)(h0:m≠0)(l:List Int)(hl:l.length≤1000)(fuel:Nat):
  fJ (bw B) LL C1 (fuel+1) (jW s m) (GH l) neg=fJ (bw B) LL C1 fuel (jW s (m/1000000000)) (GH (l++[((m%1000000000:Nat):Int)])) neg:=by
 cases l with
 |nil=>
  refine(qO ..).trans ?_;rw[DJ h0,bx,zG s m hm];exact zH s m fun d=>fJ (bw B) LL C1 fuel (jW s (m/1000000000)) (.own 1 [.int .i64 d]) neg
 |cons y r=>
  refine(qP ..).trans ?_;rw[DJ h0,bx,zG s m hm,za1 (show((y::r).length+1)*8≤Go.Pd.limit∧(y::r).length+1≤9223372036854775807 from⟨by unfold Go.Pd.limit;omega,by omega⟩),bC,bC];refine(zH s m fun d=>fJ (bw B) LL C1 fuel (jW s (m/1000000000)) (.own ((y::r).length+1) (dE (y::r)++[.int .i64 d])) neg).trans ?_;rw[GI]
theorem Sb{B:FuncId→List D→Option D}{N:Nat}(h2:∀(b:Bool) (l:List Int),l.length≤1000000→bw B 220 [.bool b,.slc false l.length (dE l)]=some (rv b (DH false l) (gw l)))(hN:0<N)(hb:N≤9000000000000000000)(s neg:Bool):∀(k i fuel:Nat),(gf N).length≤i+k→i+k≤1000→k<fuel→
  fJ (bw B) LL C1 fuel (jW s (jV N i)) (GH (l8 i (yP N))) neg=some (rv neg false (gf N)):=by
 intro k
 induction k with
 |zero=>
  intro i fuel hl hi hf;obtain⟨fuel,rfl⟩:∃n,fuel=n+1:=⟨fuel-1,by omega⟩;have hz:jV N i=0:=by
   have:¬jV N i≠0:=fun hh=>absurd (len_lt.2 hh) (by omega);omega
  have:=GO h2 hN s neg i fuel (by omega) hz;rw[hz];exact this
 |succ k ih=>
  intro i fuel hl hi hf;obtain⟨fuel,rfl⟩:∃n,fuel=n+1:=⟨fuel-1,by omega⟩;by_cases hz:jV N i=0
  ·have:=GO h2 hN s neg i fuel (by omega) hz;rw[hz];exact this
  ·have ih:=ih (i+1) fuel (by omega) (by omega) (by omega);have hM:jV N i≤9000000000000000000:=zb1 (Nat.div_le_self _ _) hb;rw[Ka s neg (jV N i) hM hz (l8 i (yP N)) (by rw[oJ];omega) fuel];rw[ki,qg] at ih;exact ih
theorem Kb(n:Int):jW (decide (n<0)) n.natAbs=n:=by
 unfold jW;by_cases h:n<0
 ·rw[za1 h,if_pos rfl];omega
 ·rw[za2 h,if_neg (by decide)];omega
theorem Sc(n:Int)(hn:n.natAbs≤9000000000000000000):OK2 208 [.int .i64 n] (tJ (decide (n=0)) n):=by
 by_cases h0:n=0
 ·subst h0;have h:=NN (a:=[.bool false]) (b:=[]) (f:=true) (LT (f:=true) false [] (by simp));obtain⟨B,hB,e,_⟩:=fP [one 220 [.bool false,.nils] (tJ true 0)] ⟨bM (by
   rw[show tJ true 0=rv false (DH true []) (gw []) by
    unfold tJ;rw[show(0:Int).natAbs=0 from rfl,kf];rfl]
   exact h) rfl,trivial⟩ rfl
  refine dT hB Tryz.func208 (ord:=O0) (N:=J5) (by kernel_rfl) ((DG _ _ _ _).trans ?_);rw[show LL=4611686018427387903+1 from rfl,qO,show((0:Int) !=0)=false from rfl,bv];exact bI (x:=tJ true 0) (e ()) rfl
 ·obtain⟨B,hB,e2,_⟩:=fP [fam220] ⟨zF,trivial⟩ rfl;have h2:∀(b:Bool) (l:List Int),l.length≤1000000→bw B 220 [.bool b,.slc false l.length (dE l)]=some (rv b (DH false l) (gw l)):=fun b l hl=>e2 ⟨(b,l),hl⟩;refine dT hB Tryz.func208 (ord:=O0) (N:=J5) (by kernel_rfl) ((DG _ _ _ _).trans ?_);have hlen:(gf n.natAbs).length≤900:=Nat.le_of_not_lt fun hc=>by
   have h1:jV n.natAbs 3=0:=by unfold jV;omega
   exact absurd h1 (len_lt.1 (by omega))
  have:=Sb (N:=n.natAbs) h2 (by omega) hn (decide (n<0)) (decide (n<0)) 900 0 LL (by omega) (by omega) (by unfold LL;omega);rw[kg,Kb] at this;refine Eq.trans this ?_;unfold rv tJ;rw[za2 h0,za1 (show 0<(gf n.natAbs).length by rw[oM (by omega)];simp),Bool.and_true]
end Go.Pd
end
