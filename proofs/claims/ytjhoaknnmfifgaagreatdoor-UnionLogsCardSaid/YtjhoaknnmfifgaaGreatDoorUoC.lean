import Derived.Test.YtjhoaknnmfifgaaGreatDoorUoA
import Derived.Test.YtjhoaknnmfifgaaGreatDoorUoB
import Derived.Test.YtjhoaknnmfifgaaGreatDoorUnH
import Derived.Test.YtjhoaknnmfifgaaGreatDoorUnV
import Derived.Test.YtjhoaknnmfifgaaGreatDoorUnA
import Derived.KernelRfl
section
namespace Go.Pd
open Go Go.Proofs Go.RowKit Go.Shelf
set_option maxRecDepth 100000
abbrev By:=List UInt8
def DL(k:FuncId)(P:By→Prop)(r:By→D):Fam:=⟨k,{l:By//P l},fun l=>[SB l.1],fun l=>r l.1⟩
theorem kH{k:FuncId}{P:By→Prop}{r:By→D}(h:∀l,P l→bR k [SB l] (r l)):(DL k P r).Good:=⟨fun l=>h l.1 l.2,fun i j e=>by
 have e:[SB i.1]=[SB j.1]:=e;simp only[zc5,and_true,D.str.injEq] at e;rw[show i=j from Subtype.ext (hN e)]⟩
def HA(k:FuncId)(P:Int→Prop)(r:Int→D):Fam:=⟨k,{n:Int//P n},fun n=>[.int .i64 n.1],fun n=>r n.1⟩
theorem yE{k:FuncId}{P:Int→Prop}{r:Int→D}(h:∀n,P n→bR k [.int .i64 n] (r n)):(HA k P r).Good:=⟨fun n=>h n.1 n.2,fun i j e=>by
 have e:[D.int .i64 i.1]=[D.int .i64 j.1]:=e;simp only[zc5,and_true,D.int.injEq,true_and] at e;rw[show i=j from Subtype.ext e]⟩
theorem lI(l m:By):(ByteArray.toList (bs l)==ByteArray.toList (ByteArray.mk m.toArray))=(l==m):=ql l m
def wR:By:=[99,108,117,98]
def mC:By:=[109,101,109,98,101,114]
def qG:By:=[104,111,108,101,115]
def wS:By:=[109,97,114,107]
def qH:By:=[99,108,97,105,109]
def wT:By:=[115,105,103,110]
def mD:By:=[114,117,108,105,110,103]
def qI:By:=[114,111,117,110,100]
def s3:By:=[117,110,100,111]
structure Frm where
 n:Nat
 v:Nat
 t:Bool
 is:Bool
def bP(k:By):Frm:=if k=wR then⟨1,0,false,true⟩ else if k=wT then⟨1,0,false,true⟩ else if k=qI then⟨1,0,false,true⟩ else if k=mC then⟨2,0,true,true⟩ else if k=qG then⟨0,0,true,true⟩
 else if k=wS then⟨2,1,true,true⟩ else if k=qH then⟨1,1,true,true⟩ else if k=mD then⟨1,1,true,true⟩ else if k=s3 then⟨0,0,false,true⟩ else⟨0,0,false,false⟩
theorem gO(k:By):(bP k).n≤2∧(bP k).v≤1:=by
 unfold bP
 repeat' split
 all_goals decide
def ka(f:Frm):D:= .tup [.int .i64 f.n,.int .i64 f.v,.bool f.t,.bool f.is]
theorem zW{α:Type}(k m:By)(a b:α):bo (k==m) a b=if k=m then a else b:=by
 by_cases h:k=m
 ·rw[if_pos h,show(k==m)=true by simpa using h,be]
 ·rw[if_neg h,show(k==m)=false by simpa using h,ba]
theorem DM(k:By):bR 121 [SB k] (ka (bP k)):=by
 refine dG cp Tryz.func121 (ord:=O0) (N:=JK) (by kernel_rfl) ((Gd _ _ _ _).trans ?_);rw[Bb (hC:=c1)];simp only[lI];show bo (k==wR) (some (ka ⟨1,0,false,true⟩)) (bo (k==wT) (some (ka ⟨1,0,false,true⟩)) (bo (k==qI) (some (ka ⟨1,0,false,true⟩)) (bo (k==mC) (some (ka ⟨2,0,true,true⟩)) (bo (k==qG) (some (ka ⟨0,0,true,true⟩)) (bo (k==wS) (some (ka ⟨2,1,true,true⟩)) (bo (k==qH) (some (ka ⟨1,1,true,true⟩)) (bo (k==mD) (some (ka ⟨1,1,true,true⟩)) (some (ka ⟨0,0,false,k==s3⟩)))))))))=_;by_cases h1:k=wR
 ·subst h1;rfl
 by_cases h2:k=wT
 ·subst h2;rfl
 by_cases h3:k=qI
 ·subst h3;rfl
 by_cases h4:k=mC
 ·subst h4;rfl
 by_cases h5:k=qG
 ·subst h5;rfl
 by_cases h6:k=wS
 ·subst h6;rfl
 by_cases h7:k=qH
 ·subst h7;rfl
 by_cases h8:k=mD
 ·subst h8;rfl
 by_cases h9:k=s3
 ·subst h9;rfl
 have e9:(k==s3)=false:=by simpa using h9
 simp only[zW,h1,h2,h3,h4,h5,h6,h7,h8,e9,if_false];unfold bP;simp only[h1,h2,h3,h4,h5,h6,h7,h8,h9,if_false]
theorem lJ{α:Type}(k:By)(G:Bool→Int→Int→Bool→α):
  bo (k==wR) (G true 1 0 false) (bo (k==mC) (G true 2 0 true) (bo (k==qG) (G true 0 0 true) (bo (k==wS) (G true 2 1 true) (bo (k==qH) (G true 1 1 true) (bo (k==wT) (G true 1 0 false) (bo (k==mD) (G true 1 1 true) (bo (k==qI) (G true 1 0 false) (bo (k==s3) (G true 0 0 false) (G false 0 0 false)))))))))
   =G (bP k).is ((bP k).n:Int) ((bP k).v:Int) (bP k).t:=by
 by_cases h1:k=wR
 ·subst h1;rfl
 by_cases h2:k=mC
 ·subst h2;rfl
 by_cases h3:k=qG
 ·subst h3;rfl
 by_cases h4:k=wS
 ·subst h4;rfl
 by_cases h5:k=qH
 ·subst h5;rfl
 by_cases h6:k=wT
 ·subst h6;rfl
 by_cases h7:k=mD
 ·subst h7;rfl
 by_cases h8:k=qI
 ·subst h8;rfl
 by_cases h9:k=s3
 ·subst h9;rfl
 unfold bP;simp only[zW,h1,h2,h3,h4,h5,h6,h7,h8,h9,if_false];rfl
structure EvV where
 n:Int
 k:By
 ns:List By
 vs:List Int
 t:By
def gw(f g:Bool)(e:EvV):List D:=[.int .i64 e.n,SB e.k,.slc f e.ns.length (e.ns.map SB),.slc g e.vs.length (b9 e.vs),SB e.t]
structure EvV.Fit(e:EvV):Prop where
 k:e.k.length≤1000
 ns:e.ns.length≤1000
 n1:∀s∈e.ns,s.length≤1000
 vs:e.vs.length≤1000
 t:e.t.length≤1000
def gu(e:EvV):Bool:=decide (e.k.length≤60)&&(decide (e.ns.length≤5)&&(decide (e.vs.length≤5)&&(decide (e.t.length≤300)&&e.ns.all fun s=>decide (s.length≤60))))
theorem Bg{e:EvV}(h:gu e=true):e.Fit:=by
 unfold gu at h;simp only[zc4,zc7,zd7] at h;obtain⟨h1,h2,h3,h4,h5⟩:=h;exact⟨by omega,by omega,fun s hs=>by have:=h5 s hs;omega,by omega,by omega⟩
abbrev kS:=(Bool×Bool)×EvV
abbrev d4(x:kS):List D:=gw x.1.1 x.1.2 x.2
section
variable {γ:Type}(pre:List kS)(x:kS)(r:List kS)
theorem Om(c:D→Option γ):bc ((pre++x::r).flatMap d4) (Int.toNat (pre.length:Int)*5+0) c=c (.int .i64 x.2.n):=bX pre x r d4 5 (fun _=>rfl) 0 (by decide) c
theorem On(c:D→Option γ):bc ((pre++x::r).flatMap d4) (Int.toNat (pre.length:Int)*5+1) c=c (SB x.2.k):=bX pre x r d4 5 (fun _=>rfl) 1 (by decide) c
theorem Oo(c:D→Option γ):bc ((pre++x::r).flatMap d4) (Int.toNat (pre.length:Int)*5+2) c=c (.slc x.1.1 x.2.ns.length (x.2.ns.map SB)):=bX pre x r d4 5 (fun _=>rfl) 2 (by decide) c
theorem Oq(c:D→Option γ):bc ((pre++x::r).flatMap d4) (Int.toNat (pre.length:Int)*5+3) c=c (.slc x.1.2 x.2.vs.length (b9 x.2.vs)):=bX pre x r d4 5 (fun _=>rfl) 3 (by decide) c
theorem Or(c:D→Option γ):bc ((pre++x::r).flatMap d4) (Int.toNat (pre.length:Int)*5+4) c=c (SB x.2.t):=bX pre x r d4 5 (fun _=>rfl) 4 (by decide) c
end
section
variable {γ:Type}(pre:List By)(x:By)(r:List By)
theorem J3(c:D→Option γ):bc ((pre++x::r).map SB) (Int.toNat (pre.length:Int)*1) c=c (SB x):=by
 unfold bc;rw[za3,Nat.mul_one,zc3,zb8 (zb0 _),Nat.sub_self];rfl
theorem J4(p:List Int)(y:Int)(q:List Int)(c:D→Option γ):bc (b9 (p++y::q)) (Int.toNat (p.length:Int)*1) c=c (.int .i64 y):=by
 unfold bc b9;rw[za3,Nat.mul_one,zc3,zb8 (zb0 _),Nat.sub_self];rfl
end
theorem dw{α:Type}(pre:List α)(x:α)(r:List α):pre++[x]++r=pre++x::r:=by simp
end Go.Pd
end
section
namespace Go.Pd
open Go Go.Proofs
def nk:List D:=List.replicate 10 (.bool false)++ .bool true::(List.replicate 24 (.bool false)++ .bool true::List.replicate 220 (.bool false))
def J5:uF:=fun k ds=>match k,ds with
 |245,[.str s]=>if s.data.toList==[10,35] then some (.tup [.agg nk,.bool true]) else none
 |_,_=>none
noncomputable def DN(call:CL)(L:Nat)(C:Nat→Nat):TE:={cv call L C with cst:=J5}
end Go.Pd
end
section
namespace Go.Pd
open Go Go.Proofs
set_option maxRecDepth 100000
def GB:bA:=fun p=>match p with
 |250=>nm [1,45] [6] [6,45]
 |7858=>nm [0,6,8] [45] [6,45]
 |_=>none
noncomputable def kI(h:FuncId→List D→Option D)(L:Nat)(C:Nat→Nat)(n:Nat)(vs:ByteArray)(j:Int):Option D:=
 bY (DN h L C) O0 GB FinM.canon Tryz.f183 (bt 12 1239) [] n (St.mk (D.str vs::jn 5 (D.loc 6 0 0::J::D.int .i64 j::jn 46 [])) (zn 6 ((1,some (Ob.box nk false))::zn 48 [])))
noncomputable def iC(h:FuncId→List D→Option D)(L:Nat)(C:Nat→Nat)(j:Nat)(vs:ByteArray)(q:Nat):Option D:=
 bY (DN h L C) O0 GB FinM.canon Tryz.f183 (bt 7 47) [] j (St.mk (J::D.str (ByteArray.mk #[10,35])::jn 43 (D.loc 45 0 0::jn 9 [])) (zn 45 ((1,some (Ob.sit vs q))::zn 9 [])))
theorem mE(j:FuncId→List D→Option D)(L:Nat)(C:Nat→Nat)(n:Nat)(vs:ByteArray)(h:Int):kI j L C (n+1) vs h=
 (bo (decide (h<((ByteArray.size vs):Int)))
 (bu (decide (0≤h∧Int.toNat h<ByteArray.size vs))
 (bn (j 246 [D.snap nk 0,D.int IntKind.u8 (bB vs (Int.toNat h))]) fun r=>bM r fun q=>bo q
 (some (D.int .i64 h))
 (kI j L C n vs (IntKind.wrap .i64 (h+1)))))
 (some (D.int .i64 (-1)))):=by kernel_rfl
theorem kb(j:FuncId→List D→Option D)(L:Nat)(C:Nat→Nat)(q:Nat)(vs:ByteArray)(h:Nat):iC j L C (q+1) vs h=
 (bo (decide (h<ByteArray.size vs))
 (bn (j 243 [D.str (ByteArray.mk #[10,35]),D.int IntKind.i32 (((Prod.fst (Utf8.decode vs h)):Nat):Int)]) fun r=>bw .i64 r fun x=>bo (decide (x≥0))
 (some (D.int .i64 (h:Int)))
 (iC j L C q vs (h+Prod.snd (Utf8.decode vs h))))
 (some (D.int .i64 (-1)))):=by kernel_rfl
theorem GC(h:FuncId→List D→Option D)(L:Nat)(C:Nat→Nat)(vs:ByteArray):bF (DN h L C) O0 GB FinM.canon Tryz.f183 [D.str vs,D.str (ByteArray.mk #[10,35])]=
 (bn (h 244 [D.int .i64 ((ByteArray.size vs):Int)]) fun r=>bM r fun b=>bo b
 (kI h L C L vs 0)
 (iC h L C L vs 0)):=by kernel_rfl
def rD:bA:=fun p=>match p with
 |13=>nm [0,1,160] [175] [175]
 |882=>nm [175] [] [175]
 |57276=>nm [0,7,8,9] [175] [175]
 |1832841=>nm [0,7,8,9] [175] [175]
 |14662730=>nm [0,7,8,9,12] [175] [175]
 |14663598=>nm [0,7,8,9,14,15] [175] [175]
 |469235145=>nm [0,7,8,9,14,15,139] [175] [175]
 |7507762322=>nm [0,7,8,9,14,15,16] [175] [175]
 |_=>none
noncomputable def qJ(h:FuncId→List D→Option D)(L:Nat)(C:Nat→Nat)(j q:Nat):Option D:=
 bY (cv h L C) O0 rD FinM.canon Tryz.f243 (bt 9 157) [] j (St.mk (jn 175 (D.loc 175 0 0::jn 11 [])) (zn 175 ((1,some (Ob.sit (ByteArray.mk #[10,35]) q))::zn 11 [])))
noncomputable def mF(h:FuncId→List D→Option D)(L:Nat)(C:Nat→Nat)(j:Nat)(z:ByteArray)(r q:Int):Option D:=
 d9 (cv h L C) O0 rD FinM.canon Tryz.f243 (bt 20 597757) [j] (C 1832841) (St.mk (D.str (ByteArray.mk #[10,35])::jn 6 (D.str z::D.int .i64 r::D.int .i64 q::jn 177 [])) (zn 187 []))
noncomputable def qK(h:FuncId→List D→Option D)(L:Nat)(C:Nat→Nat)(j:Nat)(z:ByteArray)(r q:Int):Option D:=
 bY (cv h L C) O0 rD FinM.canon Tryz.f243 (bt 15 7933) [] j (St.mk (D.str (ByteArray.mk #[10,35])::jn 6 (D.str z::D.int .i64 r::D.int .i64 q::jn 177 [])) (zn 187 []))
noncomputable def mG(h:FuncId→List D→Option D)(L:Nat)(C:Nat→Nat)(q:Int)(j:Bool):Option D:=
 d9 (cv h L C) O0 rD FinM.canon Tryz.f243 [true,false,true] [] (C 13) (St.mk (D.str (ByteArray.mk #[10,35])::D.int IntKind.i32 q::jn 158 (D.bool j::jn 26 [])) (zn 187 []))
theorem ke(j:FuncId→List D→Option D)(L:Nat)(C:Nat→Nat)(q h:Nat):qJ j L C (q+1) h=
 (bo (decide (h<2))
 (bo ((((Prod.fst (Utf8.decode (ByteArray.mk #[10,35]) h)):Nat):Int)==65533)
 (some (D.int .i64 (h:Int)))
 (qJ j L C q (h+Prod.snd (Utf8.decode (ByteArray.mk #[10,35]) h))))
 (some (D.int .i64 (-1)))):=by kernel_rfl
theorem rE(r:FuncId→List D→Option D)(L:Nat)(C:Nat→Nat)(z:Nat)(q:ByteArray)(j h:Int):qK r L C (z+1) q j h=
 (bo (decide (h<(2:Int)))
 (bu (decide (0≤h∧Int.toNat h<2))
 (bu (decide (0≤j∧Int.toNat j<ByteArray.size q))
 (bo (bB (ByteArray.mk #[10,35]) (Int.toNat h) !=bB q (Int.toNat j))
 (bu (decide (0≤IntKind.wrap .i64 (h+1)∧IntKind.wrap .i64 (h+1)≤(2:Int)∧(2:Int)≤(2:Int)))
 (bu (decide (0≤j∧Int.toNat j<ByteArray.size q))
 (bn (r 295 [D.str (ByteArray.extract (ByteArray.mk #[10,35]) (Int.toNat (IntKind.wrap .i64 (h+1))) 2),D.int IntKind.u8 (bB q (Int.toNat j))]) fun K=>bw .i64 K fun J=>bo (decide (J<0))
 (some (D.int .i64 (-1)))
 (mF r L C z q j (IntKind.wrap .i64 (h+IntKind.wrap .i64 (J+1)))))))
 (mF r L C z q j h))))
 (some (D.int .i64 (-1)))):=by kernel_rfl
theorem jl(j:FuncId→List D→Option D)(L:Nat)(C:Nat→Nat)(h:Int)(q:Bool)(hC:∀t,C t=1):mG j L C h q=
 (bo q
 (bn (j 295 [D.str (ByteArray.mk #[10,35]),D.int IntKind.u8 (IntKind.wrap IntKind.u8 h)]) fun r=>bw .i64 r fun x=>some (D.int .i64 x))
 (bo (h==65533)
 (qJ j L C L 0)
 (bn (j 296 [D.int IntKind.i32 h]) fun z=>bM z fun b=>bo (!b)
 (some (D.int .i64 (-1)))
 (qK j L C L (Utf8.encode h) (IntKind.wrap .i64 (((ByteArray.size (Utf8.encode h)):Int)-1)) (IntKind.wrap .i64 (((ByteArray.size (Utf8.encode h)):Int)-1)))))):=by
 unfold mG;rw[hC]
 kernel_rfl
theorem zX(j:FuncId→List D→Option D)(L:Nat)(C:Nat→Nat)(h:Int):bF (cv j L C) O0 rD FinM.canon Tryz.f243 [D.str (ByteArray.mk #[10,35]),D.int IntKind.i32 h]=
 (bo (decide (0≤h))
 (mG j L C h (decide (h<128)))
 (mG j L C h false)):=by kernel_rfl
theorem GD(j:FuncId→List D→Option D)(L:Nat)(C:Nat→Nat)(h:List D)(vc:Int):bF (cv j L C) O0 N0 FinM.canon Tryz.f246 [D.snap h 0,D.int IntKind.u8 vc]=
 (bu (decide (0≤vc∧vc<(256:Int)))
 (bc h (0+Int.toNat vc*1) fun d=>bM d fun b=>some (D.bool b))):=by kernel_rfl
theorem GE(h:FuncId→List D→Option D)(L:Nat)(C:Nat→Nat)(vs:ByteArray)(vc:Int):bF (cv h L C) O0 N0 FinM.canon Tryz.f295 [D.str vs,D.int IntKind.u8 vc]=
 (bn (h 306 [D.str vs,D.int IntKind.u8 vc]) fun r=>bw .i64 r fun x=>some (D.int .i64 x)):=by kernel_rfl
theorem GF(j:FuncId→List D→Option D)(L:Nat)(C:Nat→Nat)(h:Int):bF (cv j L C) O0 N0 FinM.canon Tryz.f296 [D.int IntKind.i32 h]=
 (bo (decide (0≤h))
 (bo (decide (h<55296))
 (some (D.bool true))
 (bo (decide (57343<h))
 (bo (decide (h≤1114111))
 (some (D.bool true))
 (some (D.bool false)))
 (some (D.bool false))))
 (bo (decide (57343<h))
 (bo (decide (h≤1114111))
 (some (D.bool true))
 (some (D.bool false)))
 (some (D.bool false)))):=by kernel_rfl
theorem GG(j:FuncId→List D→Option D)(L:Nat)(C:Nat→Nat)(h:Int):bF (cv j L C) O0 N0 FinM.canon Tryz.f244 [D.int .i64 h]=
 (some (D.bool (decide (h>8)))):=by kernel_rfl
end Go.Pd
end
section
namespace Go.Pd
open Go Go.Proofs Go.RowKit Go.Shelf
set_option maxRecDepth 100000
def fZ(c:UInt8):Bool:=c==10||c==35
def nl:By→Nat→Int
 |[],_=> -1
 |c::r,i=>bo (fZ c) (i:Int) (nl r (i+1))
theorem s4(c:UInt8)(r:By)(i:Nat):nl (c::r) i=bo (fZ c) (i:Int) (nl r (i+1)):=rfl
theorem zY:∀(l:By) (i:Nat),decide (nl l i≥0)=l.any fZ
 |[],_=>rfl
 |c::r,i=>by
  rw[List.any_cons];rw[s4];cases fZ c with
  |true=>rw[be,Bool.true_or];exact za1 (by omega)
  |false=>rw[ba,Bool.false_or];exact zY r (i+1)
theorem s5:∀(t u:By) (i:Nat),(∀x∈t,128≤x.toNat)→nl (t++u) i=nl u (i+t.length)
 |[],_,_,_=>rfl
 |c::t,u,i,h=>by
  have hc:=h c (za4 ..);have e:fZ c=false:=by
   unfold fZ;rw[zc9,beq_eq_false_iff_ne,beq_eq_false_iff_ne];exact⟨fun e=>by subst e;revert hc;decide,fun e=>by subst e;revert hc;decide⟩
  rw[List.cons_append,nl,e,ba,s5 t u (i+1) fun x hx=>h x (za5 _ hx),za7]
  congr 1
  omega
theorem qL(l:By)(i:Nat):(bs l).get! i=l.getD i 0:=by
 show((bs l).data[i]!)=_;rw[getElem!_def];simp only[bs,List.getD];rw[show l.toArray[i]?=l[i]? by simp];cases l[i]?<;>rfl
def J6(b0 b1 b2 b3 i n:Nat):Nat×Nat:=
 if b0<0x80 then(b0,1)
 else if b0/32==6&&(decide (i+1<n)&&b1/64==2) then
  if b0%32*64+b1%64≥0x80 then(b0%32*64+b1%64,2) else(Utf8.runeError,1)
 else if b0/16==14&&(decide (i+1<n)&&b1/64==2)&&(decide (i+2<n)&&b2/64==2) then
  if decide (b0%16*4096+b1%64*64+b2%64≥0x800)&&Utf8.valid ((b0%16*4096+b1%64*64+b2%64:Nat):Int) then(b0%16*4096+b1%64*64+b2%64,3) else(Utf8.runeError,1)
 else if b0/8==30&&(decide (i+1<n)&&b1/64==2)&&(decide (i+2<n)&&b2/64==2)&&(decide (i+3<n)&&b3/64==2) then
  if decide (b0%8*262144+b1%64*4096+b2%64*64+b3%64≥0x10000)&&Utf8.valid ((b0%8*262144+b1%64*4096+b2%64*64+b3%64:Nat):Int) then(b0%8*262144+b1%64*4096+b2%64*64+b3%64,4) else(Utf8.runeError,1)
 else(Utf8.runeError,1)
theorem HB(s:ByteArray)(i:Nat):Utf8.decode s i=J6 (s.get! (i+0)).toNat (s.get! (i+1)).toNat (s.get! (i+2)).toNat (s.get! (i+3)).toNat i s.size:=rfl
theorem mH(pre r:By)(k:Nat):(pre++r).getD (pre.length+k) 0=r.getD k 0:=by
 simp[List.getD,zb8]
theorem GH(pre:By)(c:UInt8)(r:By)(h:c.toNat<128):Utf8.decode (bs (pre++c::r)) pre.length=(c.toNat,1):=by
 have e:=mH pre (c::r) 0;rw[HB,qL,e];unfold J6;exact if_pos h
theorem DO(pre:By)(c:UInt8)(r:By)(h:128≤c.toNat):∃ru t u,Utf8.decode (bs (pre++c::r)) pre.length=(ru,t.length)∧128≤ru∧ru≤1114111∧c::r=t++u∧(∀x∈t,128≤x.toNat)∧t≠[]:=by
 have e0:=mH pre (c::r) 0;have e1:=mH pre (c::r) 1;have e2:=mH pre (c::r) 2;have e3:=mH pre (c::r) 3;have hs:(bs (pre++c::r)).size=pre.length+(r.length+1):=by rw[bm];simp
 have one:∀ru,ru=Utf8.runeError→∃ru' t u,(ru,1)=(ru',t.length)∧128≤ru'∧ru'≤1114111∧c::r=t++u∧(∀x∈t,128≤x.toNat)∧t≠[]:=fun ru e=>⟨ru,[c],r,rfl,by rw[e];decide,by rw[e];decide,rfl,fun x hx=>by rw[zd1.1 hx];exact h,by simp⟩;have Hc:∀(ru:Nat) (x:UInt8) (r':By),128≤ru→ru≤1114111→r=x::r'→128≤x.toNat→∃ru' t u,(ru,2)=(ru',t.length)∧128≤ru'∧ru'≤1114111∧c::r=t++u∧(∀x∈t,128≤x.toNat)∧t≠[]:=fun ru x r' h1 h2 hr hx=>⟨ru,[c,x],r',rfl,h1,h2,by rw[hr];rfl,fun y hy=>by
  simp only[List.mem_cons,List.not_mem_nil,or_false] at hy;rcases hy with rfl|rfl
  ·exact h
  ·exact hx,by simp⟩
 have G2:∀(ru:Nat) (x y:UInt8) (r':By),128≤ru→ru≤1114111→r=x::y::r'→128≤x.toNat→128≤y.toNat→∃ru' t u,(ru,3)=(ru',t.length)∧128≤ru'∧ru'≤1114111∧c::r=t++u∧(∀x∈t,128≤x.toNat)∧t≠[]:=fun ru x y r' h1 h2 hr hx hy=>⟨ru,[c,x,y],r',rfl,h1,h2,by rw[hr];rfl,fun z hz=>by
  simp only[List.mem_cons,List.not_mem_nil,or_false] at hz;rcases hz with rfl|rfl|rfl
  ·exact h
  ·exact hx
  ·exact hy,by simp⟩
 have four:∀(ru:Nat) (x y v:UInt8) (r':By),128≤ru→ru≤1114111→r=x::y::v::r'→128≤x.toNat→128≤y.toNat→128≤v.toNat→∃ru' t u,(ru,4)=(ru',t.length)∧128≤ru'∧ru'≤1114111∧c::r=t++u∧(∀x∈t,128≤x.toNat)∧t≠[]:=fun ru x y v r' h1 h2 hr hx hy hv=>⟨ru,[c,x,y,v],r',rfl,h1,h2,by rw[hr];rfl,fun z hz=>by
  simp only[List.mem_cons,List.not_mem_nil,or_false] at hz;rcases hz with rfl|rfl|rfl|rfl
  ·exact h
  ·exact hx
  ·exact hy
  ·exact hv,by simp⟩
 have hr1:∀k,k<r.length→∃x,r[k]?=some x∧(c::r).getD (k+1) 0=x:=fun k hk=>⟨r[k],zd2 hk,by simp[List.getD,zd2 hk]⟩;rw[HB,qL,qL,qL,qL,e0,e1,e2,e3,hs,show(c::r).getD 0 0=c from rfl];unfold J6;rw[if_neg (by omega)];split
 ·rename_i hc;simp only[zc4,zc7,ze4] at hc;obtain⟨x,hx,hx2⟩:=hr1 0 (by omega);rw[hx2] at hc ⊢;have hl:=x.toNat_lt;split
  ·cases r with
   |nil=>cases hx
   |cons y r'=>
    cases hx;exact Hc _ x r' (by omega) (by omega) rfl (by omega)
  ·exact one _ rfl
 ·split
  ·rename_i hc;simp only[zc4,zc7,ze4] at hc;obtain⟨x,hx,hx2⟩:=hr1 0 (by omega);obtain⟨y,hy,hy2⟩:=hr1 1 (by omega);rw[hx2,hy2] at hc ⊢;have hl:=x.toNat_lt;have hl:=y.toNat_lt;split
   ·rename_i h3;obtain⟨r',e⟩:∃r',r=x::y::r':=by
     match r,hx,hy with
     |a::b::r',hx,hy=>cases hx;cases hy;exact⟨r',rfl⟩
    simp only[zc4,zc7] at h3;exact G2 _ x y r' (by omega) (by omega) e (by omega) (by omega)
   ·exact one _ rfl
  ·split
   ·rename_i hc;simp only[zc4,zc7,ze4] at hc;obtain⟨x,hx,hx2⟩:=hr1 0 (by omega);obtain⟨y,hy,hy2⟩:=hr1 1 (by omega);obtain⟨v,hv,hv2⟩:=hr1 2 (by omega);rw[hx2,hy2,hv2] at hc ⊢;split
    ·rename_i h3;obtain⟨r',e⟩:∃r',r=x::y::v::r':=by
      match r,hx,hy,hv with
      |a::b::d::r',hx,hy,hv=>cases hx;cases hy;cases hv;exact⟨r',rfl⟩
     simp only[zc4,zc7] at h3;refine four _ x y v r' (by omega) ?_ e (by omega) (by omega) (by omega);have:=h3.2;unfold Utf8.valid at this;simp only[Bool.or_eq_true,zc4,zc7] at this;omega
    ·exact one _ rfl
   ·exact one _ rfl
theorem DP(r:Nat)(h:128≤r)(hv:Utf8.valid (r:Int)=true):∃(l:By) (x:UInt8),Utf8.encode (r:Int)=bs (l++[x])∧1≤l.length∧l.length≤3∧128≤x.toNat:=by
 have hx:128≤(UInt8.ofNat (0x80+r%64)).toNat:=by
  rw[UInt8.toNat_ofNat'];omega
 unfold Utf8.encode;rw[hv];dsimp only;rw[if_pos rfl,za3,if_neg (by omega)];split
 ·exact⟨[_],_,rfl,by simp,by simp,hx⟩
 ·split
  ·exact⟨[_,_],_,rfl,by simp,by simp,hx⟩
  ·exact⟨[_,_,_],_,rfl,by simp,by simp,hx⟩
theorem J7:∀c:UInt8,nk[c.toNat]?=some (.bool (fZ c)):=by
 have h:∀n:Fin 256,(match nk[n.1]? with|some (.bool b)=>b==fZ (UInt8.ofNat n.1)|_=>false)=true:=by decide+kernel
 intro c;have:=h ⟨c.toNat,c.toNat_lt⟩;simp only[UInt8.ofNat_toNat] at this;split at this
 ·rename_i b hb;rw[show c.toNat=(⟨c.toNat,c.toNat_lt⟩:Fin 256).1 from rfl,hb,ze4.1 this]
 ·cases this
theorem Nd(c:UInt8):bR 246 [.snap nk 0,.int .u8 (c.toNat:Int)] (.bool (fZ c)):=by
 refine dG cp Tryz.func246 (ord:=O0) (N:=N0) (by kernel_rfl) ((GD _ _ _ _ _).trans ?_);have:=c.toNat_lt;rw[za1 ⟨by omega,by omega⟩,bh,za3,Nat.mul_one,Nat.zero_add];unfold bc;rw[J7];rfl
theorem HC(l:By)(c:UInt8):bR 295 [SB l,.int .u8 (c.toNat:Int)] (.int .i64 (Lib.indexByte l c)):=by
 obtain⟨B,hB,e1,_⟩:=eL [one 306 [SB l,.int .u8 (c.toNat:Int)] (.int .i64 (Lib.indexByte l c))] ⟨bg (G6 l c),trivial⟩ rfl;exact dG hB Tryz.func295 (ord:=O0) (N:=N0) (by kernel_rfl) ((GE _ _ _ _ _).trans (ct (e1 ()) rfl))
def rF:By:=[10,35]
theorem J8(c:UInt8)(h:c.toNat<128):bR 243 [SB rF,.int .i32 (c.toNat:Int)] (.int .i64 (Lib.indexByte rF c)):=by
 obtain⟨B,hB,e1,_⟩:=eL [one 295 [SB rF,.int .u8 (c.toNat:Int)] (.int .i64 (Lib.indexByte rF c))] ⟨bg (HC rF c),trivial⟩ rfl;have g1:B 295 [.str (ByteArray.mk #[10,35]),.int .u8 (c.toNat:Int)]=some (.int .i64 (Lib.indexByte rF c)):=e1 ();refine dG hB Tryz.func243 (ord:=O0) (N:=rD) (by kernel_rfl) ((zX _ _ _ _).trans ?_);rw[za1 (by omega),be,za1 (show(c.toNat:Int)<128 by omega),jl (hC:=c1),be,show IntKind.wrap .u8 (c.toNat:Int)=(c.toNat:Int) by(show(c.toNat:Int)%256=_;have:=c.toNat_lt;omega),g1];rfl
theorem J9(r:Nat)(h:128≤r)(h2:r≤1114111):bR 243 [SB rF,.int .i32 (r:Int)] (.int .i64 (-1)):=by
 obtain⟨m,hm⟩:∃m,LL=m+3:=⟨4611686018427387901,rfl⟩;have start:∀B:FuncId→List D→Option D,mG B LL C1 (r:Int) false=some (.int .i64 (-1))→bF (cv B LL C1) O0 rD .canon Tryz.f243 [SB rF,.int .i32 (r:Int)]=some (.int .i64 (-1)):=fun B hx=>by
  refine(zX _ _ _ _).trans ?_;rw[za1 (by omega),be,za2 (show¬(r:Int)<128 by omega)];exact hx
 by_cases he:r=65533
 ·refine dG cp Tryz.func243 (ord:=O0) (N:=rD) (by kernel_rfl) (start _ ?_);have d0:Utf8.decode (ByteArray.mk #[10,35]) 0=(10,1):=by decide+kernel
  have d1:Utf8.decode (ByteArray.mk #[10,35]) (0+1)=(35,1):=by decide+kernel
  rw[jl (hC:=c1),ba,show((r:Int)==65533)=true by(rw[he];rfl),be,hm,ke,d0,ke,d1,ke];rfl
 ·have o296:bR 296 [.int .i32 (r:Int)] (.bool (Utf8.valid (r:Int))):=by
   refine dG cp Tryz.func296 (ord:=O0) (N:=N0) (by kernel_rfl) ((GF _ _ _ _).trans ?_);unfold Utf8.valid;rw[za1 (show(0:Int)≤(r:Int) by omega),za1 (show(r:Int)≤1114111 by omega),be,be];by_cases h3:r<55296
   ·rw[za1 (show(r:Int)<55296 by omega),be];rfl
   ·rw[za2 (show¬(r:Int)<55296 by omega),ba,Bool.and_false,Bool.false_or,Bool.and_true];by_cases h4:57343<r
    ·rw[za1 (show(57343:Int)<(r:Int) by omega),za1 (show(57344:Int)≤(r:Int) by omega)];rfl
    ·rw[za2 (show¬(57343:Int)<(r:Int) by omega),za2 (show¬(57344:Int)≤(r:Int) by omega)];rfl
  cases hv:Utf8.valid (r:Int) with
  |false=>
   rw[hv] at o296;obtain⟨B,hB,e1,_⟩:=eL [one 296 [.int .i32 (r:Int)] (.bool false)] ⟨bg o296,trivial⟩ rfl;have g1:B 296 [.int .i32 (r:Int)]=some (.bool false):=e1 ();refine dG hB Tryz.func243 (ord:=O0) (N:=rD) (by kernel_rfl) (start _ ?_);rw[jl (hC:=c1),ba,show((r:Int)==65533)=false by(rw[beq_eq_false_iff_ne];omega),ba,g1,bf,bD,Bool.not_false,be]
  |true=>
   rw[hv] at o296;obtain⟨l,x,e,hl1,hl2,hx⟩:=DP r h hv;have hxl:=x.toNat_lt;obtain⟨B,hB,e1,e2,_⟩:=eL [one 296 [.int .i32 (r:Int)] (.bool true),one 295 [SB [],.int .u8 (x.toNat:Int)] (.int .i64 (-1))] ⟨bg o296,bg (HC [] x),trivial⟩ rfl;have g1:B 296 [.int .i32 (r:Int)]=some (.bool true):=e1 ();have g2:B 295 [.str (bs []),.int .u8 (x.toNat:Int)]=some (.int .i64 (-1)):=e2 ();refine dG hB Tryz.func243 (ord:=O0) (N:=rD) (by kernel_rfl) (start _ ?_);have hsz:(bs (l++[x])).size=l.length+1:=by rw[bm];simp
   have hat:bB (bs (l++[x])) l.length=(x.toNat:Int):=lb (by simp);rw[jl (hC:=c1),ba,show((r:Int)==65533)=false by(rw[beq_eq_false_iff_ne];omega),ba,g1,bf,bD,Bool.not_true,ba,e,hsz,bS (by omega),show(((l.length+1:Nat):Int)-1)=(l.length:Int) by omega,hm,rE];by_cases h1:l.length=1
   ·rw[za1 (show(l.length:Int)<2 by omega),be,za1 (by omega),bh,za3,hsz,za1 (by omega),bh,hat,h1,
     show bB (ByteArray.mk #[10,35]) 1=35 from rfl,show((35:Int) !=(x.toNat:Int))=true by(rw[ze5];omega),be,show IntKind.wrap .i64 (((1:Nat):Int)+1)=2 from rfl]
    show bu _ (bu _ (bn (B 295 [.str (ByteArray.extract (ByteArray.mk #[10,35]) 2 2),.int .u8 (x.toNat:Int)]) _))=_;rw[show ByteArray.extract (ByteArray.mk #[10,35]) 2 2=bs [] from rfl,g2];rfl
   ·rw[za2 (show¬(l.length:Int)<2 by omega),ba]
structure NlB(B:FuncId→List D→Option D):Prop where
 h246:∀c:UInt8,B 246 [.snap nk 0,.int .u8 (c.toNat:Int)]=some (.bool (fZ c))
theorem Ka{B:FuncId→List D→Option D}(hB:NlB B):∀(r pre:By) (fuel:Nat),(pre++r).length≤1000000→r.length<fuel→kI B LL C1 fuel (bs (pre++r)) (pre.length:Int)=some (.int .i64 (nl r pre.length)):=by
 intro r
 induction r with
 |nil=>
  intro pre fuel hl hf;obtain⟨fuel,rfl⟩:=bx hf;rw[mE,bm,zb6,ng,ba];rfl
 |cons c r ih=>
  intro pre fuel hl hf;obtain⟨fuel,rfl⟩:=bx hf;have ih:=ih (pre++[c]) fuel (by rw[←hU];exact hl) (by simp at hf;omega);rw[←hU] at ih;rw[mE,bm,zO,be,zP,bh,wM,hB.h246,bf,bD,zQ _ _ _ hl,ih];unfold nl;cases fZ c with
  |true=>rfl
  |false=>
   rw[ba,ba,za6,zb4];cases r<;>rfl
theorem Kb(pre r:By)(B:FuncId→List D→Option D)(h243:∀ru:Nat,(128≤ru∧ru≤1114111→B 243 [SB rF,.int .i32 (ru:Int)]=some (.int .i64 (-1)))∧∀c:UInt8,c.toNat=ru→ru<128→∃x,B 243 [SB rF,.int .i32 (ru:Int)]=some (.int .i64 x)∧decide (x≥0)=fZ c):
  ∀(n:Nat) (fuel:Nat),r.length≤n→r.length<fuel→iC B LL C1 fuel (bs (pre++r)) pre.length=some (.int .i64 (nl r pre.length)):=by
 intro n
 induction n generalizing pre r with
 |zero=>
  intro fuel hn hf;obtain⟨fuel,rfl⟩:=bx hf;have hr:r=[]:=List.eq_nil_of_length_eq_zero (by omega);subst hr;rw[kb,bm,zb6,za2 (zc8 _),ba];rfl
 |succ n ih=>
  intro fuel hn hf;obtain⟨fuel,rfl⟩:=bx hf;cases r with
  |nil=>
   rw[kb,bm,zb6,za2 (zc8 _),ba];rfl
  |cons c r=>
   simp only[za7] at hn hf;rw[kb,bm,za1 (by simp),be];by_cases hc:c.toNat<128
   ·obtain⟨x,hx,hx2⟩:=(h243 c.toNat).2 c rfl hc;have hx:B 243 [.str (ByteArray.mk #[10,35]),.int .i32 (c.toNat:Int)]=some (.int .i64 x):=hx;have ih:=ih (pre++[c]) r fuel (by omega) (by omega);rw[←hU,za6,zb4] at ih;rw[GH pre c r hc];show bn (B 243 [.str (ByteArray.mk #[10,35]),.int .i32 (c.toNat:Int)]) _=_;rw[hx,bf,bp,hx2,s4];show bo _ _ (iC B LL C1 fuel _ (pre.length+1))=_;rw[ih];cases fZ c with
    |true=>rfl
    |false=>rfl
   ·obtain⟨ru,t,u,h1,h2,h3,h4,h5,h6⟩:=DO pre c r (by omega);have hx:B 243 [.str (ByteArray.mk #[10,35]),.int .i32 (ru:Int)]=some (.int .i64 (-1)):=(h243 ru).1 ⟨h2,h3⟩;have htl:0<t.length:=List.length_pos_iff.2 h6;have hlen:(c::r).length=t.length+u.length:=by rw[h4,za6]
    simp only[za7] at hlen;have ih:=ih (pre++t) u fuel (by omega) (by omega);rw[za8,←h4,za6] at ih;rw[h1];show bn (B 243 [.str (ByteArray.mk #[10,35]),.int .i32 (ru:Int)]) _=_;rw[hx,bf,bp,za2 (by decide),ba];show iC B LL C1 fuel _ (pre.length+t.length)=_;rw[ih,h4,s5 t u pre.length h5]
def RnI:Type:={c:UInt8//c.toNat<128} ⊕ {r:Nat//128≤r∧r≤1114111}
def RnI.n:RnI→Nat
 | .inl c=>c.1.toNat
 | .inr r=>r.1
def RnI.x:RnI→Int
 | .inl c=>Lib.indexByte rF c.1
 | .inr _=> -1
theorem RnI.ext{i j:RnI}(h:i.n=j.n):i=j:=by
 rcases i with⟨c,hc⟩|⟨r,h1,h2⟩<;>rcases j with⟨d,hd⟩|⟨s,h3,h4⟩
 ·have e:c=d:=UInt8.toNat_inj.1 h;subst e;rfl
 ·have h:c.toNat=s:=h;omega
 ·have h:r=d.toNat:=h;omega
 ·have h:r=s:=h;subst h;rfl
def fa243:Fam:=⟨243,RnI,fun i=>[SB rF,.int .i32 (i.n:Int)],fun i=> .int .i64 i.x⟩
theorem Nf(c:UInt8):decide (Lib.indexByte rF c≥0)=fZ c:=by
 have h:∀n:Fin 256,decide (Lib.indexByte rF (UInt8.ofNat n.1)≥0)=fZ (UInt8.ofNat n.1):=by decide+kernel
 have:=h ⟨c.toNat,c.toNat_lt⟩;simpa using this
theorem yF:fa243.Good:=by
 refine⟨fun i=> ?_,fun i j e=> ?_⟩
 ·rcases i with⟨c,hc⟩|⟨r,h1,h2⟩
  ·exact J8 c hc
  ·exact J9 r h1 h2
 ·have e:[SB rF,D.int .i32 (i.n:Int)]=[SB rF,.int .i32 (j.n:Int)]:=e;injection e with _ e
  injection e with e _
  injection e with _ e
  rw[RnI.ext (Int.ofNat.inj e)]
def fa246:Fam:=⟨246,UInt8,fun c=>[.snap nk 0,.int .u8 (c.toNat:Int)],fun c=> .bool (fZ c)⟩
theorem yG:fa246.Good:=by
 refine⟨Nd,fun i j e=> ?_⟩;have e:[D.snap nk 0,D.int .u8 (i.toNat:Int)]=[.snap nk 0,.int .u8 (j.toNat:Int)]:=e;injection e with _ e
 injection e with e _
 injection e with _ e
 rw[UInt8.toNat_inj.1 (Int.ofNat.inj e)]
theorem Ng(l:By)(hl:l.length≤1000000):bR 183 [SB l,SB rF] (.int .i64 (nl l 0)):=by
 have o244:bR 244 [.int .i64 (l.length:Int)] (.bool (decide ((l.length:Int)>8))):=dG cp Tryz.func244 (ord:=O0) (N:=N0) (by kernel_rfl) (GG _ _ _ _);have o245:bR 245 [.str (ByteArray.mk #[10,35])] (.tup [.agg nk,.bool true]):=dE (by kernel_rfl);obtain⟨B,hB,e1,e2,e3,e4,_⟩:=eL [one 244 [.int .i64 (l.length:Int)] (.bool (decide ((l.length:Int)>8))),one 245 [.str (ByteArray.mk #[10,35])] (.tup [.agg nk,.bool true]),fa243,fa246] ⟨bg o244,bg o245,yF,yG,trivial⟩ rfl;have e1:B 244 [.int .i64 (l.length:Int)]=some (.bool (decide ((l.length:Int)>8))):=e1 ();have e2:B 245 [.str (ByteArray.mk #[10,35])]=some (.tup [.agg nk,.bool true]):=e2 ();have he:EnvOK (DN B LL C1).E:=⟨pA hB,(fun _ _ h=>nomatch h),(fun _ _ _ h=>nomatch h),(fun _ _ hi=>nomatch hi)⟩;refine eY (Te:=DN B LL C1) fk he (fun k ds r hc=> ?_) rfl (fun _ _ _ h=>by cases h) Tryz.func183 (by simp) (ord:=O0) (N:=GB) (by kernel_rfl) ((GC B LL C1 (bs l)).trans ?_)
 ·have hc:J5 k ds=some r:=hc;unfold J5 at hc;split at hc
  ·rename_i s _;by_cases hs:(s.data.toList==[10,35])=true
   ·rw[if_pos hs] at hc;have h2:=ze4.1 hs;have e:s=ByteArray.mk #[10,35]:=by
     cases s with
     |mk d=>exact congrArg ByteArray.mk (Array.toList_inj.1 h2)
    rw[e,←Option.some.inj hc];exact e2
   ·rw[if_neg hs] at hc;cases hc
  ·cases hc
 ·rw[bm,e1,bf,bD];cases hd:decide ((l.length:Int)>8) with
  |true=>
   rw[be];exact Ka ⟨fun c=>e4 c⟩ l [] LL (by rw[zb7];exact hl) (by unfold LL;omega)
  |false=>
   rw[ba];exact Kb [] l B (fun ru=>⟨fun h=>e3 (.inr ⟨ru,h⟩),fun c hc h=>⟨_,by subst hc;exact e3 (.inl ⟨c,h⟩),Nf c⟩⟩) l.length LL (zb0 _) (by unfold LL;omega)
theorem Nh(l:By)(hl:l.length≤1000000):bR 120 [SB l,SB rF] (.bool (l.any fZ)):=by
 obtain⟨B,hB,e1,_⟩:=eL [one 183 [SB l,SB rF] (.int .i64 (nl l 0))] ⟨bg (Ng l hl),trivial⟩ rfl;have e1:B 183 [.str (bs l),.str (bs rF)]=some (.int .i64 (nl l 0)):=e1 ();refine dG hB Tryz.func120 (ord:=O0) (N:=N0) (by kernel_rfl) ((Gt _ _ _ _ _).trans ?_);rw[e1,bf,bp,zY]
def oh{α:Type}(p:α→Bool):List α→Nat→Int
 |[],_=> -1
 |c::r,i=>bo (p c) (i:Int) (oh p r (i+1))
theorem nn{α:Type}(p:α→Bool)(c:α)(r:List α)(i:Nat):oh p (c::r) i=bo (p c) (i:Int) (oh p r (i+1)):=rfl
theorem uv{α:Type}(p:α→Bool):∀(l:List α) (i:Nat),decide (oh p l i≥0)=l.any p
 |[],_=>rfl
 |c::r,i=>by
  rw[List.any_cons,nn];cases p c with
  |true=>rw[be,Bool.true_or];exact za1 (by omega)
  |false=>rw[ba,Bool.false_or];exact uv p r (i+1)
def jA(s:By):Bool:= !iz (bs s)
def jm(n:Int):Bool:=rt n 0 999999999
theorem Ni(s:By)(hs:s.length≤1000000):bR 115 [SB s] (.bool (jA s)):=by
 obtain⟨B,hB,e1,_⟩:=eL [one 111 [SB s] (.bool (iz (bs s)))] ⟨bg (MB (bs s) (by rw[bm];omega)),trivial⟩ rfl;have e1:B 111 [.str (bs s)]=some (.bool (iz (bs s))):=e1 ();refine dG hB Tryz.func115 (ord:=O0) (N:=N0) (by kernel_rfl) ((Gm _ _ _ _).trans ?_);rw[e1];rfl
theorem Nj(n:Int):bR 117 [.int .i64 n] (.bool (jm n)):=by
 obtain⟨B,hB,e1,_⟩:=eL [one 118 [.int .i64 n,.int .i64 0,.int .i64 999999999] (.bool (jm n))] ⟨bg (Hn n 0 999999999),trivial⟩ rfl;have e1:B 118 [.int .i64 n,.int .i64 0,.int .i64 999999999]=some (.bool (jm n)):=e1 ();refine dG hB Tryz.func117 (ord:=O0) (N:=N0) (by kernel_rfl) ((Gn _ _ _ _).trans ?_);rw[e1];rfl
def fa115:Fam:=DL 115 (fun l=>l.length≤1000000) fun l=> .bool (jA l)
theorem yH:fa115.Good:=kH Ni
def fa117:Fam:=HA 117 (fun _=>True) fun n=> .bool (jm n)
theorem yI:fa117.Good:=yE fun n _=>Nj n
theorem Nk{B:FuncId→List D→Option D}{f:Bool}(hB:∀s:By,s.length≤1000000→B 115 [SB s]=some (.bool (jA s))):∀(r pre:List By) (fuel:Nat),(pre++r).length≤1000→(∀s∈r,s.length≤1000000)→r.length<fuel→
  oR B LL C1 fuel f (pre++r).length ((pre++r).map SB) ((pre++r).length:Int) (pre.length:Int)=some (.int .i64 (oh jA r pre.length)):=by
 intro r
 induction r with
 |nil=>
  intro pre fuel hl h1 hf;obtain⟨fuel,rfl⟩:=bx hf;rw[qD,dI,ba];rfl
 |cons c r ih=>
  intro pre fuel hl h1 hf;obtain⟨fuel,rfl⟩:=bx hf;have ih:=ih (pre++[c]) fuel (by rw[dw];exact hl) (fun s hs=>h1 s (za5 _ hs)) (by simp at hf;omega);rw[dw] at ih;rw[qD,eF,be,eh,bh,J3];show bn (B 115 [SB c]) _=_;rw[hB c (h1 c (za4 ..)),bf,bD,cX pre c r (by omega),ih,nn,za6,zb4];cases jA c<;>rfl
theorem Nl{B:FuncId→List D→Option D}{f:Bool}(hB:∀n:Int,B 117 [.int .i64 n]=some (.bool (jm n))):∀(r pre:List Int) (fuel:Nat),(pre++r).length≤1000→r.length<fuel→
  oS B LL C1 fuel f (pre++r).length (b9 (pre++r)) ((pre++r).length:Int) (pre.length:Int)=some (.int .i64 (oh jm r pre.length)):=by
 intro r
 induction r with
 |nil=>
  intro pre fuel hl hf;obtain⟨fuel,rfl⟩:=bx hf;rw[qE,dI,ba];rfl
 |cons c r ih=>
  intro pre fuel hl hf;obtain⟨fuel,rfl⟩:=bx hf;have ih:=ih (pre++[c]) fuel (by rw[dw];exact hl) (by simp at hf;omega);rw[dw] at ih;rw[qE,eF,be,eh,bh,J4,bp,hB,bf,bD,cX pre c r (by omega),ih,nn,za6,zb4];cases jm c<;>rfl
theorem Nm(f:Bool)(l:List By)(hl:l.length≤1000)(h1:∀s∈l,s.length≤1000000):bR 114 [.slc f l.length (l.map SB),.fn (.func 115) [] []] (.bool (l.any jA)):=by
 have o181:bR 181 [.slc f l.length (l.map SB),.fn (.func 115) [] []] (.int .i64 (oh jA l 0)):=by
  obtain⟨B,hB,e1,_⟩:=eL [fa115] ⟨yH,trivial⟩ rfl;exact dG hB Tryz.func181 (ord:=O0) (N:=JS) (by kernel_rfl) ((Gr _ _ _ _ _ _).trans (Nk (fun s hs=>e1 ⟨s,hs⟩) l [] LL hl h1 (by unfold LL;omega)))
 obtain⟨B,hB,e1,_⟩:=eL [one 181 [.slc f l.length (l.map SB),.fn (.func 115) [] []] (.int .i64 (oh jA l 0))] ⟨bg o181,trivial⟩ rfl;have e1:B 181 [.slc f l.length (l.map SB),.fn (.func 115) [] []]=some (.int .i64 (oh jA l 0)):=e1 ();refine dG hB Tryz.func114 (ord:=O0) (N:=N0) (by kernel_rfl) ((Gp _ _ _ _ _ _).trans ?_);rw[e1,bf,bp,uv]
theorem Nn(f:Bool)(l:List Int)(hl:l.length≤1000):bR 116 [.slc f l.length (b9 l),.fn (.func 117) [] []] (.bool (l.any jm)):=by
 have o182:bR 182 [.slc f l.length (b9 l),.fn (.func 117) [] []] (.int .i64 (oh jm l 0)):=by
  obtain⟨B,hB,e1,_⟩:=eL [fa117] ⟨yI,trivial⟩ rfl;exact dG hB Tryz.func182 (ord:=O0) (N:=JT) (by kernel_rfl) ((Gs _ _ _ _ _ _).trans (Nl (fun n=>e1 ⟨n,trivial⟩) l [] LL hl (by unfold LL;omega)))
 obtain⟨B,hB,e1,_⟩:=eL [one 182 [.slc f l.length (b9 l),.fn (.func 117) [] []] (.int .i64 (oh jm l 0))] ⟨bg o182,trivial⟩ rfl;have e1:B 182 [.slc f l.length (b9 l),.fn (.func 117) [] []]=some (.int .i64 (oh jm l 0)):=e1 ();refine dG hB Tryz.func116 (ord:=O0) (N:=N0) (by kernel_rfl) ((Gq _ _ _ _ _ _).trans ?_);rw[e1,bf,bp,uv]
def np(s:By):Bool:=decide (s.length≤60)
theorem kg(n m:Nat):decide ((n:Int)>(m:Int))= !decide (n≤m):=by
 by_cases h:n≤m
 ·rw[za1 h,za2 (by omega)];rfl
 ·rw[za2 h,za1 (by omega)];rfl
section
variable {B:FuncId→List D→Option D}{f:Bool}{vn:Nat}{vc:List D}{t u:Int}
theorem No{g:Bool}(n:Nat):∀(r pre:List By) (fuel:Nat),(pre++r).length≤1000→r.length<fuel→
  kE B LL C1 n fuel f vn vc t u g (pre++r).length ((pre++r).map SB) ((pre++r).length:Int) (pre.length:Int)=bo (r.all np) (qA B LL C1 n f vn vc t (IntKind.wrap .i64 (u+1))) (some (.bool false)):=by
 intro r
 induction r with
 |nil=>
  intro pre fuel hl hf;obtain⟨fuel,rfl⟩:=bx hf;rw[my,dI,ba,List.all_nil,be]
 |cons c r ih=>
  intro pre fuel hl hf;obtain⟨fuel,rfl⟩:=bx hf;have ih:=ih (pre++[c]) fuel (by rw[dw];exact hl) (by simp at hf;omega);rw[dw] at ih;rw[my,eF,be,eh,bh,J3,bE,bm,show decide ((c.length:Int)>60)= !np c from kg c.length 60,cX pre c r (by omega),ih,List.all_cons];cases np c with
  |true=>rw[Bool.not_true,ba,Bool.true_and]
  |false=>rw[Bool.not_false,be,Bool.false_and,ba]
end
theorem Pz{B:FuncId→List D→Option D}{f:Bool}:∀(r pre:List kS) (fuel:Nat),(pre++r).length≤140737488355328→r.length<fuel→
  qA B LL C1 fuel f (pre++r).length ((pre++r).flatMap d4) ((pre++r).length:Int) (pre.length:Int)=some (.bool ((r.all fun x=>gu x.2)&&decide ((pre++r).length≤24))):=by
 intro r
 induction r with
 |nil=>
  intro pre fuel hl hf;obtain⟨fuel,rfl⟩:=bx hf;rw[sW,dI,ba,List.all_nil,Bool.true_and]
  congr 2
  rw[decide_eq_decide];omega
 |cons x r ih=>
  intro pre fuel hl hf;obtain⟨fuel,rfl⟩:=bx hf;have ih:=ih (pre++[x]) fuel (by rw[dw];exact hl) (by simp at hf;omega);rw[dw] at ih;rw[sW,eF,be,eh,bh,Om,bp,On];show bc _ _ _=_;rw[Oo,cW,Oq,cW,Or];show bo (decide (((bs x.2.k).size:Int)>60)) _ (bo _ _ (bo _ _ (bo (decide (((bs x.2.t).size:Int)>300)) _ _)))=_;rw[bm,bm,show decide ((x.2.k.length:Int)>60)= !decide (x.2.k.length≤60) from kg _ 60,show decide ((x.2.ns.length:Int)>5)= !decide (x.2.ns.length≤5) from kg _ 5,show decide ((x.2.vs.length:Int)>5)= !decide (x.2.vs.length≤5) from kg _ 5,show decide ((x.2.t.length:Int)>300)= !decide (x.2.t.length≤300) from kg _ 300,List.all_cons];unfold gu;by_cases h1:x.2.k.length≤60
  ·by_cases h2:x.2.ns.length≤5
   ·by_cases h3:x.2.vs.length≤5
    ·by_cases h4:x.2.t.length≤300
     ·have hn:=No (B:=B) (f:=f) (vn:=(pre++x::r).length) (vc:=(pre++x::r).flatMap d4) (t:=((pre++x::r).length:Int)) (u:=(pre.length:Int)) (g:=x.1.1) fuel x.2.ns [] LL (by rw[zb7];omega) (by unfold LL;omega);rw[zb7,cX pre x r (by omega),ih] at hn;rw[za1 h1,za1 h2,za1 h3,za1 h4,Bool.not_true,ba,ba,ba,ba,wN (hC:=c1),Bool.true_and,Bool.true_and,Bool.true_and,Bool.true_and];refine hn.trans ?_;show bo (x.2.ns.all np) _ _=some (D.bool ((x.2.ns.all np&&_)&&_));cases x.2.ns.all np with
      |true=>
       rw[be,Bool.true_and];rfl
      |false=>rw[ba,Bool.false_and,Bool.false_and]
     ·rw[za1 h1,za1 h2,za1 h3,za2 h4];rfl
    ·rw[za1 h1,za1 h2,za2 h3];rfl
   ·rw[za1 h1,za2 h2];rfl
  ·rw[za2 h1];rfl
theorem PA(f:Bool)(l:List kS)(hl:l.length≤140737488355328):bR 42 [.slc f l.length (l.flatMap d4)] (.bool ((l.all fun x=>gu x.2)&&decide (l.length≤24))):=
 dG cp Tryz.func42 (ord:=O0) (N:=Nb) (by kernel_rfl) ((JO _ _ _ _ _ _).trans (Pz l [] LL hl (by unfold LL;omega)))
def mI(e:EvV):Bool:=((e.ns.length:Int) !=((bP e.k).n:Int))||((e.vs.length:Int) !=((bP e.k).v:Int))
def oT(e:EvV):Bool:=(!(bP e.k).t&& !(e.t==[]))||e.t.any fZ
def wU(e:EvV):Bool:=decide (((bs e.t).size:Int)>4096)
def DQ(e:EvV):List Int:=[bo (rt e.n 1 1000) 3 0,bo (!(bP e.k).is) 13 0,bo (mI e) 2 0,bo (e.ns.any jA) 8 0,bo (e.vs.any jm) 3 0,bo (oT e) 1 0,bo (wU e) 26 0]
def lg(e:EvV):Int:=fO (DQ e)
theorem qM(b:Bool)(x:Int)(h:(x !=0)=true)(l:List Int):fO (bo b x 0::l)=bo b x (fO l):=by
 cases b with
 |true=>show bo (x !=0) x _=x;rw[h];rfl
 |false=>rfl
theorem DR(e:EvV):lg e=bo (rt e.n 1 1000) 3 (bo (!(bP e.k).is) 13 (bo (mI e) 2 (bo (e.ns.any jA) 8 (bo (e.vs.any jm) 3 (bo (oT e) 1 (bo (wU e) 26 0)))))):=by
 unfold lg DQ;rw[qM _ _ rfl,qM _ _ rfl,qM _ _ rfl,qM _ _ rfl,qM _ _ rfl,qM _ _ rfl,qM _ _ rfl];rfl
theorem GI:bR 113 [] lH:=dE (by kernel_rfl)
theorem PB(s:ByteArray):bR 214 [.str s] (.fn (.func 268) [] [.snap [.str s] 0]):=dE (by kernel_rfl)
def fa214:Fam:=⟨214,ByteArray,fun s=>[.str s],fun s=> .fn (.func 268) [] [.snap [.str s] 0]⟩
theorem jo:fa214.Good:=⟨PB,fun i j h=>by
 have h:[D.str i]=[D.str j]:=h;injection h with h _
 injection h with h
 rw[h]⟩
theorem oU{B:FuncId→List D→Option D}(h1:B 113 []=some lH)(h2:∀s,B 214 [.str s]=some (.fn (.func 268) [] [.snap [.str s] 0])):∀k ds r,FU k ds=some r→B k ds=some r:=by
 intro k ds r h;unfold FU at h;split at h
 ·rw[←h];exact h1
 ·rw[←h];exact h2 _
 ·cases h
theorem Np(f g:Bool)(e:EvV)(hn:e.ns.length≤1000)(h1:∀s∈e.ns,s.length≤1000000)(hv:e.vs.length≤1000)(ht:e.t.length≤1000000):bR 43 [.agg (gw f g e)] (.int .i64 (lg e)):=by
 obtain⟨B,hB,a1,a2,a3,a4,a5,a6,a7,a8,_⟩:=eL [one 113 [] lH,fa214,one 114 [.slc f e.ns.length (e.ns.map SB),.fn (.func 115) [] []] (.bool (e.ns.any jA)),one 116 [.slc g e.vs.length (b9 e.vs),.fn (.func 117) [] []] (.bool (e.vs.any jm)),fa118,fa119,fa87,one 120 [SB e.t,SB rF] (.bool (e.t.any fZ))]
  ⟨bg GI,jo,bg (Nm f e.ns hn h1),bg (Nn g e.vs hv),yv,jg,kx,bg (Nh e.t ht),trivial⟩ rfl
 have b119:∀(b:Bool) (x:Int),B 119 [.bool b,.int .i64 x]=some (.int .i64 (bo b x 0)):=fun b x=>a6 (b,x);have b114:B 114 [.slc f e.ns.length (e.ns.map SB),.fn (.func 115) [] []]=some (.bool (e.ns.any jA)):=a3 ();have b116:B 116 [.slc g e.vs.length (b9 e.vs),.fn (.func 117) [] []]=some (.bool (e.vs.any jm)):=a4 ();have b118:B 118 [.int .i64 e.n,.int .i64 1,.int .i64 1000]=some (.bool (rt e.n 1 1000)):=a5 (e.n,1,1000);have b120:B 120 [.str (bs e.t),.str (ByteArray.mk #[10,35])]=some (.bool (e.t.any fZ)):=a8 ();have b87:∀x1 x2 x3 x4 x5 x6 x7:Int,B 87 [.slc true 7 [.int .i64 x1,.int .i64 x2,.int .i64 x3,.int .i64 x4,.int .i64 x5,.int .i64 x6,.int .i64 x7]]=some (.int .i64 (fO [x1,x2,x3,x4,x5,x6,x7])):=fun x1 x2 x3 x4 x5 x6 x7=>a7 ⟨[x1,x2,x3,x4,x5,x6,x7],by simp⟩;have he:EnvOK (jy B LL C1).E:=⟨pA hB,(fun _ _ h=>nomatch h),(fun _ _ _ h=>nomatch h),(fun _ _ hi=>nomatch hi)⟩;refine eY (Te:=jy B LL C1) fk he (oU (a1 ()) a2) rfl (fun _ _ _ h=>by cases h) Tryz.func43 (by simp) (ord:=Px) (N:=Pw) (by kernel_rfl) ((JU B LL C1 e.n (bs e.k) f _ _ g _ _ (bs e.t)).trans ?_);simp only[lI];refine(lJ e.k fun k a b c=>iB B LL C1 e.n (bs e.k) f e.ns.length (e.ns.map SB) g e.vs.length (b9 e.vs) (bs e.t) k a b c).trans ?_;rw[DH (hC:=c1),b114,bf,bD,b116,bf,bD,b118,bf,bD,b119,bf,bp,b119,bf,bp];simp only[b119,b120,bf,bp,bD,b87,lI];unfold lg DQ mI oT wU;cases ((e.ns.length:Int) !=((bP e.k).n:Int))<;>cases (bP e.k).t<;>cases (e.t==[])<;>rfl
section
variable {B:FuncId→List D→Option D}(a:Int)(k:ByteArray)(f:Bool)(n:Nat)(c:List D)(g:Bool)(m:Nat)(d:List D)
theorem Nq:∀(r pre:By) (fuel:Nat),(pre++r).length≤1000000→r.length<fuel→
  mz B LL C1 fuel a k f n c g m d (bs (pre++r)) (pre.length:Int)=bo (r.any fZ) (some (.int .i64 1)) (bo (decide (((bs (pre++r)).size:Int)>4096)) (some (.int .i64 26)) (some (.int .i64 0))):=by
 intro r
 induction r with
 |nil=>
  intro pre fuel hl hf;obtain⟨fuel,rfl⟩:=bx hf;rw[nP,bm,zb6,ng,ba,List.any_nil,ba]
 |cons x r ih=>
  intro pre fuel hl hf;obtain⟨fuel,rfl⟩:=bx hf;have ih:=ih (pre++[x]) fuel (by rw[←hU];exact hl) (by simp at hf;omega);rw[←hU] at ih;have hx:fZ x=(((x.toNat:Int)==35)||((x.toNat:Int)==10)):=by
   have h:∀n:Fin 256,fZ (UInt8.ofNat n.1)=(((n.1:Int)==35)||((n.1:Int)==10)):=by decide+kernel
   have:=h ⟨x.toNat,x.toNat_lt⟩;simpa using this
  rw[nP,bm,zO,be,zP,bh,bh,wM,zQ _ _ _ hl,ih,List.any_cons,hx,bm];cases ((x.toNat:Int)==35)<;>cases ((x.toNat:Int)==10)<;>rfl
theorem Nr(t:Bool)(s:ByteArray):∀(r pre:List Int) (fuel:Nat),(pre++r).length≤1000→r.length<fuel→
  j6 B LL C1 fuel ((pre++r).length:Int) t a k f n c g (pre++r).length (b9 (pre++r)) s (pre.length:Int)=bo (r.any jm) (some (.int .i64 3)) (bo (!t) (bo (!s.toList==(ByteArray.mk #[]).toList) (some (.int .i64 1)) (kF B LL C1 a k f n c g (pre++r).length (b9 (pre++r)) s)) (kF B LL C1 a k f n c g (pre++r).length (b9 (pre++r)) s)):=by
 intro r
 induction r with
 |nil=>
  intro pre fuel hl hf;obtain⟨fuel,rfl⟩:=bx hf;rw[nQ,dI,ba,List.any_nil,ba]
 |cons x r ih=>
  intro pre fuel hl hf;obtain⟨fuel,rfl⟩:=bx hf;have ih:=ih (pre++[x]) fuel (by rw[dw];exact hl) (by simp at hf;omega);rw[dw] at ih;rw[nQ,eF,be,eh,bh,J4,bp,bh,J4,bp,cX pre x r (by omega),ih,List.any_cons,show jm x=(decide (x<0)||decide (x>999999999)) from rfl];cases decide (x<0)<;>cases decide (x>999999999)<;>rfl
theorem Ns(hB:∀s:ByteArray,B 80 [.str s]=some (.bool (iz s)))(v:Int)(t:Bool)(s:ByteArray):∀(r pre:List By) (fuel:Nat),(pre++r).length≤1000→r.length<fuel→
  oP B LL C1 fuel ((pre++r).length:Int) v t a k f (pre++r).length ((pre++r).map SB) g m d s (pre.length:Int)=bo (r.any jA) (some (.int .i64 8)) (j6 B LL C1 LL v t a k f (pre++r).length ((pre++r).map SB) g m d s 0):=by
 intro r
 induction r with
 |nil=>
  intro pre fuel hl hf;obtain⟨fuel,rfl⟩:=bx hf;rw[qB,dI,ba,List.any_nil,ba]
 |cons x r ih=>
  intro pre fuel hl hf;obtain⟨fuel,rfl⟩:=bx hf;have ih:=ih (pre++[x]) fuel (by rw[dw];exact hl) (by simp at hf;omega);rw[dw] at ih;rw[qB,eF,be,eh,bh,J3,bE,hB,bf,bD,cX pre x r (by omega),ih,List.any_cons,show jA x= !iz (bs x) from rfl];cases iz (bs x) with
  |true=>rw[Bool.not_true,ba,Bool.false_or]
  |false=>rw[Bool.not_false,be,Bool.true_or,be]
end
theorem Nt(f g:Bool)(e:EvV)(hn:e.ns.length≤1000)(hv:e.vs.length≤1000)(ht:e.t.length≤1000000):bR 44 [.agg (gw f g e)] (.int .i64 (lg e)):=by
 obtain⟨B,hB,a1,a2,_⟩:=eL [one 121 [SB e.k] (ka (bP e.k)),fa80] ⟨bg (DM e.k),A7,trivial⟩ rfl;have b121:B 121 [.str (bs e.k)]=some (ka (bP e.k)):=a1 ();refine dG hB Tryz.func44 (ord:=O0) (N:=Hz) (by kernel_rfl) ((JP B LL C1 e.n (bs e.k) f _ _ g _ _ (bs e.t)).trans ?_);rw[DR,DG (hC:=c1),b121];show bo (decide (e.n<1)) _ (bo (decide (e.n>1000)) _ (bo (!(bP e.k).is) _ (bo _ _ (bo _ _ (uk B LL C1 _ _ _ _ _ _ _ _ _ _ _ _)))))=_;unfold rt mI;cases decide (e.n<1) with
 |true=>rfl
 |false=>
  cases decide (e.n>1000) with
  |true=>rfl
  |false=>
   cases (bP e.k).is with
   |false=>rfl
   |true=>
    cases h1:((e.ns.length:Int) !=((bP e.k).n:Int)) with
    |true=>rfl
    |false=>
     cases h2:((e.vs.length:Int) !=((bP e.k).v:Int)) with
     |true=>rfl
     |false=>
      have q1:((bP e.k).n:Int)=(e.ns.length:Int):=by simpa using (bne_eq_false_iff_eq.1 h1).symm
      have q2:((bP e.k).v:Int)=(e.vs.length:Int):=by simpa using (bne_eq_false_iff_eq.1 h2).symm
      have kn:=Ns (B:=B) e.n (bs e.k) f g e.vs.length (b9 e.vs) a2 (e.vs.length:Int) (bP e.k).t (bs e.t) e.ns [] LL (by rw[zb7];exact hn) (by unfold LL;omega);have kv:=Nr (B:=B) e.n (bs e.k) f e.ns.length (e.ns.map SB) g (bP e.k).t (bs e.t) e.vs [] LL (by rw[zb7];exact hv) (by unfold LL;omega);have kt:=Nq (B:=B) e.n (bs e.k) f e.ns.length (e.ns.map SB) g e.vs.length (b9 e.vs) e.t [] LL (by rw[zb7];exact ht) (by unfold LL;omega);simp only[zb7] at kn kv kt;rw[show((([]:List By).length:Nat):Int)=0 from rfl] at kn;rw[show((([]:List Int).length:Nat):Int)=0 from rfl] at kv;rw[show((([]:By).length:Nat):Int)=0 from rfl] at kt;rw[ba,ba,Bool.not_true,ba,ba,ba,Bd (hC:=c1),q1,q2,kn,kv,yA (hC:=c1),kt,show(!(bs e.t).toList==(ByteArray.mk #[]).toList)= !(e.t==[]) by rw[lI e.t []]];unfold oT wU;cases e.ns.any jA<;>cases e.vs.any jm<;>cases (bP e.k).t<;>cases (e.t==[])<;>cases e.t.any fZ<;>cases decide (((bs e.t).size:Int)>4096)<;>rfl
theorem Nu{B:FuncId→List D→Option D}{f g:Bool}:∀(r pre:List By) (fuel:Nat),(pre++r).length≤1000→r.length<fuel→
  oQ B LL C1 fuel f (pre++r).length ((pre++r).map SB) g (pre++r).length ((pre++r).map SB) (pre.length:Int)=some (.bool true):=by
 intro r
 induction r with
 |nil=>
  intro pre fuel hl hf;obtain⟨fuel,rfl⟩:=bx hf;rw[qC,dI,ba]
 |cons x r ih=>
  intro pre fuel hl hf;obtain⟨fuel,rfl⟩:=bx hf;have ih:=ih (pre++[x]) fuel (by rw[dw];exact hl) (by simp at hf;omega);rw[dw] at ih;rw[qC,eF,be,eh,bh,J3,bE,bh,J3,bE,cX pre x r (by omega),ih,ze3,Bool.not_true,ba]
theorem Nv(f g:Bool)(l:List By)(hl:l.length≤1000):bR 124 [.slc f l.length (l.map SB),.slc g l.length (l.map SB)] (.bool true):=by
 refine dG cp Tryz.func124 (ord:=O0) (N:=JQ) (by kernel_rfl) ((Gk _ _ _ _ _ _ _ _ _).trans ?_);rw[show((l.length:Int) !=(l.length:Int))=false by simp,ba];exact Nu l [] LL hl (by unfold LL;omega)
def fa124:Fam:=⟨124,(Bool×Bool)×{l:List By//l.length≤1000},fun x=>[.slc x.1.1 x.2.1.length (x.2.1.map SB),.slc x.1.2 x.2.1.length (x.2.1.map SB)],fun _=> .bool true⟩
theorem yJ:fa124.Good:=⟨fun x=>Nv x.1.1 x.1.2 x.2.1 x.2.2,fun _ _ _=>rfl⟩
theorem Nw{B:FuncId→List D→Option D}{f g:Bool}:∀(r pre:List Int) (fuel:Nat),(pre++r).length≤1000→r.length<fuel→
  ua B LL C1 fuel f (pre++r).length (b9 (pre++r)) g (pre++r).length (b9 (pre++r)) (pre.length:Int)=some (.bool true):=by
 intro r
 induction r with
 |nil=>
  intro pre fuel hl hf;obtain⟨fuel,rfl⟩:=bx hf;rw[sP,dI,ba]
 |cons x r ih=>
  intro pre fuel hl hf;obtain⟨fuel,rfl⟩:=bx hf;have ih:=ih (pre++[x]) fuel (by rw[dw];exact hl) (by simp at hf;omega);rw[dw] at ih;rw[sP,eF,be,eh,bh,J4,bp,bh,J4,bp,show(x !=x)=false by simp,ba,cX pre x r (by omega),ih]
theorem Nx(f g:Bool)(l:List Int)(hl:l.length≤1000):bR 26 [.slc f l.length (b9 l),.slc g l.length (b9 l)] (.bool true):=by
 refine dG cp Tryz.func26 (ord:=O0) (N:=Ph) (by kernel_rfl) ((Js _ _ _ _ _ _ _ _ _).trans ?_);rw[show((l.length:Int) !=(l.length:Int))=false by simp,ba];exact Nw l [] LL hl (by unfold LL;omega)
def fa26g:Fam:=⟨26,(Bool×Bool)×{l:List Int//l.length≤1000},fun x=>[.slc x.1.1 x.2.1.length (b9 x.2.1),.slc x.1.2 x.2.1.length (b9 x.2.1)],fun _=> .bool true⟩
theorem yK:fa26g.Good:=⟨fun x=>Nx x.1.1 x.1.2 x.2.1 x.2.2,fun _ _ _=>rfl⟩
abbrev GJ:=(Bool×Bool)×kS
abbrev gA(z:GJ):kS:=(z.1,z.2.2)
abbrev gB(z:GJ):kS:=z.2
section
variable {γ:Type}(a:GJ→kS)(pre:List GJ)(z:GJ)(r:List GJ)
theorem P4(c:D→Option γ):bc (((pre++z::r).map a).flatMap d4) (Int.toNat (pre.length:Int)*5+0) c=c (.int .i64 (a z).2.n):=by
 have:=Om (pre.map a) (a z) (r.map a) c
 rwa [←List.map_cons,←List.map_append,zc2] at this
theorem P5(c:D→Option γ):bc (((pre++z::r).map a).flatMap d4) (Int.toNat (pre.length:Int)*5+1) c=c (SB (a z).2.k):=by
 have:=On (pre.map a) (a z) (r.map a) c
 rwa [←List.map_cons,←List.map_append,zc2] at this
theorem P6(c:D→Option γ):bc (((pre++z::r).map a).flatMap d4) (Int.toNat (pre.length:Int)*5+2) c=c (.slc (a z).1.1 (a z).2.ns.length ((a z).2.ns.map SB)):=by
 have:=Oo (pre.map a) (a z) (r.map a) c
 rwa [←List.map_cons,←List.map_append,zc2] at this
theorem P7(c:D→Option γ):bc (((pre++z::r).map a).flatMap d4) (Int.toNat (pre.length:Int)*5+3) c=c (.slc (a z).1.2 (a z).2.vs.length (b9 (a z).2.vs)):=by
 have:=Oq (pre.map a) (a z) (r.map a) c
 rwa [←List.map_cons,←List.map_append,zc2] at this
theorem P8(c:D→Option γ):bc (((pre++z::r).map a).flatMap d4) (Int.toNat (pre.length:Int)*5+4) c=c (SB (a z).2.t):=by
 have:=Or (pre.map a) (a z) (r.map a) c
 rwa [←List.map_cons,←List.map_append,zc2] at this
end
theorem PC{B:FuncId→List D→Option D}{f g:Bool}(h124:∀(f g:Bool) (l:List By),l.length≤1000→B 124 [.slc f l.length (l.map SB),.slc g l.length (l.map SB)]=some (.bool true))(h26:∀(f g:Bool) (l:List Int),l.length≤1000→B 26 [.slc f l.length (b9 l),.slc g l.length (b9 l)]=some (.bool true)):
  ∀(r pre:List GJ) (fuel:Nat),(pre++r).length≤140737488355328→(∀z∈r,z.2.2.ns.length≤1000∧z.2.2.vs.length≤1000)→r.length<fuel→
  ul B LL C1 fuel f (pre++r).length (((pre++r).map gA).flatMap d4) g (pre++r).length (((pre++r).map gB).flatMap d4) (pre.length:Int)=some (.bool true):=by
 intro r
 induction r with
 |nil=>
  intro pre fuel hl h1 hf;obtain⟨fuel,rfl⟩:=bx hf;rw[sX,dI,ba]
 |cons z r ih=>
  intro pre fuel hl h1 hf;obtain⟨fuel,rfl⟩:=bx hf;obtain⟨q1,q2⟩:=h1 z (za4 ..);have ih:=ih (pre++[z]) fuel (by rw[dw];exact hl) (fun z hz=>h1 z (za5 _ hz)) (by simp at hf;omega);rw[dw] at ih;rw[sX,eF,be,eh,bh,P4,bp,bh,P4,bp,show((gA z).2.n !=(gB z).2.n)=false by simp,ba,bh,P5,bE,bh,P5,bE,ze3,Bool.not_true,ba,
   bh,P6,cW,bh,P6,cW,h124 _ _ _ q1,bf,bD,Bool.not_true,ba,bh,P7,cW,bh,P7,cW,h26 _ _ _ q2,bf,bD,Bool.not_true,ba,bh,P8,bE,bh,P8,bE,ze3,Bool.not_true,ba,cX pre z r (by omega),ih]
theorem PD(f g:Bool)(l:List GJ)(hl:l.length≤140737488355328)(h1:∀z∈l,z.2.2.ns.length≤1000∧z.2.2.vs.length≤1000):bR 54 [.slc f l.length ((l.map gA).flatMap d4),.slc g l.length ((l.map gB).flatMap d4)] (.bool true):=by
 obtain⟨B,hB,a1,a2,_⟩:=eL [fa124,fa26g] ⟨yJ,yK,trivial⟩ rfl;refine dG hB Tryz.func54 (ord:=O0) (N:=Pv) (by kernel_rfl) ((JR _ _ _ _ _ _ _ _ _).trans ?_);rw[show((l.length:Int) !=(l.length:Int))=false by simp,ba];exact PC (fun f g l hl=>a1 ((f,g),⟨l,hl⟩)) (fun f g l hl=>a2 ((f,g),⟨l,hl⟩)) l [] LL hl h1 (by unfold LL;omega)
theorem Bh(d:Nat)(h:d<10):ByteArray.extract (ByteArray.mk #[48,49,50,51,52,53,54,55,56,57]) d (d+1)=bs [UInt8.ofNat (48+d)]:=by
 have h:∀n:Fin 10,(ByteArray.extract (ByteArray.mk #[48,49,50,51,52,53,54,55,56,57]) n.1 (n.1+1)).data.toList=[UInt8.ofNat (48+n.1)]:=by decide+kernel
 have:=h ⟨d,by omega⟩;exact congrArg ByteArray.mk (Array.toList_inj.1 this)
theorem Ny(B:FuncId→List D→Option D):∀(n:Nat) (acc:By) (fuel:Nat),0<n→n+acc.length≤2000000000→n+1<fuel→kB B LL C1 fuel 1 (n:Int) (bs acc)=some (SB (Lib.decDigits n++acc)):=by
 intro n
 induction n using Nat.strongRecOn with
 |_ n ih=>
  intro acc fuel h0 hl hf;obtain⟨fuel,rfl⟩:=bx hf;have em:Int.tmod (n:Int) 10=((n%10:Nat):Int):=by rw[Int.tmod_eq_emod_of_nonneg (by omega)];omega
  have ed:Int.tdiv (n:Int) 10=((n/10:Nat):Int):=by rw[Int.tdiv_eq_ediv_of_nonneg (by omega)];omega
  rw[qs,za1 (show(n:Int)>0 by omega),be,em,ed,bS (by omega),bS (by omega),za1 ⟨by omega,by omega,by omega⟩,bh,za3,show Int.toNat (((n%10:Nat):Int)+1)=n%10+1 by omega,Bh (n%10) (by omega),bm,bm,za2 (by simp;omega),Bool.not_false,bh,show bs [UInt8.ofNat (48+n%10)]++bs acc=bs (UInt8.ofNat (48+n%10)::acc) from dY [_] acc,Lib.decDigits];by_cases hn:n<10
  ·rw[dif_pos hn,Nat.div_eq_of_lt hn,Nat.mod_eq_of_lt hn];obtain⟨fuel,rfl⟩:=bx (show n<fuel by omega);rw[qs,za2 (by omega),ba,bm,za2 (by simp;omega),ba];rfl
  ·rw[dif_neg hn,ih (n/10) (by omega) _ fuel (by omega) (by simp;omega) (by omega),za8];rfl
theorem PE(B:FuncId→List D→Option D)(L:Nat)(m:Nat):kB B L C1 (m+2) 1 0 (ByteArray.mk #[])=some (SB [48]):=by kernel_rfl
theorem Nz(n:Nat)(h:n<1000000000):bR 270 [.int .i64 (n:Int),.int .i64 1] (SB (Lib.decDigits n)):=by
 refine dG cp Tryz.func270 (ord:=O0) (N:=JG) (by kernel_rfl) ((F7 _ _ _ _ _).trans ?_);by_cases h0:n=0
 ·subst h0;obtain⟨m,hm⟩:∃m,LL=m+2:=⟨4611686018427387902,rfl⟩;have e:Lib.decDigits 0=[48]:=by rw[Lib.decDigits];rfl
  rw[e];rw[hm];exact PE _ _ m
 ·have:=Ny (fun _ _=>none) n [] LL (by omega) (by simp;omega) (by unfold LL;omega);rw[zb6] at this;exact this
theorem NA(f:Bool)(n:Nat)(h0:n≠0):bR 326 [.slc f 1 [.int .i64 (n:Int)]] (.slc f 1 [.int .i64 (n:Int)]):=by
 obtain⟨m,hm⟩:∃m,LL=m+2:=⟨4611686018427387902,rfl⟩;refine dG cp Tryz.func326 (ord:=O0) (N:=Ga) (by kernel_rfl) ((zL _ _ _ _ _ _).trans ?_);rw[hm,qt,za1 (show(((1:Nat):Int))>0 by decide),be,show IntKind.wrap .i64 (((1:Nat):Int)-1)=0 from rfl,za1 (show(0:Int)≤0∧(0:Int)<((1:Nat):Int) by decide),bh];show bo ((n:Int)==0) _ _=_;rw[show((n:Int)==0)=false by(rw[beq_eq_false_iff_ne];omega),ba]
theorem Kc:bR 326 [.slc true 0 []] (.slc true 0 []):=by
 obtain⟨m,hm⟩:∃m,LL=m+2:=⟨4611686018427387902,rfl⟩;refine dG cp Tryz.func326 (ord:=O0) (N:=Ga) (by kernel_rfl) ((zL _ _ _ _ _ _).trans ?_);rw[hm,qt,za2 (show¬(((0:Nat):Int))>0 by decide),ba]
theorem NB(f:Bool)(n:Nat)(h0:n≠0):bR 271 [.bool false,.slc f 1 [.int .i64 (n:Int)]] (.agg [.bool false,.slc f 1 [.int .i64 (n:Int)]]):=by
 obtain⟨B,hB,e1,_⟩:=eL [one 326 [.slc f 1 [.int .i64 (n:Int)]] (.slc f 1 [.int .i64 (n:Int)])] ⟨bg (NA f n h0),trivial⟩ rfl;exact dG hB Tryz.func271 (ord:=O0) (N:=N0) (by kernel_rfl) ((zI _ _ _ _ _ _ _).trans (ct (e1 ()) rfl))
theorem Ke:bR 271 [.bool false,.slc true 0 []] (.agg [.bool false,.slc true 0 []]):=by
 obtain⟨B,hB,e1,_⟩:=eL [one 326 [.slc true 0 []] (.slc true 0 [])] ⟨bg Kc,trivial⟩ rfl;exact dG hB Tryz.func271 (ord:=O0) (N:=N0) (by kernel_rfl) ((zI _ _ _ _ _ _ _).trans (ct (e1 ()) rfl))
theorem NC(f:Bool)(n:Nat)(h:n<1000000000):bR 215 [.agg [.bool false,.slc f 1 [.int .i64 (n:Int)]]] (SB (Lib.decDigits n)):=by
 obtain⟨m,hm⟩:∃m,LL=m+2:=⟨4611686018427387902,rfl⟩;obtain⟨B,hB,e1,_⟩:=eL [one 270 [.int .i64 (n:Int),.int .i64 1] (SB (Lib.decDigits n))] ⟨bg (Nz n h),trivial⟩ rfl;refine dG hB Tryz.func215 (ord:=O0) (N:=F8) (by kernel_rfl) ((zJ _ _ _ _ _ _ _).trans ?_);rw[show(((1:Nat):Int)==0)=false from rfl,ba,show IntKind.wrap .i64 (((1:Nat):Int)-1)=0 from rfl,za1 (show(0:Int)≤0∧(0:Int)<((1:Nat):Int) by decide),bh];show bn (B 270 [.int .i64 (n:Int),.int .i64 1]) _=_;refine ct (e1 ()) ?_;show mt B LL C1 LL false f 1 [.int .i64 (n:Int)] (bs (Lib.decDigits n)) (-1)=_;rw[hm,wH,za2 (show¬((-1:Int)≥0) by decide),ba,ba]
theorem Kf:bR 215 [.agg [.bool false,.slc true 0 []]] (SB [48]):=by
 refine dG cp Tryz.func215 (ord:=O0) (N:=F8) (by kernel_rfl) ((zJ _ _ _ _ _ _ _).trans ?_);rw[show(((0:Nat):Int)==0)=true from rfl,be];rfl
theorem DS{k:FuncId}{d r:D}(h:bR k [d,.slc true 0 []] r):bR k [d,.nils] r:=by
 refine⟨h.1,fun I w vs h1 h2 h3 h4=>h.2 I w vs h1 h2 h3 fun j e v he hv=> ?_⟩
 match j,he,hv with
 |0,he,hv=>exact h4 0 e v he hv
 |1,he,hv=>
  cases he;have:=h4 1 .nils v rfl hv;cases this;exact .slcn true
theorem ND(n:Nat)(h:n<1000000000)(h0:n≠0):bR 216 [.int .i64 (n:Int)] (.agg [.bool false,.slc false 1 [.int .i64 (n:Int)]]):=by
 obtain⟨m,hm⟩:∃m,LL=m+2:=⟨4611686018427387902,rfl⟩;obtain⟨B,hB,e1,_⟩:=eL [one 271 [.bool false,.slc false 1 [.int .i64 (n:Int)]] (.agg [.bool false,.slc false 1 [.int .i64 (n:Int)]])] ⟨bg (NB false n h0),trivial⟩ rfl;refine dG hB Tryz.func216 (ord:=O0) (N:=F9) (by kernel_rfl) ((zK _ _ _ _).trans ?_);have em:Int.tmod (n:Int) 1000000000=(n:Int):=by rw[Int.tmod_eq_emod_of_nonneg (by omega)];omega
 have ed:Int.tdiv (n:Int) 1000000000=0:=by rw[Int.tdiv_eq_ediv_of_nonneg (by omega)];omega
 rw[hm,za2 (show¬((n:Int)<0) by omega),nO,show((n:Int) !=0)=true by(rw[ze5];omega),be,em,ed,za2 (show¬((n:Int)<0) by omega),ba,show IntKind.wrap .i64 0=0 from rfl,wI,show((0:Int) !=0)=false from rfl,ba];exact ct (e1 ()) rfl
theorem Kg:bR 216 [.int .i64 0] (.agg [.bool false,.slc true 0 []]):=by
 obtain⟨m,hm⟩:∃m,LL=m+2:=⟨4611686018427387902,rfl⟩;obtain⟨B,hB,e1,_⟩:=eL [one 271 [.bool false,.nils] (.agg [.bool false,.slc true 0 []])] ⟨bg (DS Ke),trivial⟩ rfl;refine dG hB Tryz.func216 (ord:=O0) (N:=F9) (by kernel_rfl) ((zK _ _ _ _).trans ?_);rw[hm,za2 (show¬((0:Int)<0) by decide),nO,show((0:Int) !=0)=false from rfl,ba];exact ct (e1 ()) rfl
end Go.Pd
end
