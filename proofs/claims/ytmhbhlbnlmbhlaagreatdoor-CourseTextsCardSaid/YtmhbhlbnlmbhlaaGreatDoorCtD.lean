import Derived.Test.YtmhbhlbnlmbhlaaGreatDoorCtC
import Derived.Test.YtmhbhlbnlmbhlaaGreatDoorCrE
import Derived.Test.YtmhbhlbnlmbhlaaGreatDoorCrK
import Derived.Test.YtmhbhlbnlmbhlaaGreatDoorCtB
section
namespace Go.Pd
open Go Go.Proofs Go.RowKit Go.Shelf
set_option maxRecDepth 100000
def lR(l:List (List UInt8)):D:= .slc false l.length (l.map SB)
def Ov(l:List (List UInt8)):Ow:=match l with
 |[]=> .nil
 |_=> .own l.length (l.map SB)
theorem DQ(a w r:List UInt8):ByteArray.extract (bs (a++w++r)) a.length (a++w).length=bs w:=by
 rw[kY,List.take_left' rfl,List.drop_left' rfl]
theorem Sv{call:CL}{c:UInt8}{s:List UInt8}(hs:s.length≤1000000):∀(r a w:List UInt8) (out:List (List UInt8)) (fuel:Nat),a++w++r=s→(∀x∈w,x≠c)→out.length≤a.length→r.length<fuel→
  dX call LL C1 fuel (bs s) (c.toNat:Int) (Ov out) (a.length:Int) ((a++w).length:Int)=some (lR (out++spl c (w++r))):=by
 have hlim:(1000001:Nat)*16≤limit∧(1000001:Nat)≤9223372036854775807:=by decide
 intro r
 induction r with
 |nil=>
  intro a w out fuel hp hw ho hf;obtain⟨fuel,rfl⟩:∃n,fuel=n+1:=⟨fuel-1,by omega⟩;rw[zb6] at hp ⊢;have hal:a.length≤s.length:=by rw[←hp];simp
  have hsp:spl c w=[w]:=ku c w (by
   by_cases h1:Lib.indexByte w c= -1
   ·exact h1
   ·obtain⟨i,hi⟩:∃i:Nat,Lib.indexByte w c=(i:Int):=⟨(Lib.indexByte w c).toNat,by have:=Lib.indexByte_ge w c;omega⟩;exact absurd rfl (hw c (List.mem_of_getElem? (Lib.indexByte_some hi).1)))
  have e1:ByteArray.extract (bs s) (Int.toNat (a.length:Int)) (Int.toNat (s.length:Int))=bs w:=by
   rw[za3,za3,←hp];have:=DQ a w []
   rwa [zb6] at this
  cases out with
  |nil=>
   show dX call LL C1 (fuel+1) (bs s) (c.toNat:Int) Ow.nil _ _=_;rw[kZ,bL,hp,za2 (by omega),bv,e1,hsp];exact bK (za1 ⟨by omega,by omega,Int.le_refl _⟩) rfl
  |cons o out=>
   show dX call LL C1 (fuel+1) (bs s) (c.toNat:Int) (Ow.own (o::out).length ((o::out).map SB)) _ _=_;rw[k9,bL,hp,za2 (by omega),bv,e1,hsp];refine bK (za1 ⟨by omega,by omega,Int.le_refl _⟩) (bK (za1 ⟨zb1 (Nat.mul_le_mul_right _ (by omega)) hlim.1,zb1 (by omega) hlim.2⟩) ?_);unfold lR;simp
 |cons x r ih=>
  intro a w out fuel hp hw ho hf;obtain⟨fuel,rfl⟩:∃n,fuel=n+1:=⟨fuel-1,by omega⟩;have hal:(a++w).length<s.length:=by rw[←hp];simp
  have haw:a.length≤(a++w).length:=by simp
  have hat:cA (bs s) (Int.toNat ((a++w).length:Int))=(x.toNat:Int):=by rw[za3];exact nc (by rw[←hp];simp)
  have hw1:IntKind.wrap .i64 (((a++w).length:Int)+1)=((a++w++[x]).length:Int):=by rw[bS (by omega)];simp only[za6,za7,zb5];omega
  have hf':r.length<fuel:=by simpa using hf
  by_cases hx:x=c
  ·subst hx;have ih:=ih (a++w++[x]) [] (out++[w]) fuel (by simpa using hp) (by simp) (by simp;omega) hf';rw[zb6,zb7] at ih;have hsp:spl x (w++x::r)=w::spl x r:=by
    have hi:Lib.indexByte (w++x::r) x=(w.length:Int):=by
     clear ih hat hw1 hal hp haw hs
     induction w with
     |nil=>show Lib.indexByte (x::r) x=_;unfold Lib.indexByte;simp
     |cons y w ihw=>
      have hy:y≠x:=hw y (by simp);have:=ihw (fun z hz=>hw z (by simp[hz]));show Lib.indexByte (y::(w++x::r)) x=_;unfold Lib.indexByte;rw[this,if_neg (by simpa using hy),if_neg (by simp)];rfl
    rw[oV x _ _ hi];simp
   have hres:lR (out++[w]++spl x r)=lR (out++spl x (w++x::r)):=by rw[hsp];simp
   have e1:ByteArray.extract (bs s) (Int.toNat (a.length:Int)) (Int.toNat ((a++w).length:Int))=bs w:=by
    rw[za3,za3,←hp];exact DQ a w (x::r)
   rw[hres] at ih;have hb:((x.toNat:Int)==(x.toNat:Int))=true:=by simp
   cases out with
   |nil=>
    show dX call LL C1 (fuel+1) (bs s) (x.toNat:Int) Ow.nil _ _=_;rw[kZ,bL,za1 (by omega),bx,hat,hb,bx,e1,hw1];exact bK (za1 ⟨by omega,by rw[za3];exact hal⟩) (bK (za1 ⟨by omega,by omega,by omega⟩) ih)
   |cons o out=>
    show dX call LL C1 (fuel+1) (bs s) (x.toNat:Int) (Ow.own (o::out).length ((o::out).map SB)) _ _=_;rw[k9,bL,za1 (by omega),bx,hat,hb,bx,e1,hw1];refine bK (za1 ⟨by omega,by rw[za3];exact hal⟩) (bK (za1 ⟨by omega,by omega,by omega⟩) (bK (za1 ⟨zb1 (Nat.mul_le_mul_right _ (by omega)) hlim.1,zb1 (by omega) hlim.2⟩) ?_));have:Ov (o::out++[w])=Ow.own ((o::out).length+1) ((o::out).map SB++[SB w]):=by unfold Ov;simp
    rw[this] at ih;exact ih
  ·have ih:=ih a (w++[x]) out fuel (by simpa using hp) (fun y hy=>by
    rcases za9.1 hy with h|h
    ·exact hw y h
    ·simp at h;subst h;exact hx) ho hf'
   rw[←za8,show w++[x]++r=w++x::r by simp] at ih;have hb:((x.toNat:Int)==(c.toNat:Int))=false:=by rw[wb];exact za2 hx
   cases out with
   |nil=>
    show dX call LL C1 (fuel+1) (bs s) (c.toNat:Int) Ow.nil _ _=_;rw[kZ,bL,za1 (by omega),bx,hat,hb,bv,hw1];exact bK (za1 ⟨by omega,by rw[za3];exact hal⟩) ih
   |cons o out=>
    show dX call LL C1 (fuel+1) (bs s) (c.toNat:Int) (Ow.own (o::out).length ((o::out).map SB)) _ _=_;rw[k9,bL,za1 (by omega),bx,hat,hb,bv,hw1];exact bK (za1 ⟨by omega,by rw[za3];exact hal⟩) ih
theorem L6(l:List UInt8)(c:UInt8)(hl:l.length≤1000000):OK2 133 [SB l,.int .u8 (c.toNat:Int)] (lR (spl c l)):=
 dT cK Tryz.func133 (ord:=O0) (N:=Oi) (by kernel_rfl) ((KA _ _ _ _ _).trans (Sv hl l [] [] [] LL (by simp) (by simp) (by simp) (by unfold LL;omega)))
def fA(w:List (List UInt8)):Bool:=w.all fun x=> !(x==[])
theorem Sw{call:CL}{f:Bool}:∀(r pre:List (List UInt8)) (fuel:Nat),(pre++r).length≤2000000→r.length<fuel→se call LL C1 fuel f (pre++r).length ((pre++r).map SB) (pre.length:Int)=some (.bool (fA r)):=by
 intro r
 induction r with
 |nil=>
  intro pre fuel hl hf;obtain⟨fuel,rfl⟩:∃n,fuel=n+1:=⟨fuel-1,by omega⟩;rw[tR,zb6,za2 (by omega),bv];rfl
 |cons x r ih=>
  intro pre fuel hl hf;obtain⟨fuel,rfl⟩:∃n,fuel=n+1:=⟨fuel-1,by omega⟩;have hlen:pre.length<(pre++x::r).length:=by simp
  have ih:=ih (pre++[x]) fuel (by simp at hl ⊢;omega) (by simpa using hf);rw[za8,List.singleton_append] at ih;rw[tR,za1 (by omega),bx];refine bK (za1 ⟨by omega,by omega⟩) ?_;have hc:((pre++x::r).map SB)[Int.toNat (pre.length:Int)*1]?=some (SB x):=by rw[za3,Nat.mul_one];simp
  rw[cT hc,bP,qi];unfold fA;rw[List.all_cons];cases h:(x==[]) with
  |true=>rw[bx];rfl
  |false=>
   rw[bv,bS (by omega),show((pre.length:Int)+1)=((pre++[x]).length:Int) by simp,ih];rfl
theorem Sx{f:Bool}(w:List (List UInt8))(hl:w.length≤2000000):OK2 188 [.slc f w.length (w.map SB)] (.bool (fA w)):=
 dT cK Tryz.func188 (ord:=O0) (N:=Ol) (by kernel_rfl) ((KE _ _ _ _ _ _).trans (Sw w [] LL (by simpa using hl) (by unfold LL;omega)))
theorem G1{l:List UInt8}(h:(44:UInt8)∈l):cR l=(0,false):=by
 refine tW ?_;have hm:(44:UInt8)∈cq l 45:=by
  unfold cq;split
  ·rename_i hb;cases l with
   |nil=>cases h
   |cons x r=>
    rcases List.mem_cons.1 h with e|h
    ·subst e;simp at hb
    ·exact h
  ·exact h
 have ha:(cq l 45).all eW=false:=by
  rw[List.all_eq_false];exact⟨44,hm,by decide⟩
 unfold md;rw[ha];simp
def EW(w:List UInt8):Option Pt:=match(cR (dO 44 w).1).2&&(cR (dO 44 w).2.1).2 with
 |true=>some ((cR (dO 44 w).1).1,(cR (dO 44 w).2.1).1)
 |false=>none
def dQ:List (List UInt8)→Option (List Pt)
 |[]=>some []
 |w::r=>match EW w with
  |none=>none
  |some p=>match dQ r with
   |none=>none
   |some q=>some (p::q)
theorem kv(w:List UInt8)(r:List (List UInt8)):dQ (w::r)=match EW w with
  |none=>none
  |some p=>match dQ r with
   |none=>none
   |some q=>some (p::q):=rfl
theorem KL(w:List UInt8):((spl 44 w).length≠2∧EW w=none)∨∃a b,spl 44 w=[a,b]∧dO 44 w=(a,b,true):=by
 by_cases h:Lib.indexByte w 44= -1
 ·left;rw[ku 44 w h];refine⟨by simp,?_⟩;unfold EW;rw[mP 44 w h];simp[tW (show md []=false by decide)]
 ·obtain⟨i,hi⟩:∃i:Nat,Lib.indexByte w 44=(i:Int):=⟨(Lib.indexByte w 44).toNat,by have:=Lib.indexByte_ge w 44;omega⟩;obtain⟨h1,h2⟩:=oU 44 w i hi;rw[oV 44 w i hi,h2];by_cases h3:Lib.indexByte (w.drop (i+1)) 44= -1
  ·right;rw[ku 44 _ h3];exact⟨_,_,rfl,rfl⟩
  ·left;obtain⟨k,hk⟩:∃k:Nat,Lib.indexByte (w.drop (i+1)) 44=(k:Int):=⟨(Lib.indexByte (w.drop (i+1)) 44).toNat,by have:=Lib.indexByte_ge (w.drop (i+1)) 44;omega⟩;refine⟨?_,?_⟩
   ·rw[oV 44 _ k hk];have:=List.length_pos_iff.2 (mc 44 ((w.drop (i+1)).drop (k+1)));simp only[za7];omega
   ·unfold EW;rw[h2,G1 (List.mem_of_getElem? (Lib.indexByte_some hk).1),Bool.and_false]
def Ox(l:List Pt):Ow:=match l with
 |[]=> .nil
 |_=> .own l.length (bJ l)
def TJ(l:List Pt):D:= .slc l.isEmpty l.length (bJ l)
def Oy(k:List UInt8):Option (List Pt)→D
 |some c=> .tup [.agg [SB k,TJ c],.bool true]
 |none=> .tup [.agg [SB [],.slc true 0 []],.bool false]
def Cg(acc:List Pt):Option (List Pt)→Option (List Pt)
 |some c=>some (acc++c)
 |none=>none
theorem qj(l:List Pt)(p:Pt):bJ (l++[p])=bJ l++[.int .i64 p.1,.int .i64 p.2]:=by simp[bJ,MU]
theorem Sy{call:CL}{f:Bool}{k:List UInt8}(h133:∀w:List UInt8,w.length≤1000000→call 133 [SB w,.int .u8 44]=some (lR (spl 44 w)))(h190:∀a b:List UInt8,a.length≤1000000→b.length≤1000000→call 190 [SB a,SB b]=some (gz a b)):
  ∀(r pre:List (List UInt8)) (acc:List Pt) (fuel:Nat),(pre++r).length≤1000000→(∀w∈r,w.length≤1000000)→acc.length≤pre.length→r.length<fuel→
  fg call LL C1 fuel f (pre++r).length ((pre++r).map SB) (pre.length:Int) (bs k) (Ox acc)=some (Oy k (Cg acc (dQ r))):=by
 have hlim:(1000001:Nat)*16≤limit∧(1000001:Nat)≤9223372036854775807:=by decide
 intro r
 induction r with
 |nil=>
  intro pre acc fuel hl hw ha hf;obtain⟨fuel,rfl⟩:∃n,fuel=n+1:=⟨fuel-1,by omega⟩;cases acc with
  |nil=>
   show fg call LL C1 (fuel+1) f _ _ _ _ Ow.nil=_;rw[jD,zb6,za2 (by omega),bv];rfl
  |cons p acc=>
   show fg call LL C1 (fuel+1) f _ _ _ _ (Ow.own (p::acc).length (bJ (p::acc)))=_;rw[jE,zb6,za2 (by omega),bv];show _=some (Oy k (some (p::acc++[])));rw[zb6];rfl
 |cons w r ih=>
  intro pre acc fuel hl hw ha hf;obtain⟨fuel,rfl⟩:∃n,fuel=n+1:=⟨fuel-1,by omega⟩;have hlen:pre.length<(pre++w::r).length:=by simp
  have hc:((pre++w::r).map SB)[Int.toNat (pre.length:Int)*1]?=some (SB w):=by rw[za3,Nat.mul_one];simp
  have hww:=hw w (by simp);have g1:=h133 w hww;have hs1:IntKind.wrap .i64 ((pre.length:Int)+1)=((pre++[w]).length:Int):=by rw[bS (by omega)];simp
  rcases KL w with⟨h2,h3⟩|⟨a,b,h2,h3⟩
  ·have hres:Cg acc (dQ (w::r))=none:=by rw[kv,h3];rfl
   have hne:((((spl 44 w).length:Nat):Int) !=2)=true:=by simp;omega
   rw[hres];cases acc with
   |nil=>
    show fg call LL C1 (fuel+1) f _ _ _ _ Ow.nil=_;rw[jD,za1 (by omega),bx,za1 ⟨by omega,by omega⟩,bC,cT hc,bP,g1,bA];unfold lR;rw[cL,hne,bx];rfl
   |cons p acc=>
    show fg call LL C1 (fuel+1) f _ _ _ _ (Ow.own (p::acc).length (bJ (p::acc)))=_;rw[jE,za1 (by omega),bx,za1 ⟨by omega,by omega⟩,bC,cT hc,bP,g1,bA];unfold lR;rw[cL,hne,bx];rfl
  ·have hab:a.length≤1000000∧b.length≤1000000:=by
    have hi:Lib.indexByte w 44≠-1:=fun e=>by rw[mP 44 w e] at h3;simp at h3
    obtain⟨i,hi⟩:∃i:Nat,Lib.indexByte w 44=(i:Int):=⟨(Lib.indexByte w 44).toNat,by have:=Lib.indexByte_ge w 44;omega⟩;have h4:=(oU 44 w i hi).2;rw[h3] at h4;simp only[zb3] at h4;rw[h4.1,h4.2.1];simp;omega
   have g2:=h190 a b hab.1 hab.2;have hpw:EW w=match(cR a).2&&(cR b).2 with
    |true=>some ((cR a).1,(cR b).1)
    |false=>none:=by unfold EW;rw[h3]
   rw[h2] at g1;have g1:call 133 [SB w,.int .u8 44]=some (.slc false 2 [SB a,SB b]):=g1;cases hb:(cR a).2&&(cR b).2 with
   |false=>
    rw[hb] at hpw;have hres:Cg acc (dQ (w::r))=none:=by rw[kv,hpw];rfl
    rw[hres];have hpl:gz a b= .tup [.agg [.int .i64 (cR a).1,.int .i64 (cR b).1],.bool false]:=by unfold gz;rw[hb]
    rw[hpl] at g2;cases acc with
    |nil=>
     show fg call LL C1 (fuel+1) f _ _ _ _ Ow.nil=_;rw[jD,za1 (by omega),bx,za1 ⟨by omega,by omega⟩,bC,cT hc,bP,g1,bA];show bB (call 190 [SB a,SB b]) _=_;rw[g2];rfl
    |cons p acc=>
     show fg call LL C1 (fuel+1) f _ _ _ _ (Ow.own (p::acc).length (bJ (p::acc)))=_;rw[jE,za1 (by omega),bx,za1 ⟨by omega,by omega⟩,bC,cT hc,bP,g1,bA];show bB (call 190 [SB a,SB b]) _=_;rw[g2];rfl
   |true=>
    rw[hb] at hpw;have ih:=ih (pre++[w]) (acc++[((cR a).1,(cR b).1)]) fuel (by simp at hl ⊢;omega) (fun x hx=>hw x (by simp[hx])) (by simp;omega) (by simpa using hf);rw[za8,List.singleton_append] at ih;have hres:Cg acc (dQ (w::r))=Cg (acc++[((cR a).1,(cR b).1)]) (dQ r):=by
     rw[kv,hpw];dsimp only;cases dQ r with
     |none=>rfl
     |some q=>simp[Cg]
    rw[hres,←ih];have hpl:gz a b= .tup [.agg [.int .i64 (cR a).1,.int .i64 (cR b).1],.bool true]:=by unfold gz;rw[hb]
    rw[hpl] at g2;cases acc with
    |nil=>
     show fg call LL C1 (fuel+1) f _ _ _ _ Ow.nil=_;rw[jD,za1 (by omega),bx,za1 ⟨by omega,by omega⟩,bC,cT hc,bP,g1,bA,hs1];show bB (call 190 [SB a,SB b]) _=_;rw[g2];rfl
    |cons p acc=>
     show fg call LL C1 (fuel+1) f _ _ _ _ (Ow.own (p::acc).length (bJ (p::acc)))=_;rw[jE,za1 (by omega),bx,za1 ⟨by omega,by omega⟩,bC,cT hc,bP,g1,bA,hs1];show bB (call 190 [SB a,SB b]) _=_;rw[g2,bA];show bH _ _=_;rw[za1 ⟨zb1 (Nat.mul_le_mul_right _ (by simp at ha hl ⊢;omega)) hlim.1,zb1 (by simp at ha hl ⊢;omega) hlim.2⟩,bC];have ho:Ox (p::acc++[((cR a).1,(cR b).1)])=Ow.own ((p::acc).length+1) (bJ (p::acc)++[.int .i64 (cR a).1,.int .i64 (cR b).1]):=by
      show Ow.own _ (bJ (p::(acc++[((cR a).1,(cR b).1)])))=_;rw[show p::(acc++[((cR a).1,(cR b).1)])=(p::acc)++[((cR a).1,(cR b).1)] from rfl,qj];simp
     rw[ho]
def fam133:Fam:=⟨133,{x:List UInt8×UInt8//x.1.length≤1000000},fun x=>[SB x.1.1,.int .u8 (x.1.2.toNat:Int)],fun x=>lR (spl x.1.2 x.1.1)⟩
theorem qV:fam133.Good:=⟨fun x=>L6 _ _ x.2,fun x y e=>by
 have e:[SB x.1.1,D.int .u8 (x.1.2.toNat:Int)]=[SB y.1.1,.int .u8 (y.1.2.toNat:Int)]:=e;simp only[zc5,D.str.injEq,D.int.injEq,true_and,and_true] at e;show lR (spl x.1.2 x.1.1)=lR (spl y.1.2 y.1.1);rw[eE e.1,UInt8.toNat_inj.1 (Int.ofNat.inj e.2)],fun _=>rfl⟩
def fam190:Fam:=⟨190,{p:List UInt8×List UInt8//p.1.length≤1000000∧p.2.length≤1000000},fun p=>[SB p.1.1,SB p.1.2],fun p=>gz p.1.1 p.1.2⟩
theorem mg:fam190.Good:=⟨fun p=>Su _ _ p.2.1 p.2.2,fun x y e=>by
 have e:[SB x.1.1,SB x.1.2]=[SB y.1.1,SB y.1.2]:=e;simp only[zc5,D.str.injEq,and_true] at e;show gz x.1.1 x.1.2=gz y.1.1 y.1.2;rw[eE e.1,eE e.2],fun _=>rfl⟩
theorem Sz{f:Bool}(a k:List UInt8)(r:List (List UInt8))(hl:r.length≤900000)(hw:∀w∈r,w.length≤1000000):OK2 189 [.slc f (a::k::r).length ((a::k::r).map SB)] (Oy k (dQ r)):=by
 obtain⟨B,hB,e1,e2,_⟩:=fP [fam133,fam190] ⟨qV,mg,trivial⟩ rfl;refine dT hB Tryz.func189 (ord:=On) (N:=Om) (by kernel_rfl) ((KF _ _ _ _ _ _).trans ?_);refine bK (za1 ⟨by decide,by simp;omega⟩) ?_;have:=Sy (call:=bw B) (f:=f) (k:=k) (fun w hw=>e1 ⟨(w,44),hw⟩) (fun a b ha hb=>e2 ⟨(a,b),ha,hb⟩) r [a,k] [] LL (by simp;omega) hw (by simp) (by unfold LL;omega);have hm:Cg [] (dQ r)=dQ r:=by cases dQ r<;>rfl
 rw[hm,show([a,k]++r)=a::k::r from rfl,show((([a,k]:List (List UInt8)).length:Nat):Int)=2 from rfl,show Ox []=Ow.nil from rfl] at this;rw[cT (show((a::k::r).map SB)[1]?=some (SB k) from rfl),bP];exact this
def cp:List UInt8:=[104,111,108,101]
def cD:List UInt8:=[116,101,101]
def cJ:List UInt8:=[99,117,112]
def cG:List UInt8:=[118,105,97]
def bX:List UInt8:=[97,114,101,97]
theorem oX(c:UInt8):∀l:List UInt8,(spl c l).length≤l.length+1
 |[]=>by simp[spl]
 |x::r=>by
  have:=oX c r;unfold spl;split
  ·simp;omega
  ·have h:=List.length_pos_iff.2 (mc c r);simp only[za7,List.length_tail];omega
theorem oY(c:UInt8):∀(l:List UInt8),∀w∈spl c l,w.length≤l.length
 |[],w,h=>by simp[spl] at h;subst h;simp
 |x::r,w,h=>by
  have ih:=oY c r;unfold spl at h;split at h
  ·rcases List.mem_cons.1 h with e|h
   ·subst e;simp
   ·have:=ih w h;simp;omega
  ·rcases List.mem_cons.1 h with e|h
   ·subst e;have h1:(spl c r).headD []∈spl c r:=by
     cases hs:spl c r with
     |nil=>exact absurd hs (mc c r)
     |cons a b=>simp
    have:=ih _ h1;simp only[za7];omega
   ·have:=ih w (List.mem_of_mem_tail h);simp;omega
def jF(h:Hl)(k:List UInt8)(c:List Pt):Hl:={h with areas:=h.areas++[(bs k,c.isEmpty,c)],af:=false}
def tX(h:Hl)(p:Pt):Hl:={h with line:=h.line++[p],lf:=false}
def mQ(x y:List UInt8):Bool:=(cR x).2&&(cR y).2
def ry(x y:List UInt8):Pt:=((cR x).1,(cR y).1)
def rd3(i:Nat)(h:Hl):List (List UInt8)→Hl×Bool
 |[a,x,y]=>if i=1 then({h with tee:=ry x y},mQ x y&&a==cD) else if i=2 then({h with cup:=ry x y},mQ x y&&a==cJ) else(tX h (ry x y),mQ x y&&(a==cG&&h.areas.isEmpty))
 |_=>(h,false)
theorem tY(i:Nat)(h:Hl)(a x y:List UInt8):rd3 i h [a,x,y]=if i=1 then({h with tee:=ry x y},mQ x y&&a==cD) else if i=2 then({h with cup:=ry x y},mQ x y&&a==cJ) else(tX h (ry x y),mQ x y&&(a==cG&&h.areas.isEmpty)):=rfl
def KM(h:Hl)(k:List UInt8):Option (List Pt)→Hl×Bool
 |some c=>(jF h k c,true)
 |none=>(jF h [] [],false)
def zT(i:Nat)(h:Hl)(w:List (List UInt8)):Hl×Bool:=if fA w then
  (if i=0 then(match w with
   |[a,n]=>if a==cp then({h with name:=bs n},true) else(h,false)
   |_=>(h,false))
  else if 2<i then(match w with
   |a::k::r=>if a==bX then KM h k (dQ r) else rd3 i h w
   |_=>(h,false))
  else rd3 i h w) else(h,false)
def zU(x:Hl×Bool):D:= .tup [bQ x.1,.bool x.2]
theorem dB{α:Type}{l:List (List UInt8)}{j:Nat}{x:List UInt8}{k:ByteArray→Option α}{r:Option α}(h:l[j]?=some x)(h2:k (bs x)=r):bu (l.map SB) j (fun d=>bU d k)=r:=by
 rw[cT (show(l.map SB)[j]?=some (SB x) by rw[zc3,h];rfl),bP];exact h2
theorem G2(l:List Pt):(bJ l).all D.one=true:=by
 induction l with
 |nil=>rfl
 |cons p l ih=>simp only[bJ,List.flatMap_cons,List.all_append] at ih ⊢;rw[ih];rfl
theorem G3(l:List Ar):(bV l).length=l.length*2:=by
 induction l with
 |nil=>rfl
 |cons p l ih=>simp only[bV,List.flatMap_cons,za6,za7] at ih ⊢;rw[ih];simp[Nf];omega
theorem G4(l:List Ar):(bV l).all D.one=true:=by
 induction l with
 |nil=>rfl
 |cons p l ih=>simp only[bV,List.flatMap_cons,List.all_append] at ih ⊢;rw[ih];rfl
theorem G5{n:Nat}(h:n≤1000001):n*16≤limit∧n≤4611686018427387903:=by
 have:(1000001:Nat)*16≤limit:=by decide
 exact⟨zb1 (Nat.mul_le_mul_right _ h) this,by omega⟩
theorem DR{n:Nat}(h:n≤1000001):n*40≤limit∧n≤4611686018427387903:=by
 have:(1000001:Nat)*40≤limit:=by decide
 exact⟨zb1 (Nat.mul_le_mul_right _ h) this,by omega⟩
theorem EX(l:List Ar)(k:List UInt8)(c:List Pt):bV (l++[(bs k,c.isEmpty,c)])=bV l++[SB k,TJ c]:=by simp[bV,Nf,TJ]
theorem G6{call:CL}{h:Hl}{f:Bool}{a x y:List UInt8}(b:Bool)(n:Nat)(c z:List D):ko call LL C1 f 3 [SB a,SB x,SB y] h.name h.tee.1 h.tee.2 h.cup.1 h.cup.2 h.af h.areas.length (bV h.areas) b n c z=
  some (.tup [.agg [.str h.name,.int .i64 h.tee.1,.int .i64 h.tee.2,.int .i64 h.cup.1,.int .i64 h.cup.2,.slc false n c,.slc h.af h.areas.length (bV h.areas)],.bool (b&&(a==cG&&h.areas.isEmpty))]):=by
 have hz:(((h.areas.length:Nat):Int)==0)=h.areas.isEmpty:=by cases h.areas<;>simp<;>omega
 rw[xV _ _ _ _ _ _ _ _ _ _ _ _ _ _ _ _ _ _ c1];cases b with
 |false=>rfl
 |true=>
  rw[bx];refine bK rfl (dB (l:=[a,x,y]) (x:=a) rfl ?_);show bz (ByteArray.toList (bs a)==ByteArray.toList (bs cG)) _ _=_;rw[fe,hz];cases a==cG<;>rfl
theorem Oz{call:CL}{h:Hl}{i:Nat}{f:Bool}(w:List (List UInt8))(hne:w≠[])(hi0:i≠0)(hi:i≤100000)(hline:h.line.length≤100000)(h190:∀a x y,w=[a,x,y]→call 190 [SB x,SB y]=some (gz x y)):
  sf call LL C1 (i:Int) f w.length (w.map SB) h.name h.tee.1 h.tee.2 h.cup.1 h.cup.2 h.lf h.line.length (bJ h.line) h.af h.areas.length (bV h.areas)=some (zU (rd3 i h w)):=by
 rw[Ca _ _ _ _ _ _ _ _ _ _ _ _ _ _ _ _ _ _ c1];by_cases h3:w.length=3
 ·obtain⟨a,x,y,rfl⟩:∃a x y,w=[a,x,y]:=by
   match w,h3 with
   |[a,x,y],_=>exact⟨a,x,y,rfl⟩
  have g:=h190 a x y rfl;rw[show(((([a,x,y]:List (List UInt8)).length:Nat):Int) !=3)=false from rfl,bv];refine bK rfl (dB rfl (bK rfl (dB rfl (bI g ?_))));unfold gz;show bz ((i:Int)==1) (bz (mQ x y) _ _) _=_;rw[tY];by_cases i1:i=1
  ·subst i1;rw[show(((1:Nat):Int)==1)=true from rfl,bx,if_pos rfl];cases hb:mQ x y with
   |false=>rfl
   |true=>
    rw[bx];refine bK rfl (dB rfl ?_);show some (D.tup [_,D.bool (ByteArray.toList (bs a)==ByteArray.toList (bs cD))])=_;rw[fe];rfl
  ·have e1:((i:Int)==1)=false:=by simp;omega
   rw[e1,bv,if_neg i1];by_cases i2:i=2
   ·subst i2;rw[show(((2:Nat):Int)==2)=true from rfl,bx,if_pos rfl];show bz (mQ x y) _ _=_;cases hb:mQ x y with
    |false=>rfl
    |true=>
     rw[bx];refine bK rfl (dB rfl ?_);show some (D.tup [_,D.bool (ByteArray.toList (bs a)==ByteArray.toList (bs cJ))])=_;rw[fe];rfl
   ·have e2:((i:Int)==2)=false:=by simp;omega
    rw[e2,bv,if_neg i2,za1 (zo h.line),bC,G2,bC];have ev:zU (tX h (ry x y),mQ x y&&(a==cG&&h.areas.isEmpty))= .tup [.agg [.str h.name,.int .i64 h.tee.1,.int .i64 h.tee.2,.int .i64 h.cup.1,.int .i64 h.cup.2,.slc false (0+h.line.length+1) (bJ h.line++[.int .i64 (cR x).1,.int .i64 (cR y).1]),.slc h.af h.areas.length (bV h.areas)],.bool (mQ x y&&(a==cG&&h.areas.isEmpty))]:=by
     unfold zU tX;show D.tup [D.agg [_,_,_,_,_,D.slc false ((h.line++[ry x y]).length) (bJ (h.line++[ry x y])),_],_]=_;rw[qj];simp[ry]
    rw[ev];cases hln:h.line with
    |nil=>
     rw[show decide (([]:List Pt).length=0)=true from rfl,bx];exact G6 (mQ x y) 1 _ _
    |cons p l=>
     rw[hln] at hline;have l1:=G5 (n:=0+(p::l).length) (by omega);have l2:=G5 (n:=0+(p::l).length+1) (by omega);rw[za2 (by simp),bv];exact bK (za1 ⟨by simp,rfl,l1.1,l1.2⟩) (bK (za1 ⟨l2.1,by omega⟩) (G6 (mQ x y) (0+(p::l).length+1) _ _))
 ·have hr:rd3 i h w=(h,false):=by
   unfold rd3;split
   ·exact absurd rfl h3
   ·rfl
  have e1:((w.length:Int) !=3)=true:=by simp;omega
  rw[e1,bx,hr];rfl
theorem OA{call:CL}{h:Hl}{i:Nat}{f:Bool}(w:List (List UInt8))(k:List UInt8)(o:Option (List Pt))(har:h.areas.length≤100000)(g:call 189 [.slc f w.length (w.map SB)]=some (Oy k o)):
  jh call LL C1 (i:Int) h.name h.tee.1 h.tee.2 h.cup.1 h.cup.2 h.lf h.line.length (bJ h.line) h.af h.areas.length (bV h.areas) f w.length (w.map SB) true=some (zU (KM h k o)):=by
 rw[qT _ _ _ _ _ _ _ _ _ _ _ _ _ _ _ _ _ _ _ c1,bx,g,bA];have key:∀(k2:List UInt8) (c:List Pt) (b:Bool),(bH (decide (List.length (bV h.areas)=h.areas.length*2)) (bH (List.all (bV h.areas) D.one) (bz (decide (h.areas.length=0))
   (some (D.tup [D.agg [D.str h.name,D.int IntKind.i64 h.tee.1,D.int IntKind.i64 h.tee.2,D.int IntKind.i64 h.cup.1,D.int IntKind.i64 h.cup.2,D.slc h.lf h.line.length (bJ h.line),D.slc false 1 [D.str (bs k2),D.slc c.isEmpty c.length (bJ c)]],D.bool b]))
   (bH (decide (0<h.areas.length∧0=0∧(0+h.areas.length)*40≤limit∧0+h.areas.length≤4611686018427387903))
    (bH (decide ((0+h.areas.length+1)*40≤limit∧0+h.areas.length+1≤9223372036854775807))
     (some (D.tup [D.agg [D.str h.name,D.int IntKind.i64 h.tee.1,D.int IntKind.i64 h.tee.2,D.int IntKind.i64 h.cup.1,D.int IntKind.i64 h.cup.2,D.slc h.lf h.line.length (bJ h.line),D.slc false (0+h.areas.length+1) (bV h.areas++[D.str (bs k2),D.slc c.isEmpty c.length (bJ c)])],D.bool b])))))))=some (zU (jF h k2 c,b)):=fun k2 c b=>by
  rw[za1 (G3 h.areas),bC,G4,bC];cases hln:h.areas with
  |nil=>
   rw[show decide (([]:List Ar).length=0)=true from rfl,bx];unfold zU jF;rw[hln];rfl
  |cons p l=>
   rw[hln] at har;have l1:=DR (n:=0+(p::l).length) (by omega);have l2:=DR (n:=0+(p::l).length+1) (by omega);rw[za2 (by simp),bv];refine bK (za1 ⟨by simp,rfl,l1.1,l1.2⟩) (bK (za1 ⟨l2.1,by omega⟩) ?_);unfold zU jF;rw[hln];show some (D.tup [D.agg [_,_,_,_,_,_,D.slc false (0+(p::l).length+1) _],_])=some (D.tup [D.agg [_,_,_,_,_,_,D.slc false ((p::l++[(bs k2,c.isEmpty,c)]).length) (bV (p::l++[(bs k2,c.isEmpty,c)]))],_]);rw[EX];simp[TJ]
 cases o with
 |some c=>exact key k c true
 |none=>exact key [] [] false
def mR(i:Nat)(h:Hl)(l:List UInt8):Hl×Bool:=zT i h (spl 32 l)
theorem L7{i:Nat}{h:Hl}{w:List (List UInt8)}(hf:fA w=false):zT i h w=(h,false):=by unfold zT;rw[hf];rfl
theorem L8(h:Hl)(i:Nat)(l:List UInt8)(hi:i≤100000)(hl:l.length≤100000)(hline:h.line.length≤100000)(har:h.areas.length≤100000):OK2 134 [bQ h,.int .i64 (i:Int),SB l] (zU (mR i h l)):=by
 unfold mR;have hlen:=oX 32 l;have hmem:=oY 32 l;have hne:=mc 32 l;have h133:OK2 133 [SB l,.int .u8 32] (lR (spl 32 l)):=L6 l 32 (by omega);generalize spl 32 l=w at*;have h188:OK2 188 [.slc false w.length (w.map SB)] (.bool (fA w)):=Sx w (by omega);have PY:∃o:Option (List Pt),∃k,∃B,dA B∧bw B 133 [SB l,.int .u8 32]=some (lR w)∧bw B 188 [.slc false w.length (w.map SB)]=some (.bool (fA w))∧(∀a x y,w=[a,x,y]→bw B 190 [SB x,SB y]=some (gz x y))∧(∀a k' r,w=a::k'::r→k=k'∧o=dQ r∧bw B 189 [.slc false w.length (w.map SB)]=some (Oy k o)):=by
  match w,hlen,hmem,hne,h133,h188 with
  |[a],hlen,hmem,hne,h133,h188=>
   obtain⟨B,hB,e1,e2,e3,_⟩:=fP [one 133 [SB l,.int .u8 32] (lR [a]),one 188 [.slc false 1 [SB a]] (.bool (fA [a])),fam190] ⟨bM h133 rfl,bM h188 rfl,mg,trivial⟩ rfl;exact⟨none,[],B,hB,e1 (),e2 (),fun _ _ _ e=>by simp at e,fun _ _ _ e=>by simp at e⟩
  |a::k::r,hlen,hmem,hne,h133,h188=>
   have h189:OK2 189 [.slc false (a::k::r).length ((a::k::r).map SB)] (Oy k (dQ r)):=Sz a k r (by simp at hlen;omega) fun x hx=>zb1 (hmem x (by simp[hx])) (by omega);obtain⟨B,hB,e1,e2,e3,e4,_⟩:=fP [one 133 [SB l,.int .u8 32] (lR (a::k::r)),one 188 [.slc false (a::k::r).length ((a::k::r).map SB)] (.bool (fA (a::k::r))),fam190,one 189 [.slc false (a::k::r).length ((a::k::r).map SB)] (Oy k (dQ r))] ⟨bM h133 rfl,bM h188 rfl,mg,bM h189 rfl,trivial⟩ rfl;refine⟨dQ r,k,B,hB,e1 (),e2 (),fun a' x y e=> ?_,fun a' k' r' e=> ?_⟩
   ·refine e3 ⟨(x,y),?_,?_⟩<;>exact zb1 (hmem _ (by rw[e];simp)) (by omega)
   ·simp only[zc5] at e;obtain⟨_,rfl,rfl⟩:=e;exact⟨rfl,rfl,e4 ()⟩
 obtain⟨o,k,B,hB,g1,g2,g3,g4⟩:=PY;refine dT hB Tryz.func134 (ord:=GV) (N:=GU) (by kernel_rfl) ((KG _ _ _ _ _ _ _ _ _ _ _ _ _ _ _ _).trans (bI g1 ?_));unfold lR;rw[cL,g2,bA,cj];cases hfu:fA w with
 |false=>
  rw[L7 hfu];rfl
 |true=>
  rw[show(!true)=false from rfl,bv];by_cases hi0:i=0
  ·subst hi0;rw[show(((0:Nat):Int)==0)=true from rfl,bx];by_cases h2:w.length=2
   ·obtain⟨a,n,rfl⟩:∃a n,w=[a,n]:=by
     match w,h2 with
     |[a,n],_=>exact⟨a,n,rfl⟩
    have er:zT 0 h [a,n]=if a==cp then({h with name:=bs n},true) else(h,false):=by unfold zT;rw[hfu];rfl
    rw[show(((([a,n]:List (List UInt8)).length:Nat):Int) !=2)=false from rfl,bv,er];refine bK rfl (dB rfl ?_);show bz (!(ByteArray.toList (bs a)==ByteArray.toList (bs cp))) _ _=_;rw[fe];cases hb:a==cp with
    |false=>rfl
    |true=>
     rw[show(!true)=false from rfl,bv];exact bK rfl (dB rfl rfl)
   ·have er:zT 0 h w=(h,false):=by
     unfold zT;rw[hfu,if_pos rfl,if_pos rfl];split
     ·exact absurd rfl h2
     ·rfl
    rw[show((w.length:Int) !=2)=true by simp;omega,bx,er];rfl
  ·rw[show((i:Int)==0)=false by simp;omega,bv];have h63:=Oz (call:=bw B) (h:=h) (i:=i) (f:=false) w hne hi0 hi hline g3;have hfalse:jh (bw B) LL C1 (i:Int) h.name h.tee.1 h.tee.2 h.cup.1 h.cup.2 h.lf h.line.length (bJ h.line) h.af h.areas.length (bV h.areas) false w.length (w.map SB) false=some (zU (rd3 i h w)):=by
    rw[qT _ _ _ _ _ _ _ _ _ _ _ _ _ _ _ _ _ _ _ c1,bv];exact h63
   by_cases hi2:2<i
   ·rw[za1 (show(i:Int)>2 by omega),bx];obtain⟨a,r,rfl⟩:∃a r,w=a::r:=by
     cases w with
     |nil=>exact absurd rfl hne
     |cons a r=>exact⟨a,r,rfl⟩
    refine bK (za1 ⟨by decide,by simp only[za7];omega⟩) (dB (x:=a) rfl ?_);show bz (ByteArray.toList (bs a)==ByteArray.toList (bs bX)) _ _=_;rw[fe];by_cases h2:r=[]
    ·subst h2;have er:zT i h [a]=(h,false):=by unfold zT;rw[hfu,if_pos rfl,if_neg hi0,if_pos hi2]
     have e3:rd3 i h [a]=(h,false):=rfl;rw[e3] at hfalse;rw[er,show(decide ((([a]:List (List UInt8)).length:Int)≥2))=false from rfl,hfalse];cases a==bX<;>rfl
    ·obtain⟨k',r',rfl⟩:∃k r',r=k::r':=by
      cases r with
      |nil=>exact absurd rfl h2
      |cons k r'=>exact⟨k,r',rfl⟩
     obtain⟨rfl,rfl,g5⟩:=g4 a k' r' rfl;have er:zT i h (a::k::r')=if a==bX then KM h k (dQ r') else rd3 i h (a::k::r'):=by unfold zT;rw[hfu,if_pos rfl,if_neg hi0,if_pos hi2]
     have ha:=OA (call:=bw B) (h:=h) (i:=i) (f:=false) (a::k::r') k (dQ r') har g5;rw[za1 (show(((a::k::r').length:Nat):Int)≥2 by simp;omega),er,ha,hfalse];cases a==bX<;>rfl
   ·rw[za2 (show¬(i:Int)>2 by omega),bv,hfalse];have er:zT i h w=rd3 i h w:=by unfold zT;rw[hfu,if_pos rfl,if_neg hi0,if_neg hi2]
    rw[er]
def h00:Hl:=⟨bs [],(0,0),(0,0),true,[],true,[]⟩
def iI:Nat→Hl→List (List UInt8)→Nat ⊕ Hl
 |_,h,[]=> .inr h
 |i,h,l::r=>if(mR i h l).2 then iI (i+1) (mR i h l).1 r else .inl (i+1)
theorem eG(i:Nat)(h:Hl)(l:List UInt8)(r:List (List UInt8)):iI i h (l::r)=if(mR i h l).2 then iI (i+1) (mR i h l).1 r else .inl (i+1):=rfl
def yR(x:Hl×Nat×Int):D:= .tup [bQ x.1,.int .i64 (x.2.1:Int),.int .i64 x.2.2]
def zV(n:Nat):Nat ⊕ Hl→Hl×Nat×Int
 | .inl k=>(h00,k,25)
 | .inr h=>if n<3 then(h00,n+1,25) else if db h !=0 then(h00,0,db h) else(h,0,0)
def G7(l:List UInt8):Hl×Nat×Int:=if l.getLast?==some 10 then zV (spl 10 l.dropLast).length (iI 0 h00 (spl 10 l.dropLast)) else(h00,0,28)
structure Got(n m:Nat)(h:Hl):Prop where
 nm:h.name.size≤m
 ln:h.line.length≤n
 ar:h.areas.length≤n
 co:∀a∈h.areas,a.2.2.length≤m
theorem DS:∀(r:List (List UInt8)) (c:List Pt),dQ r=some c→c.length≤r.length
 |[],c,h=>by cases h;simp
 |w::r,c,h=>by
  rw[kv] at h;cases hp:EW w with
  |none=>rw[hp] at h;cases h
  |some p=>
   rw[hp] at h;dsimp only at h;cases hr:dQ r with
   |none=>rw[hr] at h;cases h
   |some q=>rw[hr] at h;cases h;have:=DS r q hr;simp;exact this
theorem Got.mono{n m n':Nat}{h:Hl}(g:Got n m h)(hn:n≤n'):Got n' m h:=⟨g.nm,zb1 g.ln hn,zb1 g.ar hn,g.co⟩
theorem Got.area{n m:Nat}{h:Hl}(g:Got n m h)(k:List UInt8)(c:List Pt)(hc:c.length≤m):Got (n+1) m (jF h k c):=⟨g.nm,zb1 g.ln (Nat.le_succ _),by unfold jF;have:=g.ar;simp;omega,fun a ha=>by
 unfold jF at ha;rcases za9.1 ha with ha|ha
 ·exact g.co a ha
 ·simp at ha;subst ha;exact hc⟩
theorem Got.rd3{n m i:Nat}{h:Hl}(g:Got n m h)(w:List (List UInt8)):Got (n+1) m (rd3 i h w).1:=by
 unfold Go.Pd.rd3;split
 ·split
  ·exact⟨g.nm,zb1 g.ln (Nat.le_succ _),zb1 g.ar (Nat.le_succ _),g.co⟩
  ·split
   ·exact⟨g.nm,zb1 g.ln (Nat.le_succ _),zb1 g.ar (Nat.le_succ _),g.co⟩
   ·exact⟨g.nm,by unfold tX;have:=g.ln;simp;omega,zb1 g.ar (Nat.le_succ _),g.co⟩
 ·exact g.mono (Nat.le_succ _)
theorem Got.rd{n m i:Nat}{h:Hl}(g:Got n m h)(l:List UInt8)(hl:l.length≤m):Got (n+1) m (mR i h l).1:=by
 unfold mR;have hlen:=oX 32 l;have hmem:=oY 32 l;generalize spl 32 l=w at*;unfold zT;split
 ·split
  ·split
   ·rename_i a nm hfu;split
    ·exact⟨by show(bs nm).size≤m;rw[bL];exact zb1 (hmem nm (by simp)) hl,zb1 g.ln (Nat.le_succ _),zb1 g.ar (Nat.le_succ _),g.co⟩
    ·exact g.mono (Nat.le_succ _)
   ·exact g.mono (Nat.le_succ _)
  ·split
   ·split
    ·rename_i a k r hfu;split
     ·cases hc:dQ r with
      |none=>exact g.area [] [] (Nat.zero_le _)
      |some c=>exact g.area k c (by have:=DS r c hc;simp at hlen;omega)
     ·exact g.rd3 _
    ·exact g.mono (Nat.le_succ _)
   ·exact g.rd3 _
 ·exact g.mono (Nat.le_succ _)
theorem Got.prs{m:Nat}:∀(r:List (List UInt8)) {n i:Nat} {h h':Hl},Got n m h→(∀l∈r,l.length≤m)→iI i h r= .inr h'→Got (n+r.length) m h'
 |[],n,i,h,h',g,_,e=>by cases e;exact g
 |l::r,n,i,h,h',g,hm,e=>by
  rw[eG] at e;split at e
  ·have:=Got.prs r (g.rd (i:=i) l (hm l (by simp))) (fun x hx=>hm x (by simp[hx])) e;exact this.mono (by simp;omega)
  ·cases e
theorem SA(m:Nat):Got 0 m h00:=⟨by show(bs []).size≤m;rw[bL];exact Nat.zero_le _,zb0 _,zb0 _,fun a ha=>by cases ha⟩
theorem VF{call:CL}{f:Bool}{m N:Nat}(hm:m≤100000)(hN:N≤100000)(h134:∀(h:Hl) (i:Nat) (l:List UInt8),i≤100000→l.length≤100000→h.line.length≤100000→h.areas.length≤100000→call 134 [bQ h,.int .i64 (i:Int),SB l]=some (zU (mR i h l))):
  ∀(r pre:List (List UInt8)) (h:Hl) (fuel:Nat),(pre++r).length=N→(∀l∈r,l.length≤m)→Got pre.length m h→(∀h',iI pre.length h r= .inr h'→call 18 [bQ h']=some (.int .i64 (db h')))→r.length<fuel→
  lc call LL C1 fuel f N ((pre++r).map SB) (pre.length:Int) h.name h.tee.1 h.tee.2 h.cup.1 h.cup.2 (.slc h.lf h.line.length (bJ h.line)) (.slc h.af h.areas.length (bV h.areas))=some (yR (zV N (iI pre.length h r))):=by
 intro r
 induction r with
 |nil=>
  intro pre h fuel hl hw g h18 hf;obtain⟨fuel,rfl⟩:∃n,fuel=n+1:=⟨fuel-1,by omega⟩;rw[zb6] at hl ⊢;rw[oT,hl,za2 (by omega),bv];have g18:=h18 h rfl;show _=some (yR (if N<3 then(h00,N+1,25) else if db h !=0 then(h00,0,db h) else(h,0,0)));by_cases h3:N<3
  ·rw[za1 (by omega),bx,if_pos h3,bS (by omega)];rfl
  ·rw[za2 (by omega),bv,if_neg h3];refine bI g18 ?_;rw[bF];cases db h !=0<;>rfl
 |cons l r ih=>
  intro pre h fuel hl hw g h18 hf;obtain⟨fuel,rfl⟩:∃n,fuel=n+1:=⟨fuel-1,by omega⟩;have hlen:pre.length<N:=by rw[←hl];simp
  have hll:=hw l (by simp);have hgn:=g.ln;have hga:=g.ar;have hc:((pre++l::r).map SB)[Int.toNat (pre.length:Int)*1]?=some (SB l):=by rw[za3,Nat.mul_one];simp
  have g1:=h134 h pre.length l (by omega) (by omega) (by omega) (by omega);rw[oT,za1 (by omega),bx,za1 ⟨by omega,by omega⟩,bC,cT hc,bP,g1,bA];rw[eG] at h18 ⊢;have hwr:IntKind.wrap .i64 ((pre.length:Int)+1)=((pre++[l]).length:Int):=by rw[bS (by omega)];simp
  rw[hwr];have hb:zU (mR pre.length h l)= .tup [bQ (mR pre.length h l).1,.bool (mR pre.length h l).2]:=rfl;rw[hb];cases hok:(mR pre.length h l).2 with
  |false=>
   rw[if_neg (by decide)];have:(pre++[l]).length=pre.length+1:=by simp
   rw[this];rfl
  |true=>
   rw[hok,if_pos rfl] at h18;rw[if_pos rfl];have ih:=ih (pre++[l]) (mR pre.length h l).1 fuel (by simpa using hl) (fun x hx=>hw x (by simp[hx])) (by simpa using g.rd (i:=pre.length) l hll) (by simpa using h18) (by simpa using hf);rw[za8,List.singleton_append] at ih;have e1:(pre++[l]).length=pre.length+1:=by simp
   rw[e1] at ih ⊢;exact ih
def dn1:D→D
 | .slc f n cs=> .slc f n (cs.map canon0)
 |d=>canon0 d
def dn2:D→D
 | .agg cs=> .agg (cs.map dn1)
 |d=>dn1 d
def dn3:D→D
 | .tup cs=> .tup (cs.map dn2)
 |d=>dn2 d
section
variable {I:Nat→Prop}{w:World}{d:D}{v:Value}
theorem DT{f:D→D}(hf:∀{d v},RelC I w d v→RelC I w (f d) v){b:Bool}{n:Nat}{cs:List D}(h:RelC I w (.slc b n cs) v):RelC I w (.slc b n (cs.map f)) v:=by
 cases h with
 |slcn=>exact .slcn b
 |slc _ _ _ a cap us hI h1 h2 hc hr=>
  refine .slc b n _ a cap us (fun h=>hI (by simpa using h)) h1 h2 (fun j d hj=> ?_) fun j d hj=> ?_
  ·rw[zc3] at hj;cases hx:cs[j]? with
   |none=>rw[hx] at hj;cases hj
   |some x=>exact hc j x hx
  ·rw[zc3] at hj;cases hx:cs[j]? with
   |none=>rw[hx] at hj;cases hj
   |some x=>rw[hx] at hj;cases hj;exact hf (hr j x hx)
theorem RelC.dn1(h:RelC I w d v):RelC I w (dn1 d) v:=by
 cases d with
 |slc f n cs=>exact DT (fun h=>h.canon0) h
 |_=>exact h.canon0
theorem RelC.dn2(h:RelC I w d v):RelC I w (dn2 d) v:=by
 cases d with
 |agg cs=>
  cases h with
  |agg _ vs hl hr=>
   obtain⟨h1,h2⟩:=jR (fun h=>h.dn1) hl hr;exact .agg _ _ h1 h2
 |_=>exact h.dn1
theorem RelC.dn3(h:RelC I w d v):RelC I w (dn3 d) v:=by
 cases d with
 |tup cs=>
  cases h with
  |tup _ vs hl hr=>
   obtain⟨h1,h2⟩:=jR (fun h=>h.dn2) hl hr;exact .tup _ _ h1 h2
 |_=>exact h.dn2
end
theorem L9{k:FuncId}{ds:List D}{r:D}(h:OK2 k (ds.map dn2) r):OK2 k ds r:=by
 refine⟨h.1,fun I w vs hI hgl hl hr=> ?_⟩;obtain⟨h1,h2⟩:=jR (fun h=>h.dn2) hl hr;exact h.2 I w vs hI hgl h1 h2
theorem OB{k:FuncId}{ds:List D}{r:D}(h:OK2 k ds r):OK2 k ds (dn3 r):=by
 refine⟨h.1,fun I w vs hI hgl hl hr=>(h.2 I w vs hI hgl hl hr).mono ?_⟩
 rintro en w' ⟨v,h1,h2,h3⟩
 exact⟨v,h1,h2.dn3,h3⟩
def jX(l:List UInt8):Hl×Nat×Int:=if 4096<l.length then(h00,0,26) else G7 l
def cC(l:List UInt8):List (List UInt8):=spl 10 l.dropLast
theorem nL(l:List UInt8):(cC l).length≤l.length+1:=zb1 (oX 10 _) (by rw[List.length_dropLast];omega)
theorem nM(l:List UInt8):∀w∈cC l,w.length≤l.length:=fun w hw=>zb1 (oY 10 _ w hw) (by rw[List.length_dropLast];omega)
theorem DU:∀{a b:List Ar},bV a=bV b→a=b
 |[],[],_=>rfl
 |[],_::_,h=>by cases h
 |_::_,[],h=>by cases h
 |x::a,y::b,h=>by
  obtain⟨x1,x2,x3⟩:=x;obtain⟨y1,y2,y3⟩:=y;have h:(D.str x1::D.slc x2 x3.length (bJ x3)::bV a)=(D.str y1::D.slc y2 y3.length (bJ y3)::bV b):=h;simp only[zc5,D.str.injEq,D.slc.injEq] at h;rw[h.1,h.2.1.1,fT h.2.1.2.2,DU h.2.2]
theorem tZ{x y:Hl}(h:bQ x=bQ y):x=y:=by
 obtain⟨n,⟨t1,t2⟩,⟨c1,c2⟩,lf,l,af,ar⟩:=x;obtain⟨n',⟨t1',t2'⟩,⟨c1',c2'⟩,lf',l',af',ar'⟩:=y;simp only[D.agg.injEq,zc5,D.str.injEq,D.int.injEq,D.slc.injEq,true_and,and_true] at h;obtain⟨rfl,rfl,rfl,rfl,rfl,⟨rfl,_,e1⟩,rfl,_,e2⟩:=h;rw[fT e1,DU e2]
abbrev OC:D:= .agg [.str (bs []),.int .i64 0,.int .i64 0,.int .i64 0,.int .i64 0,.nils,.nils]
def OD:Option Hl→D
 |none=>OC
 |some h=>bQ h
def SC:Option Hl→Hl
 |none=>h00
 |some h=>h
theorem KN{a b:Option Hl}(e:OD a=OD b):a=b:=by
 cases a with
 |none=>
  cases b with
  |none=>rfl
  |some h=>simp[OD] at e
 |some h=>
  cases b with
  |none=>simp[OD] at e
  |some h'=>rw[tZ (x:=h) (y:=h') e]
def fam134:Fam:=⟨134,{q:Option Hl×Nat×List UInt8//q.2.1≤100000∧q.2.2.length≤100000∧(SC q.1).line.length≤100000∧(SC q.1).areas.length≤100000},fun q=>[OD q.1.1,.int .i64 (q.1.2.1:Int),SB q.1.2.2],fun q=>zU (mR q.1.2.1 (SC q.1.1) q.1.2.2)⟩
theorem zW:fam134.Good:=⟨fun⟨(o,i,l),h1,h2,h3,h4⟩=>by
 cases o with
 |none=>exact L9 (ds:=[OC,.int .i64 (i:Int),SB l]) (L8 h00 i l h1 h2 h3 h4)
 |some h=>exact L8 h i l h1 h2 h3 h4,fun x y e=>by
 have e:[OD x.1.1,D.int .i64 (x.1.2.1:Int),SB x.1.2.2]=[OD y.1.1,.int .i64 (y.1.2.1:Int),SB y.1.2.2]:=e;simp only[zc5,D.str.injEq,D.int.injEq,true_and,and_true] at e;show zU (mR x.1.2.1 (SC x.1.1) x.1.2.2)=zU (mR y.1.2.1 (SC y.1.1) y.1.2.2);rw[KN e.1,Int.ofNat.inj e.2.1,eE e.2.2],fun _=>rfl⟩
def fam18:Fam:=⟨18,{h:Hl//h.Ok},fun h=>[bQ h.1],fun h=> .int .i64 (db h.1)⟩
theorem Ch:fam18.Good:=⟨fun h=>RN h.1 h.2,fun x y e=>by
 have e:[bQ x.1]=[bQ y.1]:=e;simp only[zc5,and_true] at e;show D.int .i64 (db x.1)= .int .i64 (db y.1);rw[tZ e],fun _=>rfl⟩
def xY(l:List UInt8):Prop:=∀h',iI 0 h00 (cC l)= .inr h'→h'.Ok
theorem VG(l:List UInt8)(hl:l.length≤5000)(hfit0:l.length≤4096→xY l):OK2 73 [SB l] (yR (jX l)):=by
 have hlen:=nL l;have hmem:=nM l;have hne:cC l≠[]:=mc 10 _;obtain⟨B,hB,e1,e2,e3,_⟩:=fP [fam134,fam18,fam133] ⟨zW,Ch,qV,trivial⟩ rfl;refine dT hB Tryz.func73 (ord:=O0) (N:=TI) (by kernel_rfl) ((Oo _ _ _ _).trans ?_);rw[bL];unfold jX;by_cases h96:4096<l.length
 ·rw[za1 (by omega),bx,if_pos h96];rfl
 ·rw[za2 (by omega),bv,qi,if_neg h96];unfold G7;cases hc:l with
  |nil=>rfl
  |cons x r=>
   rw[show((x::r:List UInt8)==[])=false by simp,bv,←hc];have hpos:0<l.length:=by rw[hc];simp
   have hw:IntKind.wrap .i64 ((l.length:Int)-1)=((l.length-1:Nat):Int):=by rw[bS (by omega)];omega
   have hlast:l[l.length-1]?=l.getLast?:=by rw[List.getLast?_eq_getElem?]
   obtain⟨z,hz⟩:∃z,l.getLast?=some z:=⟨l.getLast (by intro e;rw[e] at hpos;cases hpos),List.getLast?_eq_some_getLast _⟩;rw[hz] at hlast;rw[hw];refine bK (za1 ⟨by omega,by rw[za3];omega⟩) ?_;rw[za3,nc hlast,hz,show(some z==some (10:UInt8))=(z==10) from rfl];rw[show((z.toNat:Int) !=10)= !(z==10) by rw[bne,show(10:Int)=((10:UInt8).toNat:Int) from rfl,wb];rfl];cases hz10:z==10 with
   |false=>rfl
   |true=>
    rw[show(!true)=false from rfl,bv,if_pos rfl,ET _ _ _ _ c1,bL,hw];refine bK (za1 ⟨by omega,by omega,by omega⟩) ?_;have hx:ByteArray.extract (bs l) 0 (Int.toNat ((l.length-1:Nat):Int))=bs l.dropLast:=by rw[za3,kY,List.drop_zero,←List.dropLast_eq_take]
    rw[hx,show bw B 133 [D.str (bs l.dropLast),D.int IntKind.u8 10]=some (lR (cC l)) from e3 ⟨(l.dropLast,10),by rw[List.length_dropLast];omega⟩,bA];unfold lR;rw[cL];show _=some (yR (zV (cC l).length (iI 0 h00 (cC l))));have hfit:=hfit0 (by omega);clear hfit0;unfold xY at hfit;generalize cC l=ls at*;cases ls with
    |nil=>exact absurd rfl hne
    |cons l0 r0=>
     have h134:∀(h:Hl) (i:Nat) (l:List UInt8),i≤100000→l.length≤100000→h.line.length≤100000→h.areas.length≤100000→bw B 134 [bQ h,.int .i64 (i:Int),SB l]=some (zU (mR i h l)):=fun h i l q1 q2 q3 q4=>e1 ⟨(some h,i,l),q1,q2,q3,q4⟩;have hl0:=hmem l0 (by simp);have g0:bw B 134 [OC,.int .i64 0,SB l0]=some (zU (mR 0 h00 l0)):=e1 ⟨(none,0,l0),Nat.zero_le _,by show l0.length≤100000;omega,Nat.zero_le _,Nat.zero_le _⟩
     suffices hs:∀fuel,400000<fuel→lc (bw B) LL C1 fuel false (l0::r0).length ((l0::r0).map SB) 0 (bs []) 0 0 0 0 Ow.nil Ow.nil=some (yR (zV (l0::r0).length (iI 0 h00 (l0::r0)))) from hs LL (by unfold LL;omega)
     intro fuel hfu;obtain⟨fuel,rfl⟩:∃n,fuel=n+1:=⟨fuel-1,by omega⟩;rw[xW,za1 (by simp only[za7];omega),bx,za1 ⟨by decide,by simp only[za7];omega⟩,bC,show IntKind.wrap .i64 ((0:Int)+1)=1 from rfl];refine dB (l:=l0::r0) (x:=l0) rfl (bI g0 ?_);rw[eG] at hfit ⊢;have hb:zU (mR 0 h00 l0)= .tup [bQ (mR 0 h00 l0).1,.bool (mR 0 h00 l0).2]:=rfl;rw[hb];cases hok:(mR 0 h00 l0).2 with
     |false=>
      rw[if_neg (by decide)];rfl
     |true=>
      rw[hok,if_pos rfl] at hfit;rw[if_pos rfl];have hg:=VF (call:=bw B) (f:=false) (m:=100000) (N:=(l0::r0).length) (by decide) (by omega) h134 r0 [l0] (mR 0 h00 l0).1 fuel rfl (fun x hx=>zb1 (hmem x (by simp[hx])) (by omega)) ((SA 100000).rd (i:=0) l0 (by omega)) (fun h' e=>e2 ⟨h',hfit h' e⟩) (by simp at hlen;omega);rw[show[l0]++r0=l0::r0 from rfl,show(([l0]:List (List UInt8)).length:Int)=1 from rfl,show([l0]:List (List UInt8)).length=0+1 from rfl] at hg;exact hg
def VH:FuncId→Option (Nat×TypeId×List PK×List PK):=fun k=>match k with
 |122=>some (1,194,lQ,lQ)
 |123=>some (0,194,lQ,lQ)
 |126=>some (0,194,lQ,lQ)
 |127=>some (0,194,lQ,TG)
 |130=>some (0,0,nI,nI)
 |183=>some (0,0,nI,nI)
 |184=>some (0,0,nI,nI)
 |_=>none
abbrev zX(mu:FuncId→List D→Option D):Prop:=∀k p T ks ks',VH k=some (p,T,ks,ks')→∀ds cells cells' r,p<ds.length→mu k (ds.set p (.agg cells))=some (.tup [.agg cells',r])→PbC Tryz.prog ig k p T ks ks' ds cells cells' r
theorem KO{mu:FuncId→List D→Option D}(h:zX mu):∀k i,Oa mu k=some i→InlOK Tryz.prog ig k i:=by
 intro k i hi;unfold Oa at hi;split at hi
 ·cases hi;exact lE (enters_of Tryz.func122 (by kernel_rfl) rfl) (h 122 _ _ _ _ rfl)
 ·cases hi;exact lE (enters_of Tryz.func123 (by kernel_rfl) rfl) (h 123 _ _ _ _ rfl)
 ·cases hi;exact lE (enters_of Tryz.func126 (by kernel_rfl) rfl) (h 126 _ _ _ _ rfl)
 ·cases hi;exact lE (enters_of Tryz.func127 (by kernel_rfl) rfl) (h 127 _ _ _ _ rfl)
 ·cases hi;exact lE (enters_of Tryz.func130 (by kernel_rfl) rfl) (h 130 _ _ _ _ rfl)
 ·cases hi;exact lE (enters_of Tryz.func183 (by kernel_rfl) rfl) (h 183 _ _ _ _ rfl)
 ·cases hi;exact lE (enters_of Tryz.func184 (by kernel_rfl) rfl) (h 184 _ _ _ _ rfl)
 ·cases hi
theorem OE:zX yW:=fun _ _ _ _ _ _ _ _ _ _ _ h=>by cases h
theorem OF{ds ds0:List D}{p:Nat}{x x0:D}(h:ds.set p x=ds0.set p x0)(hp:p<ds.length):x=x0∧ds.length=ds0.length∧∀j d,j≠p→ds[j]?=some d→ds0[j]?=some d:=by
 have hl:ds.length=ds0.length:=by have:=congrArg List.length h;simpa using this
 refine⟨?_,hl,fun j d hj hd=> ?_⟩
 ·have h1:(ds.set p x)[p]?=(ds0.set p x0)[p]?:=by rw[h]
  rw[List.getElem?_set_self hp,List.getElem?_set_self (by omega)] at h1;exact Option.some.inj h1
 ·have h1:(ds.set p x)[j]?=(ds0.set p x0)[j]?:=by rw[h]
  rw[List.getElem?_set_ne (Ne.symm hj),List.getElem?_set_ne (Ne.symm hj)] at h1;rw[←h1];exact hd
theorem PbC.turn{k:FuncId}{p:Nat}{T:TypeId}{ks ks':List PK}{ds ds0 cells cells':List D}{r:D}(h:PbC Tryz.prog ig k p T ks ks' ds0 cells cells' r)(hl:ds.length=ds0.length)(he:∀j d,j≠p→ds0[j]?=some d→ds[j]?=some d):PbC Tryz.prog ig k p T ks ks' ds cells cells' r:=by
 unfold PbC at h ⊢;split at h
 ·intro I w b vs h1 h2 h3 h4 h5 h6 h7 h8;exact h I w b vs h1 h2 h3 h4 (by omega) (by omega) h7 fun j d v hj hd hv=>h8 j d v hj (he j d hj hd) hv
 ·intro I w b c e vs ow h1 h2 h3 h4 h5 h6 h7 h8 h9 h10 h11 h12 h13 h14;exact h I w b c e vs ow h1 h2 h3 h4 h5 h6 h7 h8 h9 h10 (by omega) (by omega) h13 fun j d v hj hd hv=>h14 j d v hj (he j d hj hd) hv
structure PFam where
 f:FuncId
 ι:Type
 a:ι→List D
 r:ι→D
def PFam.Good(F:PFam):Prop:=(∀i,∃p T ks ks' ds cells cells' r,VH F.f=some (p,T,ks,ks')∧p<ds.length∧F.a i=ds.set p (.agg cells)∧F.r i= .tup [.agg cells',r]∧PbC Tryz.prog ig F.f p T ks ks' ds cells cells' r)∧(∀i j,F.a i=F.a j→F.r i=F.r j)
def t6:List PFam→Prop
 |[]=>True
 |F::l=>F.Good∧t6 l
def OG(mu:FuncId→List D→Option D):List PFam→Prop
 |[]=>True
 |F::l=>(∀i,mu F.f (F.a i)=some (F.r i))∧OG mu l
theorem ld:∀{l:List PFam},t6 l→∀F∈l,F.Good
 |[],_,F,hF=>by cases hF
 |F0::l,h,F,hF=>by
  rcases List.mem_cons.1 hF with rfl|hF
  ·exact h.1
  ·exact ld h.2 F hF
theorem DV{mu:FuncId→List D→Option D}:∀{l:List PFam},(∀F∈l,∀i,mu F.f (F.a i)=some (F.r i))→OG mu l
 |[],_=>trivial
 |F::_,h=>⟨h F (za4 ..),DV fun e he=>h e (za5 _ he)⟩
theorem DW:∀{l:List PFam},BL (l.map PFam.f)=true→∀F∈l,∀F'∈l,F.f=F'.f→F=F'
 |[],_,F,hF,_,_,_=>by cases hF
 |F0::l,h,F,hF,F',hF',he=>by
  simp only[List.map_cons,BL,zc4,zd9,ze9,ne_eq] at h;have key:∀G∈l,F0.f≠G.f:=fun G hG=>h.1 G.f (zd8.2 ⟨G,hG,rfl⟩);rcases List.mem_cons.1 hF with h1|h1
  ·rcases List.mem_cons.1 hF' with h2|h2
   ·rw[h1,h2]
   ·exact absurd (h1▸he) (key F' h2)
  ·rcases List.mem_cons.1 hF' with h2|h2
   ·exact absurd (h2▸he).symm (key F h1)
   ·exact DW h.2 F h1 F' h2 he
open Classical in
noncomputable def OH(l:List PFam):FuncId→List D→Option D:=fun k ds=>
 if h:∃r,∃F∈l,∃i:F.ι,F.f=k∧F.a i=ds∧F.r i=r then some h.choose else none
theorem PM(l:List PFam)(h:t6 l)(hn:BL (l.map PFam.f)=true):∃mu,zX mu∧OG mu l:=by
 refine⟨OH l,?_,DV fun F hF i=> ?_⟩
 ·intro k p T ks ks' hk ds cells cells' r hp hmu;unfold OH at hmu;split at hmu
  ·rename_i hx;have hmu:=Option.some.inj hmu;obtain⟨F,hF,i,rfl,h2,h3⟩:=hx.choose_spec;rw[hmu] at h3;obtain⟨p0,T0,ks0,ks0',ds0,cells0,cells0',r0,g1,g2,g3,g4,g5⟩:=(ld h F hF).1 i;rw[hk] at g1;simp only[za0,zb3] at g1;obtain⟨rfl,rfl,rfl,rfl⟩:=g1;rw[g3] at h2;rw[g4] at h3;obtain⟨e1,e2,e3⟩:=OF h2 g2;cases e1;simp only[D.tup.injEq,zc5,D.agg.injEq,and_true] at h3;obtain⟨rfl,rfl⟩:=h3;exact g5.turn e2.symm e3
  ·cases hmu
 ·have hx:∃r,∃F'∈l,∃j:F'.ι,F'.f=F.f∧F'.a j=F.a i∧F'.r j=r:=⟨F.r i,F,hF,i,rfl,rfl,rfl⟩;unfold OH;rw[dif_pos hx];obtain⟨F',hF',j,h4,h5,h6⟩:=hx.choose_spec;have h2:=(ld h F hF).2;obtain rfl:=DW hn F' hF' F hF h4;rw[←h6,h2 j i h5]
theorem OI{base mu:FuncId→List D→Option D}(hb:dA base)(hm:zX mu):EnvOK (rX (bw base) mu LL C1).E:=⟨yk (gW hb),kS kU,kT,KO hm⟩
theorem SD{base mu:FuncId→List D→Option D}(hb:dA base)(hm:zX mu){f:FuncId}{fn:Func}(hf:Tryz.prog.funcs[f]?=some fn){ord:fX}{N:bY}(hok:eh Tryz.prog ord fn=true){ds:List D}{r:D}
  (he:bT (rX (bw base) mu LL C1) ord N .canon fn ds=some r):OK2 f ds r:=
 kO (Te:=rX (bw base) mu LL C1) gd (OI hb hm) eP rfl iA hf (by simp) hok he
theorem SE{base mu:FuncId→List D→Option D}(hb:dA base)(hm:zX mu){f:FuncId}{fn:Func}(hf:Tryz.prog.funcs[f]?=some fn){ord:fX}{N:bY}(hok:eh Tryz.prog ord fn=true){p:Nat}(h0:gM p fn=true){ks ks':List PK}{st:List Nat}{ds cells cells':List D}{r:D}(hkk:ks'.length=ks.length)
  (he:mE (rX (bw base) mu LL C1) ord N p ks ks' st fn cells ds=some (.tup [.agg cells',r])):uZ Tryz.prog ig f p ks ks' ds cells cells' r:=
 FE (Te:=rX (bw base) mu LL C1) gd (OI hb hm) eP rfl iA hf hok h0 hkk he
theorem Wn{base mu:FuncId→List D→Option D}(hb:dA base)(hm:zX mu){f:FuncId}{fn:Func}(hf:Tryz.prog.funcs[f]?=some fn){ord:fX}{N:bY}(hok:eh Tryz.prog ord fn=true){p:Nat}(h0:gM p fn=true){ks':List PK}{Ty:TypeId}{ds cells':List D}{r:D}(hkk:ks'.length=2)
  (he:yO (rX (bw base) mu LL C1) ord N p ks' Ty fn ds=some (.tup [.agg cells',r])):IH Tryz.prog ig f p Ty ks' ds cells' r:=
 FF (Te:=rX (bw base) mu LL C1) gd (OI hb hm) eP rfl iA hf hok h0 hkk he
def mh(l:List Pt):NW:=match l with
 |[]=>none
 |_=>some (l.length,bJ l)
structure Rd where
 nm:List UInt8
 tee:Pt
 cup:Pt
 line:List Pt
 areas:List (List UInt8×List Pt)
 last:List UInt8
def V0(a:List UInt8×List Pt):List D:=[SB a.1,m6 (mh a.2)]
def oZ(l:List (List UInt8×List Pt)):List D:=l.flatMap V0
def vd(l:List (List UInt8×List Pt)):NW:=match l with
 |[]=>none
 |_=>some (l.length,oZ l)
abbrev Wo(nm:List UInt8)(tee cup:Pt)(line:List Pt)(areas:List (List UInt8×List Pt))(last:List UInt8):List D:=[SB nm,.int .i64 tee.1,.int .i64 tee.2,.int .i64 cup.1,.int .i64 cup.2,m6 (mh line),m6 (vd areas),SB last]
abbrev Rd.c(r:Rd):List D:=Wo r.nm r.tee r.cup r.line r.areas r.last
theorem DX{a b:List Pt}(h:m6 (mh a)=m6 (mh b)):a=b:=by
 cases a<;>cases b
 ·rfl
 ·cases h
 ·cases h
 ·have h:D.slc false _ _=D.slc false _ _:=h;simp only[D.slc.injEq] at h;exact fT h.2.2
theorem zY:∀{a b:List (List UInt8×List Pt)},oZ a=oZ b→a=b
 |[],[],_=>rfl
 |[],_::_,h=>by cases h
 |_::_,[],h=>by cases h
 |x::a,y::b,h=>by
  have h:(SB x.1::m6 (mh x.2)::oZ a)=(SB y.1::m6 (mh y.2)::oZ b):=h;simp only[zc5,D.str.injEq] at h;rw[zY h.2.2,show x=y from Prod.ext (eE h.1) (DX h.2.1)]
theorem KP{a b:List (List UInt8×List Pt)}(h:m6 (vd a)=m6 (vd b)):a=b:=by
 cases a<;>cases b
 ·rfl
 ·cases h
 ·cases h
 ·have h:D.slc false _ _=D.slc false _ _:=h;simp only[D.slc.injEq] at h;exact zY h.2.2
theorem DY{a b:Rd}(h:a.c=b.c):a=b:=by
 obtain⟨n,⟨t1,t2⟩,⟨c1,c2⟩,l,ar,la⟩:=a;obtain⟨n',⟨t1',t2'⟩,⟨c1',c2'⟩,l',ar',la'⟩:=b;simp only[zc5,D.str.injEq,D.int.injEq,true_and,and_true] at h;obtain⟨h1,rfl,rfl,rfl,rfl,h6,h7,h8⟩:=h;rw[eE h1,DX h6,KP h7,eE h8]
def G8:List ByteArray:=[bs [],bs cp,bs cD,bs cJ,bs cG,bs bX]
def lS(w:List UInt8):Int:=oG (bs w) G8 0
def ji(last word:List UInt8):Bool:=bz (decide (lS word<4)) (lS word==lS last+1) (bz (decide (lS last≥3)) (decide (lS word≥lS last)) false)
theorem zZ(v:ByteArray):∀(l:List ByteArray) (i:Nat),-1≤oG v l i∧oG v l i≤(i+l.length:Nat)
 |[],i=>by show -1≤(-1:Int)∧(-1:Int)≤_;omega
 |x::r,i=>by
  have:=zZ v r (i+1);show -1≤bz (dn v x) (i:Int) (oG v r (i+1))∧bz (dn v x) (i:Int) (oG v r (i+1))≤_;cases dn v x
  ·rw[bv];simp only[za7];omega
  ·rw[bx];simp only[za7];omega
theorem Aa(w:List UInt8): -1≤lS w∧lS w≤6:=zZ (bs w) G8 0
def fam142:Fam:=⟨142,List UInt8,fun w=>[.slc true 6 (dF G8),SB w],fun w=> .int .i64 (lS w)⟩
theorem Ab:fam142.Good:=⟨fun w=>LM (f:=true) G8 (bs w) (by decide),fun x y e=>by
 have e:[D.slc true 6 (dF G8),SB x]=[D.slc true 6 (dF G8),SB y]:=e;simp only[zc5,D.str.injEq,true_and,and_true] at e;show D.int .i64 (lS x)= .int .i64 (lS y);rw[eE e],fun _=>rfl⟩
theorem SF(r:Rd)(word:List UInt8):uZ Tryz.prog ig 183 0 nI nI [.nils,SB word] r.c r.c (.bool (ji r.last word)):=by
 obtain⟨B,hB,e1,_⟩:=fP [fam142] ⟨Ab,trivial⟩ rfl;have key:∀(X:D),(bB (bw B 142 [.slc true 6 (dF G8),SB word]) fun a=>bD IntKind.i64 a fun x=>bB (bw B 142 [.slc true 6 (dF G8),SB r.last]) fun b=>bD IntKind.i64 b fun x_1=>
   bz (decide (x<4)) (some (D.tup [X,.bool (x==IntKind.wrap IntKind.i64 (x_1+1))])) (bz (decide (x_1≥3)) (some (D.tup [X,.bool (decide (x≥x_1))])) (some (D.tup [X,.bool false]))))=some (.tup [X,.bool (ji r.last word)]):=fun X=>by
  have hr:=Aa r.last;rw[show bw B 142 [.slc true 6 (dF G8),SB word]=some (.int .i64 (lS word)) from e1 word,show bw B 142 [.slc true 6 (dF G8),SB r.last]=some (.int .i64 (lS r.last)) from e1 r.last,bA,bF,bA,bF,bS (by omega)];unfold ji;cases decide (lS word<4)<;>cases decide (lS r.last≥3)<;>rfl
 exact SE hB OE Tryz.func183 (ord:=O0) (N:=N0) (st:=[2,3]) (by kernel_rfl) (by kernel_rfl) rfl ((Kw _ _ _ _ (bs r.nm) r.tee.1 r.tee.2 r.cup.1 r.cup.2 (bs r.last) (bs word) (mh r.line) (vd r.areas)).trans (key _))
theorem Ac(c:UInt8):∀l:List UInt8,(dO c l).1.length≤l.length∧(dO c l).2.1.length≤l.length
 |[]=>by simp[dO]
 |x::r=>by
  have:=Ac c r;unfold dO;split
  ·simp
  ·simp only[za7];omega
def Ma(call:CL):Prop:=∀w:List UInt8,w.length≤1000000→call 228 [SB w,SB [44]]=some (.tup [SB (dO 44 w).1,SB (dO 44 w).2.1,.bool (dO 44 w).2.2])
def Mb(call:CL):Prop:=∀a b:List UInt8,a.length≤1000000→b.length≤1000000→call 185 [SB a,SB b]=some (gz a b)
theorem G9{call:CL}(h228:Ma call)(h185:Mb call){pre r:List (List UInt8)}{w:List UInt8}(hw:w.length≤1000000)(fail:Option D)(k:Int→Int→Option D):
  GT call ((pre++w::r).map SB) (pre++w::r).length (pre.length:Int) fail k=match EW w with
   |none=>fail
   |some p=>k p.1 p.2:=by
 have hlen:pre.length<(pre++w::r).length:=by simp
 have hc:=Ac 44 w;refine bK (za1 ⟨by omega,by omega⟩) ?_;rw[cT (show((pre++w::r).map SB)[Int.toNat (pre.length:Int)*1]?=some (SB w) by rw[za3,Nat.mul_one];simp),bP];refine bI (h228 w hw) ?_;refine bI (h185 (dO 44 w).1 (dO 44 w).2.1 (by omega) (by omega)) ?_;show bz (!((cR (dO 44 w).1).2&&(cR (dO 44 w).2.1).2)) fail (k _ _)=_;unfold EW;cases (cR (dO 44 w).1).2&&(cR (dO 44 w).2.1).2<;>rfl
theorem Ha{γ:Type}{k:Nat}{l:List Pt}{p:Pt}{f:NW→Option γ}(hk:k≤40)(hl:l.length≤1000000):Oe k (mh l) [.int .i64 p.1,.int .i64 p.2] f=f (mh (l++[p])):=by
 cases l with
 |nil=>rfl
 |cons q l=>
  have h1:=DR (n:=(q::l).length+1) (by omega);have h2:((q::l).length+1)*k≤((q::l).length+1)*40:=Nat.mul_le_mul_left _ hk;refine bK (za1 ⟨zb1 h2 h1.1,by show(q::l).length+1≤_;omega⟩) ?_;show f (some (_,bJ (q::l)++_))=f (some ((q::l++[p]).length,bJ (q::l++[p])));rw[qj,za6];rfl
theorem OJ{γ:Type}{l:List (List UInt8×List Pt)}{a:List UInt8×List Pt}{f:NW→Option γ}(hl:l.length≤1000000):Oe 40 (vd l) [SB a.1,m6 (mh a.2)] f=f (vd (l++[a])):=by
 cases l with
 |nil=>rfl
 |cons q l=>
  have h1:=DR (n:=(q::l).length+1) (by omega);refine bK (za1 ⟨h1.1,by show(q::l).length+1≤_;omega⟩) ?_;have hs:oZ (q::l++[a])=oZ (q::l)++[SB a.1,m6 (mh a.2)]:=by simp[oZ,V0]
  show f (some (_,oZ (q::l)++_))=f (some ((q::l++[a]).length,oZ (q::l++[a])));rw[hs,za6];rfl
def Wp(o:Option (List Pt))(fail:Option D)(k:List Pt→Option D):Option D:=match o with
 |none=>fail
 |some c=>k c
theorem SG{call:CL}{F:Nat→Int→NW→Option D}{E:NW→Option D}{fail:Option D}{ws:List (List UInt8)}(h228:Ma call)(h185:Mb call)(hl:ws.length≤900000)
  (hs:∀n t o,F (n+1) t o=bz (decide (t<(ws.length:Int))) (GT call (ws.map SB) ws.length t fail fun x y=>Oe 16 o [.int .i64 x,.int .i64 y] fun o=>F n (IntKind.wrap .i64 (t+1)) o) (E o)):
  ∀(r pre:List (List UInt8)) (acc:List Pt) (fuel:Nat),pre++r=ws→(∀w∈r,w.length≤1000000)→acc.length≤pre.length→r.length<fuel→F fuel (pre.length:Int) (mh acc)=Wp (dQ r) fail fun c=>E (mh (acc++c)):=by
 intro r
 induction r with
 |nil=>
  intro pre acc fuel hp hw ha hf;obtain⟨fuel,rfl⟩:∃n,fuel=n+1:=⟨fuel-1,by omega⟩;rw[zb6] at hp;subst hp;show _=E (mh (acc++[]));rw[zb6,hs,za2 (by omega),bv]
 |cons w r ih=>
  intro pre acc fuel hp hw ha hf;obtain⟨fuel,rfl⟩:∃n,fuel=n+1:=⟨fuel-1,by omega⟩;have hlen:pre.length<ws.length:=by rw[←hp];simp
  have hs1:IntKind.wrap .i64 ((pre.length:Int)+1)=((pre++[w]).length:Int):=by rw[bS (by omega)];simp
  have ih:=fun acc ha=>ih (pre++[w]) acc fuel (by simpa using hp) (fun x hx=>hw x (by simp[hx])) ha (by simpa using hf);rw[hs,za1 (by omega),bx,←hp,G9 h228 h185 (hw w (by simp)),kv];cases hpt:EW w with
  |none=>rfl
  |some p=>
   dsimp only;rw[hs1,Ha (by decide) (by omega),ih (acc++[p]) (by simp;omega)];cases dQ r with
   |none=>rfl
   |some c=>show E (mh (acc++[p]++c))=E (mh (acc++p::c));rw[za8];rfl
def DZ(r:Rd)(k:List UInt8):Option (List Pt)→Rd×Bool
 |none=>(r,false)
 |some c=>({r with areas:=r.areas++[(k,c)]},true)
abbrev BG(x:Rd×Bool):D:= .tup [.agg x.1.c,.bool x.2]
theorem SH{f:Bool}(r:Rd)(k:List UInt8)(ws:List (List UInt8))(hl:ws.length≤900000)(hw:∀w∈ws,w.length≤1000000)(har:r.areas.length≤100000):
  uZ Tryz.prog ig 184 0 nI nI [.nils,SB k,.slc f ws.length (ws.map SB)] r.c (DZ r k (dQ ws)).1.c (.bool (DZ r k (dQ ws)).2):=by
 obtain⟨B,hB,e1,e2,_⟩:=fP [⟨228,{w:List UInt8//w.length≤1000000},fun w=>[SB w.1,SB [44]],fun w=> .tup [SB (dO 44 w.1).1,SB (dO 44 w.1).2.1,.bool (dO 44 w.1).2.2]⟩,
   ⟨185,{p:List UInt8×List UInt8//p.1.length≤1000000∧p.2.length≤1000000},fun p=>[SB p.1.1,SB p.1.2],fun p=>gz p.1.1 p.1.2⟩]
  ⟨⟨fun w=>So w.1 44 w.2,fun x y e=>by
   have e:[SB x.1,SB [44]]=[SB y.1,SB [44]]:=e;simp only[zc5,D.str.injEq,and_true] at e;show D.tup [SB (dO 44 x.1).1,SB (dO 44 x.1).2.1,.bool (dO 44 x.1).2.2]=D.tup [SB (dO 44 y.1).1,SB (dO 44 y.1).2.1,.bool (dO 44 y.1).2.2];rw[eE e],fun _=>rfl⟩,⟨fun p=>L1 _ _ p.2.1 p.2.2,fun x y e=>by
   have e:[SB x.1.1,SB x.1.2]=[SB y.1.1,SB y.1.2]:=e;simp only[zc5,D.str.injEq,and_true] at e;show gz x.1.1 x.1.2=gz y.1.1 y.1.2;rw[eE e.1,eE e.2],fun _=>rfl⟩,trivial⟩ rfl
 refine SE hB OE Tryz.func184 (ord:=O0) (N:=Of) (st:=[3,4]) (by kernel_rfl) (by kernel_rfl) rfl ((Kx _ _ _ _ (bs r.nm) r.tee.1 r.tee.2 r.cup.1 r.cup.2 (bs r.last) (bs k) f ws.length (ws.map SB) (mh r.line) (vd r.areas)).trans ?_);refine(SG (F:=fun fuel t o=>rZ (bw B) yW LL C1 fuel f ws.length (ws.map SB) (bs r.nm) r.tee.1 r.tee.2 r.cup.1 r.cup.2 (mh r.line) (vd r.areas) (bs r.last) (bs k) (ws.length:Int) t o) (fail:=some (BG (r,false)))
  (E:=fun o=>Oe 40 (vd r.areas) [SB k,m6 o] fun o=>some (.tup [wd (bs r.nm) r.tee.1 r.tee.2 r.cup.1 r.cup.2 (mh r.line) o (bs r.last),.bool true])) (fun w hw=>e1 ⟨w,hw⟩) (fun a b ha hb=>e2 ⟨(a,b),ha,hb⟩) hl
  (fun n t o=>B6 _ _ _ _ _ _ _ _ _ _ _ _ _ _ _ _ _ _ _ _) ws [] [] LL rfl hw (zb0 _) (by unfold LL;omega)).trans ?_
 cases dQ ws with
 |none=>rfl
 |some c=>exact(OJ (l:=r.areas) (a:=(k,c)) (f:=fun o=>some (D.tup [wd (bs r.nm) r.tee.1 r.tee.2 r.cup.1 r.cup.2 (mh r.line) o (bs r.last),D.bool true])) (by omega))
def lg(r:Rd):List (List UInt8)→Rd×Bool
 |[a,x,y]=>if a==cD then({r with tee:=ry x y},mQ x y) else if a==cJ then({r with cup:=ry x y},mQ x y) else({r with line:=r.line++[ry x y]},mQ x y)
 |_=>(r,false)
theorem OK(r:Rd)(a x y:List UInt8):lg r [a,x,y]=if a==cD then({r with tee:=ry x y},mQ x y) else if a==cJ then({r with cup:=ry x y},mQ x y) else({r with line:=r.line++[ry x y]},mQ x y):=rfl
def OL(r:Rd):List (List UInt8)→Rd×Bool
 |[n]=>({r with nm:=n},true)
 |_=>(r,false)
def OM(r:Rd):List (List UInt8)→Rd×Bool
 |k::ws=>DZ r k (dQ ws)
 |[]=>(r,false)
def m7(r:Rd)(a:List UInt8)(t:List (List UInt8)):Rd×Bool:=if a==cp then OL r t else if a==bX then OM r t else lg r (a::t)
def KQ(r:Rd):List (List UInt8)→Rd×Bool
 |[]=>(r,false)
 |a::t=>if fA (a::t) then(if ji r.last a then m7 {r with last:=a} a t else(r,false)) else(r,false)
theorem wk(r:Rd)(a:List UInt8)(t:List (List UInt8)):KQ r (a::t)=if fA (a::t) then(if ji r.last a then m7 {r with last:=a} a t else(r,false)) else(r,false):=rfl
def t7(r:Rd)(line:List UInt8):Rd×Bool:=KQ r (spl 32 line)
theorem Hb{γ:Type}{x y:List UInt8}{k:Int→Int→Bool→Option γ}{r:Option γ}(h:k (cR x).1 (cR y).1 (mQ x y)=r):(cy (gz x y) 2 fun c=>bu c 0 fun d=>dq d 2 fun c2=>bu c2 0 fun d=>bD .i64 d fun x=>bu c2 1 fun d=>bD .i64 d fun y=>bu c 1 fun d=>ce d fun b=>k x y b)=r:=h
section
variable {call mu:FuncId→List D→Option D}{r:Rd}{f:Bool}
theorem Wq{a x y:List UInt8}(hl:r.line.length≤100000)(h185:call 185 [SB x,SB y]=some (gz x y)):
  r9 call mu LL C1 f 3 [SB a,SB x,SB y] (bs r.nm) r.tee.1 r.tee.2 r.cup.1 r.cup.2 (bs r.last) (mh r.line) (vd r.areas)=some (BG (lg r [a,x,y])):=by
 refine(B8 _ _ _ _ _ _ _ _ _ _ _ _ _ _ _ c1).trans (bK rfl (dB (l:=[a,x,y]) rfl (bK rfl (dB (l:=[a,x,y]) rfl (bI h185 (Hb (bK rfl (dB (l:=[a,x,y]) rfl ?_))))))));rw[show ByteArray.mk #[116,101,101]=bs cD from rfl,show ByteArray.mk #[99,117,112]=bs cJ from rfl,fe,fe,show[D.int .i64 (cR x).1,D.int .i64 (cR y).1]=[.int .i64 (ry x y).1,.int .i64 (ry x y).2] from rfl,Ha (by decide) (by omega),OK];cases a==cD
 ·cases a==cJ<;>rfl
 ·rfl
theorem Ci(z:Rd×Bool)(k:ByteArray→Int→Int→Int→Int→NW→NW→ByteArray→Bool→Option D):Kv (BG z) k=k (bs z.1.nm) z.1.tee.1 z.1.tee.2 z.1.cup.1 z.1.cup.2 (mh z.1.line) (vd z.1.areas) (bs z.1.last) z.2:=by
 obtain⟨⟨nm,tee,cup,line,areas,last⟩,b⟩:=z;cases line<;>cases areas<;>rfl
theorem Hc{a:List UInt8}{t:List (List UInt8)}(hl:r.line.length≤100000)(h185:∀x y,t=[x,y]→call 185 [SB x,SB y]=some (gz x y)):
  km call mu LL C1 f (a::t).length ((a::t).map SB) (bs r.nm) r.tee.1 r.tee.2 r.cup.1 r.cup.2 (bs r.last) false (mh r.line) (vd r.areas)=some (BG (if a==cp||a==bX then(r,false) else lg r (a::t))):=by
 have hpos:decide ((0:Int)≤0∧0<(((a::t).length:Nat):Int))=true:=za1 ⟨by decide,by simp only[za7];omega⟩;rw[qS _ _ _ _ _ _ _ _ _ _ _ _ _ _ _ _ c1,bv];refine bK hpos (dB (l:=a::t) (x:=a) rfl ?_);rw[show ByteArray.mk #[104,111,108,101]=bs cp from rfl,show ByteArray.mk #[97,114,101,97]=bs bX from rfl,fe];cases a==cp with
 |true=>rfl
 |false=>
  rw[bv];refine bK hpos (dB (l:=a::t) (x:=a) rfl ?_);rw[fe];cases a==bX with
  |true=>rfl
  |false=>
   rw[bv,Bool.or_self,if_neg (by decide)];by_cases h3:t.length=2
   ·obtain⟨x,y,rfl⟩:∃x y,t=[x,y]:=by
     match t,h3 with
     |[x,y],_=>exact⟨x,y,rfl⟩
    exact Wq hl (h185 x y rfl)
   ·have hr:lg r (a::t)=(r,false):=by
     unfold lg;split
     ·rename_i he;simp only[zc5] at he;obtain⟨_,rfl⟩:=he;exact absurd rfl h3
     ·rfl
    rw[show((((a::t).length:Nat):Int) !=3)=true by simp;omega,bx,hr]
theorem SI{a k:List UInt8}{ws:List (List UInt8)}(hm:mu 184 [.agg r.c,SB k,.slc f ws.length (ws.map SB)]=some (BG (DZ r k (dQ ws)))):
  km call mu LL C1 f (a::k::ws).length ((a::k::ws).map SB) (bs r.nm) r.tee.1 r.tee.2 r.cup.1 r.cup.2 (bs r.last) true (mh r.line) (vd r.areas)=some (BG (DZ r k (dQ ws))):=by
 have hf1:(f&&decide ((((a::k::ws).length:Nat):Int)=(((a::k::ws).length:Nat):Int)))=f:=by simp
 have hn:Int.toNat ((((a::k::ws).length:Nat):Int)-2)=ws.length:=by simp;omega
 have ht:List.take (ws.length*1) (List.drop 2 ((a::k::ws).map SB))=ws.map SB:=by
  show List.take (ws.length*1) (ws.map SB)=_;rw[Nat.mul_one,List.take_of_length_le (by simp)]
 rw[qS _ _ _ _ _ _ _ _ _ _ _ _ _ _ _ _ c1,bx];refine bK (za1 ⟨by decide,by simp only[za7];omega⟩) (dB (l:=a::k::ws) (x:=k) rfl (bK (za1 ⟨by decide,by simp only[za7];omega,Int.le_refl _⟩) ?_));rw[hf1,hn,ht];exact bI hm (Ci _ _)
theorem VI{a:List UInt8}{t:List (List UInt8)}(b:Bool)(hb:b=(a==cp&&decide (t.length=1)))(hl:r.line.length≤100000)(h185:∀x y,t=[x,y]→call 185 [SB x,SB y]=some (gz x y))
  (hm:∀k ws,t=k::ws→mu 184 [.agg r.c,SB k,.slc f ws.length (ws.map SB)]=some (BG (DZ r k (dQ ws)))):
  kn call mu LL C1 f (a::t).length ((a::t).map SB) (bs r.nm) r.tee.1 r.tee.2 r.cup.1 r.cup.2 b (mh r.line) (vd r.areas) (bs r.last)=some (BG (m7 r a t)):=by
 have hpos:decide ((0:Int)≤0∧0<(((a::t).length:Nat):Int))=true:=za1 ⟨by decide,by simp only[za7];omega⟩;rw[zK _ _ _ _ _ _ _ _ _ _ _ _ _ _ _ _ c1];cases b with
 |true=>
  have hb:=hb.symm;simp only[zc4,zc7] at hb;obtain⟨n,rfl⟩:=List.length_eq_one_iff.1 hb.2;rw[bx];refine bK rfl (dB (l:=[a,n]) (x:=n) rfl ?_);unfold m7;rw[if_pos hb.1];rfl
 |false=>
  rw[bv];refine bK hpos (dB (l:=a::t) (x:=a) rfl ?_);rw[show ByteArray.mk #[97,114,101,97]=bs bX from rfl,fe];by_cases hH:(a==cp)=true
  ·have hA:(a==bX)=false:=by
    have:a=cp:=by simpa using hH
    subst this;rfl
   rw[hA,bv,Hc hl h185,hH,Bool.true_or,if_pos rfl];have hnl:t.length≠1:=fun e=>by
    rw[hH,za1 e] at hb;cases hb
   unfold m7 OL;rw[if_pos hH];split
   ·exact absurd rfl hnl
   ·rfl
  ·have hH:(a==cp)=false:=by simpa using hH
   have hPa:m7 r a t=if a==bX then OM r t else lg r (a::t):=by unfold m7;rw[hH,if_neg (by decide)]
   cases hA:a==bX with
   |true=>
    rw[bx,hPa,hA,if_pos rfl];cases t with
    |nil=>
     rw[show decide (((([a]:List (List UInt8)).length:Nat):Int)≥2)=false from rfl,Hc hl h185,hA,Bool.or_true,if_pos rfl];rfl
    |cons k ws=>
     rw[za1 (by simp only[za7];omega)];exact SI (hm k ws rfl)
   |false=>
    rw[bv,Hc hl h185,hH,hA,Bool.or_self,if_neg (by decide),hPa,hA,if_neg (by decide)]
theorem f15{a:List UInt8}{t:List (List UInt8)}{old:ByteArray}(hr:r.last=a)(hl:r.line.length≤100000)(h185:∀x y,t=[x,y]→call 185 [SB x,SB y]=some (gz x y))
  (hm:∀k ws,t=k::ws→mu 184 [.agg r.c,SB k,.slc f ws.length (ws.map SB)]=some (BG (DZ r k (dQ ws)))):
  sa call mu LL C1 f (a::t).length ((a::t).map SB) (bs r.nm) r.tee.1 r.tee.2 r.cup.1 r.cup.2 (mh r.line) (vd r.areas) old=some (BG (m7 r a t)):=by
 have hpos:decide ((0:Int)≤0∧0<(((a::t).length:Nat):Int))=true:=za1 ⟨by decide,by simp only[za7];omega⟩;have g:∀b,b=(a==cp&&decide (t.length=1))→kn call mu LL C1 f (a::t).length ((a::t).map SB) (bs r.nm) r.tee.1 r.tee.2 r.cup.1 r.cup.2 b (mh r.line) (vd r.areas) (bs a)=some (BG (m7 r a t)):=fun b hb=>by
  rw[←hr];rw[←hr] at hb;exact VI (call:=call) (mu:=mu) (r:=r) (f:=f) (a:=r.last) (t:=t) b hb hl (by rw[←hr] at*;exact h185) (by rw[←hr] at*;exact hm)
 rw[B9 _ _ _ _ _ _ _ _ _ _ _ _ _ _ _ c1];refine bK hpos (dB (l:=a::t) (x:=a) rfl (bK hpos (dB (l:=a::t) (x:=a) rfl ?_)));rw[show ByteArray.mk #[104,111,108,101]=bs cp from rfl,fe];cases hH:a==cp with
 |true=>
  rw[bx];refine g _ ?_;rw[hH,Bool.true_and];show((((t.length+1:Nat):Int))==2)=_;rw[Bool.eq_iff_iff];simp only[ze8,zc7];omega
 |false=>
  rw[bv];exact g _ (by rw[hH];rfl)
end
theorem ON:eh Tryz.prog B7 Tryz.f130=true:=by kernel_rfl
theorem KR:gM 0 Tryz.f130=true:=by kernel_rfl
def EY(f:FuncId)(ds:List D)(p:Nat)(cells cells':List D)(r:D):PFam:=⟨f,Unit,fun _=>ds.set p (.agg cells),fun _=> .tup [.agg cells',r]⟩
theorem kw{f p:Nat}{T:TypeId}{ks ks':List PK}{ds cells cells':List D}{r:D}(hk:VH f=some (p,T,ks,ks'))(hp:p<ds.length)(h:PbC Tryz.prog ig f p T ks ks' ds cells cells' r):(EY f ds p cells cells' r).Good:=
 ⟨fun _=>⟨p,T,ks,ks',ds,cells,cells',r,hk,hp,rfl,rfl,h⟩,fun _ _ _=>rfl⟩
theorem Hd(w:List (List UInt8)):(w.map bs).any (dn (bs []))= !(fA w):=by
 unfold fA
 induction w with
 |nil=>rfl
 |cons x r ih=>
  rw[List.map_cons,List.any_cons,List.all_cons,ih];have:dn (bs []) (bs x)=(x==[]):=by
   unfold dn;rw[fe,Bool.eq_iff_iff];simp only[ze8];exact eq_comm
  rw[this];cases x==[]<;>simp
theorem He(w:List (List UInt8)):dF (w.map bs)=w.map SB:=by unfold dF;rw[List.map_map];rfl
theorem SJ(r:Rd)(line:List UInt8)(hl:line.length≤100000)(hln:r.line.length≤100000)(har:r.areas.length≤100000):uZ Tryz.prog ig 130 0 nI nI [.nils,SB line] r.c (t7 r line).1.c (.bool (t7 r line).2):=by
 unfold t7;have hlen:=oX 32 line;have hmem:=oY 32 line;have hne:=mc 32 line;have h131:OK2 131 [SB line,SB [32]] (zR (spl 32 line)):=LY line 32 (by omega);generalize spl 32 line=w at*;have h86:OK2 86 [.slc true w.length (w.map SB),SB []] (.bool (!(fA w))):=by
  have:=QZ (f:=true) (w.map bs) (bs []) (by rw[zc2];omega);rw[He,zc2,Hd] at this;exact this
 cases w with
 |nil=>exact absurd rfl hne
 |cons a t=>
  have h183:=SF r a;obtain⟨B,hB,e1,e2,e3,_⟩:=fP [one 131 [SB line,SB [32]] (zR (a::t)),one 86 [.slc true (a::t).length ((a::t).map SB),SB []] (.bool (!(fA (a::t)))),⟨185,{p:List UInt8×List UInt8//p.1.length≤1000000∧p.2.length≤1000000},fun p=>[SB p.1.1,SB p.1.2],fun p=>gz p.1.1 p.1.2⟩]
   ⟨bM h131 rfl,bM h86 rfl,⟨fun p=>L1 _ _ p.2.1 p.2.2,fun x y e=>by
   have e:[SB x.1.1,SB x.1.2]=[SB y.1.1,SB y.1.2]:=e;simp only[zc5,D.str.injEq,and_true] at e;show gz x.1.1 x.1.2=gz y.1.1 y.1.2;rw[eE e.1,eE e.2],fun _=>rfl⟩,trivial⟩ rfl
  obtain⟨mu,hmu,m1,m2⟩:∃mu,zX mu∧mu 183 [.agg r.c,SB a]=some (.tup [.agg r.c,.bool (ji r.last a)])∧∀k ws,t=k::ws→mu 184 [.agg ({r with last:=a}:Rd).c,SB k,.slc true ws.length (ws.map SB)]=some (BG (DZ {r with last:=a} k (dQ ws))):=by
   cases t with
   |nil=>
    obtain⟨mu,hmu,m1,_⟩:=PM [EY 183 [.nils,SB a] 0 r.c r.c (.bool (ji r.last a))] ⟨kw (p:=0) rfl (Nat.zero_lt_succ _) h183,trivial⟩ rfl;exact⟨mu,hmu,m1 (),fun _ _ e=>by cases e⟩
   |cons k ws=>
    have h184:=SH (f:=true) {r with last:=a} k ws (by simp at hlen;omega) (fun x hx=>zb1 (hmem x (by simp[hx])) (by omega)) har;obtain⟨mu,hmu,m1,m2,_⟩:=PM [EY 183 [.nils,SB a] 0 r.c r.c (.bool (ji r.last a)),EY 184 [.nils,SB k,.slc true ws.length (ws.map SB)] 0 ({r with last:=a}:Rd).c (DZ {r with last:=a} k (dQ ws)).1.c (.bool (DZ {r with last:=a} k (dQ ws)).2)]
     ⟨kw (p:=0) rfl (Nat.zero_lt_succ _) h183,kw (p:=0) rfl (Nat.zero_lt_succ _) h184,trivial⟩ rfl
    exact⟨mu,hmu,m1 (),fun k' ws' e=>by
     simp only[zc5] at e;obtain⟨rfl,rfl⟩:=e;exact m2 ()⟩
  have g15:=fun old=>f15 (call:=bw B) (mu:=mu) (r:={r with last:=a}) (f:=true) (a:=a) (t:=t) (old:=old) rfl hln (fun x y e=>e3 ⟨(x,y),zb1 (hmem x (by rw[e];simp)) (by omega),zb1 (hmem y (by rw[e];simp)) (by omega)⟩) m2;refine SE hB hmu Tryz.func130 (ord:=B7) (N:=ER) (st:=[2,3]) ON KR rfl ((Ky _ _ _ _ (bs r.nm) r.tee.1 r.tee.2 r.cup.1 r.cup.2 (bs r.last) (bs line) (mh r.line) (vd r.areas)).trans (bI (e1 ()) ?_));have g2:bw B 86 [.slc true (a::t).length ((a::t).map SB),SB []]=some (.bool (!(fA (a::t)))):=e2 ();show bB (bw B 86 [.slc true (a::t).length ((a::t).map SB),SB []]) _=_;rw[g2,bA,cj,wk];cases fA (a::t) with
  |false=>rfl
  |true=>
   rw[show(!true)=false from rfl,bv,if_pos rfl];refine bK (za1 ⟨by decide,by simp only[za7];omega⟩) (dB (l:=a::t) (x:=a) rfl (bI m1 ((Ci (r,ji r.last a) _).trans ?_)));dsimp only;cases ji r.last a with
   |false=>rfl
   |true=>exact g15 _
end Go.Pd
end
