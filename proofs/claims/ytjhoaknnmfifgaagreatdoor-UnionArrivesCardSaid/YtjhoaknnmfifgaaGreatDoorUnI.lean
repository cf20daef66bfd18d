import Derived.Test.YtjhoaknnmfifgaaGreatDoorUnH
import Derived.Test.YtjhoaknnmfifgaaGreatDoorUnG
section
namespace Go.Pd
open Go Go.Proofs Go.RowKit
def hP(l:List Br)(i:Nat):Int:=(l.getD i (0,0)).1
def hS(l:List Br)(i:Nat):Int:=(l.getD i (0,0)).2
theorem Bv(s:ByteArray)(l:List ByteArray):(cC (.str s) (dK l) 0=some none∧uy l s=false)∨∃j,cC (.str s) (dK l) 0=some (some j)∧j<l.length∧uy l s=true:=by
 have H:∀(l:List ByteArray) (i:Nat),(cC (.str s) (dK l) i=some none∧uy l s=false)∨∃j,cC (.str s) (dK l) i=some (some (i+j))∧j<l.length∧uy l s=true:=by
  intro l
  induction l with
  |nil=>exact fun i=> .inl ⟨rfl,rfl⟩
  |cons x l ih=>
   intro i;have hk:fE (.str s) (.str x)=some (dL x s):=by
    show some (s==x)=_;rw[beq_toListBytes,oZ];rfl
   have e:cC (.str s) (dK (x::l)) i=match some (dL x s) with
    |some true=>some (some i)
    |some false=>cC (.str s) (dK l) (i+1)
    |none=>none:=by
    rw[←hk];rfl
   rw[e];have e2:uy (x::l) s=(dL x s||uy l s):=rfl;rw[e2];cases hs:dL x s with
   |true=>exact .inr ⟨0,rfl,by simp,rfl⟩
   |false=>
    rcases ih (i+1) with⟨h1,h2⟩|⟨j,h1,h2,h3⟩
    ·exact .inl ⟨h1,h2⟩
    ·exact .inr ⟨j+1,by rw[show i+(j+1)=i+1+j by omega];exact h1,by simp;exact h2,h3⟩
 rcases H l 0 with h|⟨j,h1,h2,h3⟩
 ·exact .inl h
 ·exact .inr ⟨j,by rw[Nat.zero_add] at h1;exact h1,h2,h3⟩
section
variable {γ:Type}
theorem xN{o:Option (Option Nat)}(h:o=some none)(a:Option γ)(c:Nat→Option γ):kY o a c=a:=by rw[h];rfl
theorem lP{o:Option (Option Nat)}{j:Nat}(h:o=some (some j))(a:Option γ)(c:Nat→Option γ):kY o a c=c j:=by rw[h];rfl
theorem xO{o:Option (List D×List D)}{a b:List D}(h:o=some (a,b))(c:List D→List D→Option γ):x6 o c=c a b:=by rw[h];rfl
end
section
variable {f0 f1 f2 f3 f4 f5:Bool}{b0 b1 b2 b3 b4 b5:Nat}{e0 e1 e2 e3 e4 e5:List D}
end
end Go.Pd
end
section
namespace Go.Pd
open Go Go.Proofs Go.RowKit
set_option maxRecDepth 100000
section
variable {f0 f1 f2 f3 f4 f5:Bool}{b0 b1 b2 b3 b4 b5:Nat}{e0 e1 e2 e3 e4 e5:List D}
end
theorem uz{α:Type}{g:α→List D}{w:Nat}(h0:0<w)(hw:∀x,(g x).length=w)(hg:∀x y,g x=g y→x=y):∀{l m:List α},l.flatMap g=m.flatMap g→l=m
 |[],[],_=>rfl
 |[],y::m,h=>by
  have:=congrArg List.length h;simp[hw] at this;omega
 |x::l,[],h=>by
  have:=congrArg List.length h;simp[hw] at this;omega
 |x::l,y::m,h=>by
  rw[List.flatMap_cons,List.flatMap_cons] at h;obtain⟨h1,h2⟩:=List.append_inj h (by rw[hw,hw]);rw[hg x y h1,uz h0 hw hg (l:=l) (m:=m) h2]
def CrdV.Fit(c:CrdV):Prop:=c.1.size≤1000∧c.2.2.length≤1000
section
variable {γ:Type}(c:D→Option γ)
theorem c0(pre:List CrdV)(x:CrdV)(r:List CrdV):bi ((pre++x::r).flatMap Ds) (Int.toNat (pre.length:Int)*2+0) c=c (.str x.1):=co pre x r Ds 2 (fun _=>rfl) 0 (by omega) c
theorem p1(pre:List KepV)(x:KepV)(r:List KepV):bi ((pre++x::r).flatMap yN) (Int.toNat (pre.length:Int)*3+1) c=c (.slc x.2.1.1 x.2.1.2.length (x.2.1.2.flatMap IX)):=co pre x r yN 3 (fun _=>rfl) 1 (by omega) c
theorem p2(pre:List KepV)(x:KepV)(r:List KepV):bi ((pre++x::r).flatMap yN) (Int.toNat (pre.length:Int)*3+2) c=c (.slc x.2.2.1 x.2.2.2.length (x.2.2.2.flatMap Ds)):=co pre x r yN 3 (fun _=>rfl) 2 (by omega) c
end
def KepV.Fit(k:KepV):Prop:=k.1.size≤1000∧k.2.2.2.length≤100000∧∀c∈k.2.2.2,c.Fit
section
variable {f0 f1 f2 f3 f4 f5:Bool}{b0 b1 b2 b3 b4 b5:Nat}{e0 e1 e2 e3 e4 e5:List D}
end
section
variable {f0 f1 f2 f3 f4 f5:Bool}{b0 b1 b2 b3 b4 b5:Nat}{e0 e1 e2 e3 e4 e5:List D}
end
section
variable (u:UV){B:FuncId→List D→Option D}
end
section
variable {f0 f1 f2 f3 f4 f5:Bool}{b0 b1 b2 b3 b4 b5:Nat}{e0 e1 e2 e3 e4 e5:List D}{B:FuncId→List D→Option D}
end
section
variable (u:UV)
end
section
variable {f0 f1 f2 f3 f4 f5:Bool}{b0 b1 b2 b3 b4 b5:Nat}{e0 e1 e2 e3 e4 e5:List D}{B:FuncId→List D→Option D}
end
end Go.Pd
end
