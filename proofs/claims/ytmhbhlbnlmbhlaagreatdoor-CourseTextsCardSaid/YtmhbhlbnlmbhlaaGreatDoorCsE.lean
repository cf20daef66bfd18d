import Derived.Test.YtmhbhlbnlmbhlaaGreatDoorCsD
import Derived.Test.YtmhbhlbnlmbhlaaGreatDoorCrB
import Derived.Test.YtmhbhlbnlmbhlaaGreatDoorCsA
import Derived.KernelRfl
import Derived.Test.YtmhbhlbnlmbhlaaGreatDoorCrD
section
namespace Go.Pd
open Go Go.Proofs Go.RowKit
set_option maxRecDepth 100000
abbrev Fr:=ZR×ZR
def Fr.p(x:Fr):Int×Int:=(x.1.1,x.2.1)
def Fr.Ok(x:Fr):Prop:=x.1.Ok∧x.2.Ok∧0<x.2.1
def Fr.B(x:Fr)(k:Nat):Prop:=zL x.1≤k∧zL x.2≤k
theorem tG{a b:Int}(ha:0<a)(hb:0<b):a*b≠0:=Int.ne_of_gt (Int.mul_pos ha hb)
end Go.Pd
end
section
namespace Go.Pd
open Go Go.Proofs
set_option maxRecDepth 100000
end Go.Pd
end
section
namespace Go.Pd
open Go Go.Proofs Go.RowKit
set_option maxRecDepth 100000
def VP(q:Int×Int)(n d:Int):Prop:=q.1*d=n*q.2
theorem GE{a:Int}{g:Nat}(h:g∣a.natAbs)(hg:0<g):∃k,a=k*(g:Int)∧a/(g:Int)=k:=by
 obtain⟨k,hk⟩:=Int.ofNat_dvd_left.2 h;refine⟨k,by rw[hk,Int.mul_comm],?_⟩;rw[hk];exact Int.mul_ediv_cancel_left _ (by omega)
theorem GF(n d:Int)(h:d≠0):VP (Tu n d) n d:=by
 have hg:0<Nat.gcd n.natAbs d.natAbs:=Nat.gcd_pos_of_pos_right _ (by omega);obtain⟨a,ha,ha'⟩:=GE (Nat.gcd_dvd_left n.natAbs d.natAbs) hg;obtain⟨b,hb,hb'⟩:=GE (Nat.gcd_dvd_right n.natAbs d.natAbs) hg;show n/_*d=n*(d/_);rw[ha',hb'];generalize ((Nat.gcd n.natAbs d.natAbs:Nat):Int)=g at*;subst ha hb
 grind
theorem NU(n d:Int)(h:d≠0):VP (TU n d) n d:=by
 unfold TU;split
 ·have h1:VP (Tu (-n) (-d)) (-n) (-d):=GF _ _ (by omega);unfold VP at h1 ⊢
  grind
 ·exact GF n d h
theorem VP.trans{q:Int×Int}{n d m e:Int}(h:VP q n d)(hd:d≠0)(h2:n*e=m*d):VP q m e:=by
 unfold VP at h ⊢;refine Int.eq_of_mul_eq_mul_right hd ?_
 grind
theorem VP.mk{q:Int×Int}{N D n d:Int}(h:VP q N D)(hD:D≠0)(h2:N*d=n*D):VP q n d:=h.trans hD h2
theorem VP.add{x y:Int×Int}{n d m e:Int}(hx:VP x n d)(hy:VP y m e)(px:0<x.2)(py:0<y.2):VP (MI x y) (n*e+m*d) (d*e):=by
 unfold VP at hx hy;unfold MI;by_cases h:((x.2==1)&&(y.2==1))=true
 ·rw[h];simp only[zc4,ze8] at h;show(x.1+y.1)*(d*e)=(n*e+m*d)*1;rw[h.1] at hx;rw[h.2] at hy
  grind
 ·rw[eq_false_of_ne_true h];refine(NU _ _ (tG px py)).mk (tG px py) ?_
  grind
theorem VP.neg{x:Int×Int}{n d:Int}(hx:VP x n d):VP (MJ x) (-n) d:=by
 unfold VP at hx ⊢;show -x.1*d= -n*x.2
 grind
theorem VP.sub{x y:Int×Int}{n d m e:Int}(hx:VP x n d)(hy:VP y m e)(px:0<x.2)(py:0<y.2):VP (PZ x y) (n*e-m*d) (d*e):=by
 have:=hx.add hy.neg px (show 0<(MJ y).2 from py);unfold PZ
 rwa [show n*e-m*d=n*e+ -m*d by grind]
theorem GG{a b c d:Int}(h:a*b=c*d)(hb:0<b)(hd:0<d):sg a=sg c:=by
 unfold sg;rcases Int.lt_trichotomy a 0 with ha|ha|ha
 ·have h1:a*b<0:=Int.mul_neg_of_neg_of_pos ha hb;have h2:c<0:=by
   refine Int.not_le.1 fun hc=> ?_;have:=Int.mul_nonneg hc (Int.le_of_lt hd);omega
  rw[if_pos ha,if_pos h2]
 ·subst ha;rw[Int.zero_mul] at h;have hc:c=0:=by
   rcases Int.mul_eq_zero.1 h.symm with h1|h1
   ·exact h1
   ·omega
  rw[hc]
 ·have h1:0<a*b:=Int.mul_pos ha hb;have h2:0<c:=by
   refine Int.not_le.1 fun hc=> ?_;have:=Int.mul_nonpos_of_nonpos_of_nonneg hc (Int.le_of_lt hd);omega
  rw[if_neg (by omega),if_pos ha,if_neg (by omega),if_pos h2]
theorem VP.sg{x:Int×Int}{n d:Int}(hx:VP x n d)(px:0<x.2)(hd:0<d):Go.Pd.sg x.1=Go.Pd.sg n:=GG hx hd px
abbrev FP:=Fr×Fr
def FP.Ok(p:FP):Prop:=p.1.Ok∧p.2.Ok∧p.1.B 1000∧p.2.B 1000
def TD(n:Int):Prop:= -1000000≤n∧n≤1000000
structure InS(s:Pt×Pt):Prop where
 a1:TD s.1.1
 a2:TD s.1.2
 b1:TD s.2.1
 b2:TD s.2.2
def fS(q:Int×Int):Fr:=((q.1,true),(q.2,true))
theorem zz{n:Int}(h:n.natAbs<9223372036854775808):ZR.Ok (n,true):=⟨fun _=>⟨(by show _≤n;omega),(by show n<_;omega)⟩,fun h=>(by cases h)⟩
end Go.Pd
end
section
namespace Go.Pd
open Go
set_option maxRecDepth 100000
end Go.Pd
end
