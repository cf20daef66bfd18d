import Derived.Test.YtmhbhlbnlmbhlaaGreatDoorCrB
import Derived.Test.YtmhbhlbnlmbhlaaGreatDoorCrA
import Derived.KernelRfl
import Derived.Test.YtmhbhlbnlmbhlaaGreatDoorCrF
section
namespace Go.Pd
open Go Go.Proofs
theorem NN{k:FuncId}{a b:List D}{r:D}{f:Bool}(h:OK2 k (a++ .slc f 0 []::b) r):OK2 k (a++ .nils::b) r:=by
 refine⟨h.1,fun I w vs hI hg hl hr=>h.2 I w vs hI hg (by simpa using hl) fun j d v hd hv=> ?_⟩;by_cases hj:j=a.length
 ·subst hj;have e:d= .slc f 0 []:=by simpa using hd.symm
  subst e;have hn:=hr a.length .nils v (by simp) hv;have:v= .slice none 0 0:=(RelV.clo (A:=fun _ _=>none) (G:=fun _=>0) hn).nils_inv;subst this;exact .slcn _
 ·refine hr j d v ?_ hv;by_cases hlt:j<a.length
  ·rw[zb9 hlt] at hd ⊢;exact hd
  ·rw[zb8 (by omega)] at hd ⊢;obtain⟨m,hm⟩:∃m,j-a.length=m+1:=⟨j-a.length-1,by omega⟩;rw[hm] at hd ⊢;exact hd
end Go.Pd
end
section
namespace Go.Pd
open Go Go.Proofs
set_option maxRecDepth 100000
end Go.Pd
end
section
namespace Go.Pd
open Go Go.Proofs Go.RowKit
set_option maxRecDepth 100000
theorem EJ(l:List Int)(x:Int):dE l++[D.int .i64 x]=dE (l++[x]):=by simp[dE]
def l8(n:Nat)(f:Nat→Int):List Int:=(List.range n).map f
theorem oJ(n:Nat)(f:Nat→Int):(l8 n f).length=n:=by simp[l8]
theorem Gv{n k:Nat}(f:Nat→Int)(h:k<n):(l8 n f)[k]?=some (f k):=by simp[l8,h]
section
variable {call mu:FuncId→List D→Option D}{te:TypeId}{tn:Nat}
end
section
variable {α:Type}{r:Option α}
theorem bK{b:Bool}{t:Option α}(h:b=true)(h2:t=r):bH b t=r:=by
 subst h;exact h2
theorem bI{β:Type}{o:Option β}{x:β}{k:β→Option α}(h:o=some x)(h2:k x=r):bB o k=r:=by
 subst h;exact h2
theorem Gw{f:Bool}{n:Nat}{cs:List D}{k:Bool→Nat→List D→Option α}(h2:k f n cs=r):dr (.slc f n cs) k=r:=h2
end
end Go.Pd
end
