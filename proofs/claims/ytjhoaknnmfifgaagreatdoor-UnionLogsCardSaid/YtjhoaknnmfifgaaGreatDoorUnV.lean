import Derived.Test.YtjhoaknnmfifgaaGreatDoorUnU
import Derived.Test.YtjhoaknnmfifgaaGreatDoorUnQ
import Derived.Test.YtjhoaknnmfifgaaGreatDoorUnI
import Derived.Test.YtjhoaknnmfifgaaGreatDoorUnH
section
namespace Go.Pd
open Go Go.Proofs Go.RowKit
set_option maxRecDepth 100000
theorem join_cons(A:List MsgV)(x:MsgV)(b:List MsgV):Dx A (x::b)=(match MM A x with
   |some a'=>Dx a' b
   |none=>none):=rfl
section
variable {γ:Type}(c:D→Option γ)
end
section
variable (pre:List MsgV)(m:MsgV)(r:List MsgV)(h:(pre++m::r).length≤100000)
theorem dl:decide ((pre.length:Int)<((pre++m::r).length:Int))=true:=by simp;omega
theorem dc:decide ((0:Int)≤(pre.length:Int)∧(pre.length:Int)<((pre++m::r).length:Int))=true:=by simp;omega
include h
end
section
variable (p:List MsgV)(y m:MsgV)(r:List MsgV)(h:(p++[y]++m::r).length≤100000)
include h
theorem dp:IntKind.wrap .i64 (((p++[y]).length:Int)-1)=(p.length:Int):=by
 simp at h;rw[zB (by simp;omega)];simp
omit h
end
theorem MN(a b:Int):bR 34 [.slc true 2 [.int .i64 a,.int .i64 b]] (.int .i64 (fO [a,b])):=by
 refine Pf (L:=3) cp Tryz.func34 (ord:=O0) (N:=Pn) (by kernel_rfl) ((Jw _ _ _ true 2 _).trans ?_);rw[nd,nd,nd,FS];by_cases ha:a=0
 ·subst ha;by_cases hb:b=0
  ·subst hb;rfl
  ·have hb:(b !=0)=true:=by simpa using hb
   show bo (b !=0) _ _=some (D.int .i64 b);rw[hb];rfl
 ·have ha:(a !=0)=true:=by simpa using ha
  show bo (a !=0) _ _=some (D.int .i64 (bo (a !=0) a b));rw[ha];rfl
end Go.Pd
end
