import Derived.Test.YtjhoaknnmfifgaaGreatDoorUnH
import Derived.Test.YtjhoaknnmfifgaaGreatDoorUnP
section
namespace Go.Pd
open Go Go.Proofs Go.RowKit
set_option maxRecDepth 100000
def uK(a b:Int):Int:=bG (decide (a<b)) (-1) (bG (decide (a>b)) 1 0)
theorem Il(x:Int):ci 165 [.int .i64 x] (.bool false):=
 jY dA Tryz.func165 (ord:=O0) (N:=N0) (by kernel_rfl) ((C3 _ _ _ x).trans (by rw[show(x !=x)=false by simp]))
def fa165:Fam:=⟨165,Int,fun x=>[.int .i64 x],fun _=> .bool false⟩
theorem wS:fa165.Good:=⟨Il,fun _ _ _=>rfl⟩
theorem Im(x y:Int):ci 101 [.int .i64 x,.int .i64 y] (.int .i64 (uK x y)):=by
 obtain⟨B,hB,hF⟩:=sr [fa165] ⟨wS,trivial⟩ rfl;have a:∀x:Int,B 165 [.int .i64 x]=some (.bool false):=hF.1;refine jY hB Tryz.func101 (ord:=O0) (N:=N0) (by kernel_rfl) ((C2 _ _ _ x y).trans ?_);rw[a,bv,bP,a,bv,bP,bu,bu];unfold uK;cases decide (x<y)<;>cases decide (x>y)<;>rfl
def fa101:Fam:=⟨101,Int×Int,fun x=>[.int .i64 x.1,.int .i64 x.2],fun x=> .int .i64 (uK x.1 x.2)⟩
theorem wT:fa101.Good:=⟨fun x=>Im x.1 x.2,fun i j h=>by
 obtain⟨a,b⟩:=i;obtain⟨a',b'⟩:=j;have h:[D.int .i64 a,D.int .i64 b]=[D.int .i64 a',D.int .i64 b']:=h;simp at h;simp[h]⟩
theorem Io{call:CL}{f:Bool}{n:Nat}:∀(r pre:List Int) (fuel:Nat),(pre++r).length=n→n≤100000→r.length<fuel→
  nE call LL C1 fuel f n (m7 (pre++r)) n (pre.length:Int)=some (.int .i64 (cw r)):=by
 intro r
 induction r with
 |nil=>
  intro pre fuel hn hB hf;cases fuel with
  |zero=>exact absurd hf (Nat.not_lt_zero _)
  |succ fuel=>
   subst hn;rw[pp,sd,bu];rfl
 |cons x r ih=>
  intro pre fuel hn hB hf;cases fuel with
  |zero=>exact absurd hf (Nat.not_lt_zero _)
  |succ fuel=>
   have ih:=ih (pre++[x]) fuel (by rw[oU];exact hn) hB (by simp at hf;omega);rw[oU] at ih;subst hn;rw[pp,wy,bC,wz,bz,qF,bD,oT pre x r (by omega),ih];show bG (x !=0) _ _=some (D.int .i64 (bG (x !=0) _ _));cases x !=0<;>rfl
theorem Ip(x y:Int):ci 163 [.slc true 2 [.int .i64 x,.int .i64 y]] (.int .i64 (cw [x,y])):=
 jY dA Tryz.func163 (ord:=O0) (N:=Fo) (by kernel_rfl) ((C0 _ _ _ _ _ _).trans (Io [x,y] [] LL rfl (by decide) (by unfold LL;simp)))
def fa163:Fam:=⟨163,Int×Int,fun x=>[.slc true 2 [.int .i64 x.1,.int .i64 x.2]],fun x=> .int .i64 (cw [x.1,x.2])⟩
theorem wU:fa163.Good:=⟨fun x=>Ip x.1 x.2,fun i j h=>by
 obtain⟨a,b⟩:=i;obtain⟨a',b'⟩:=j;have h:[D.slc true 2 [.int .i64 a,.int .i64 b]]=[D.slc true 2 [.int .i64 a',.int .i64 b']]:=h;simp at h;simp[h]⟩
theorem qT:∀(Z A B C:List D),B.length=Z.length→ch (A++(B++C)) A.length Z=A++(Z++C)
 |[],A,B,C,h=>by
  rw[List.length_eq_zero_iff.1 h];rfl
 |z::Z,A,[],C,h=>by cases h
 |z::Z,A,b::B,C,h=>by
  show ch ((A++(b::B++C)).set A.length z) (A.length+1) Z=_;rw[List.set_append_right _ _ (zb0 _),Nat.sub_self];show ch (A++z::(B++C)) (A.length+1) Z=_;have:=qT Z (A++[z]) B C (by simpa using h);simpa using this
theorem uL{α:Type}(g:α→List D)(k:Nat)(hk:∀x,(g x).length=k):∀l:List α,(l.flatMap g).length=l.length*k
 |[]=>by simp
 |x::l=>by rw[List.flatMap_cons,za6,hk,uL g k hk l,za7,Nat.add_mul];omega
section
variable {γ:Type}(c:D→Option γ)
theorem s0(pre:List BC)(x:BC)(r:List BC):br ((pre++x::r).flatMap yO) (Int.toNat (pre.length:Int)*3+0) c=c (.str x.1):=ct pre x r yO 3 (fun _=>rfl) 0 (by omega) c
theorem s1(pre:List BC)(x:BC)(r:List BC):br ((pre++x::r).flatMap yO) (Int.toNat (pre.length:Int)*3+1) c=c (.int .i64 x.2.1):=ct pre x r yO 3 (fun _=>rfl) 1 (by omega) c
theorem s2(pre:List BC)(x:BC)(r:List BC):br ((pre++x::r).flatMap yO) (Int.toNat (pre.length:Int)*3+2) c=c (.int .i64 x.2.2):=ct pre x r yO 3 (fun _=>rfl) 2 (by omega) c
end
section
variable {call mu:FuncId→List D→Option D}{e:TypeId}{k0 n m:Nat}{b vi:Int}
end
end Go.Pd
end
