import Derived.Test.YtjhoaknnmfifgaaGreatDoorUnH
import Derived.Test.YtjhoaknnmfifgaaGreatDoorUnP
section
namespace Go.Pd
open Go Go.Proofs Go.RowKit
set_option maxRecDepth 100000
def uA(a b:Int):Int:=bB (decide (a<b)) (-1) (bB (decide (a>b)) 1 0)
theorem Jb(x:Int):bV 165 [.int .i64 x] (.bool false):=
 kX dE Tryz.func165 (ord:=O0) (N:=N0) (by kernel_rfl) ((Dw _ _ _ x).trans (by rw[show(x !=x)=false by simp]))
def fa165:Fam:=⟨165,Int,fun x=>[.int .i64 x],fun _=> .bool false⟩
theorem wG:fa165.Good:=⟨Jb,fun _ _ _=>rfl⟩
theorem Jc(x y:Int):bV 101 [.int .i64 x,.int .i64 y] (.int .i64 (uA x y)):=by
 obtain⟨B,hB,hF⟩:=uR [fa165] ⟨wG,trivial⟩ rfl;have a:∀x:Int,B 165 [.int .i64 x]=some (.bool false):=hF.1;refine kX hB Tryz.func101 (ord:=O0) (N:=N0) (by kernel_rfl) ((Dv _ _ _ x y).trans ?_);rw[a,bn,bO,a,bn,bO,bj,bj];unfold uA;cases decide (x<y)<;>cases decide (x>y)<;>rfl
def fa101:Fam:=⟨101,Int×Int,fun x=>[.int .i64 x.1,.int .i64 x.2],fun x=> .int .i64 (uA x.1 x.2)⟩
theorem wH:fa101.Good:=⟨fun x=>Jc x.1 x.2,fun i j h=>by
 obtain⟨a,b⟩:=i;obtain⟨a',b'⟩:=j;have h:[D.int .i64 a,D.int .i64 b]=[D.int .i64 a',D.int .i64 b']:=h;simp at h;simp[h]⟩
theorem Jd{call:CL}{f:Bool}{n:Nat}:∀(r pre:List Int) (fuel:Nat),(pre++r).length=n→n≤100000→r.length<fuel→
  nK call LL C1 fuel f n (iX (pre++r)) n (pre.length:Int)=some (.int .i64 (cN r)):=by
 intro r
 induction r with
 |nil=>
  intro pre fuel hn hB hf;cases fuel with
  |zero=>exact absurd hf (Nat.not_lt_zero _)
  |succ fuel=>
   subst hn;rw[pj,xw,bj];rfl
 |cons x r ih=>
  intro pre fuel hn hB hf;cases fuel with
  |zero=>exact absurd hf (Nat.not_lt_zero _)
  |succ fuel=>
   have ih:=ih (pre++[x]) fuel (by rw[m8];exact hn) hB (by simp at hf;omega);rw[m8] at ih;subst hn;rw[pj,AH,bv,AI,bq,qC,bw,tY pre x r (by omega),ih];show bB (x !=0) _ _=some (D.int .i64 (bB (x !=0) _ _));cases x !=0<;>rfl
theorem Je(x y:Int):bV 163 [.slc true 2 [.int .i64 x,.int .i64 y]] (.int .i64 (cN [x,y])):=
 kX dE Tryz.func163 (ord:=O0) (N:=F8) (by kernel_rfl) ((Du _ _ _ _ _ _).trans (Jd [x,y] [] LL rfl (by decide) (by unfold LL;simp)))
def fa163:Fam:=⟨163,Int×Int,fun x=>[.slc true 2 [.int .i64 x.1,.int .i64 x.2]],fun x=> .int .i64 (cN [x.1,x.2])⟩
theorem wI:fa163.Good:=⟨fun x=>Je x.1 x.2,fun i j h=>by
 obtain⟨a,b⟩:=i;obtain⟨a',b'⟩:=j;have h:[D.slc true 2 [.int .i64 a,.int .i64 b]]=[D.slc true 2 [.int .i64 a',.int .i64 b']]:=h;simp at h;simp[h]⟩
theorem qQ:∀(Z A B C:List D),B.length=Z.length→bS (A++(B++C)) A.length Z=A++(Z++C)
 |[],A,B,C,h=>by
  rw[List.length_eq_zero_iff.1 h];rfl
 |z::Z,A,[],C,h=>by cases h
 |z::Z,A,b::B,C,h=>by
  show bS ((A++(b::B++C)).set A.length z) (A.length+1) Z=_;rw[List.set_append_right _ _ (zb0 _),Nat.sub_self];show bS (A++z::(B++C)) (A.length+1) Z=_;have:=qQ Z (A++[z]) B C (by simpa using h);simpa using this
theorem uB{α:Type}(g:α→List D)(k:Nat)(hk:∀x,(g x).length=k):∀l:List α,(l.flatMap g).length=l.length*k
 |[]=>by simp
 |x::l=>by rw[List.flatMap_cons,za6,hk,uB g k hk l,za7,Nat.add_mul];omega
section
variable {γ:Type}(c:D→Option γ)
theorem s0(pre:List BZ)(x:BZ)(r:List BZ):bi ((pre++x::r).flatMap yP) (Int.toNat (pre.length:Int)*3+0) c=c (.str x.1):=co pre x r yP 3 (fun _=>rfl) 0 (by omega) c
theorem s1(pre:List BZ)(x:BZ)(r:List BZ):bi ((pre++x::r).flatMap yP) (Int.toNat (pre.length:Int)*3+1) c=c (.int .i64 x.2.1):=co pre x r yP 3 (fun _=>rfl) 1 (by omega) c
theorem s2(pre:List BZ)(x:BZ)(r:List BZ):bi ((pre++x::r).flatMap yP) (Int.toNat (pre.length:Int)*3+2) c=c (.int .i64 x.2.2):=co pre x r yP 3 (fun _=>rfl) 2 (by omega) c
end
section
variable {call mu:FuncId→List D→Option D}{e:TypeId}{k0 n m:Nat}{b vi:Int}
end
end Go.Pd
end
