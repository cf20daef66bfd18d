import Derived.Test.YtjhoaknnmfifgaaGreatDoorUnG
import Derived.Laws.RangeString
import Derived.Laws.RangeAny
import Derived.Laws.StructEq
section
namespace Go.Pd
open Go Go.Proofs Go.RowKit
abbrev rp:=Int×ByteArray
def Dq(x:rp):List D:=[.int .i64 x.1,.str x.2]
section
variable {γ:Type}(c:D→Option γ)
theorem n0(pre:List rp)(x:rp)(r:List rp):bc ((pre++x::r).flatMap Dq) (Int.toNat (pre.length:Int)*2+0) c=c (.int .i64 x.1):=bX pre x r Dq 2 (fun _=>rfl) 0 (by omega) c
theorem n1(pre:List rp)(x:rp)(r:List rp):bc ((pre++x::r).flatMap Dq) (Int.toNat (pre.length:Int)*2+1) c=c (.str x.2):=bX pre x r Dq 2 (fun _=>rfl) 1 (by omega) c
end
def fv(c:Int):Bool:=(decide (c≥97)&&decide (c≤122))||(decide (c≥65)&&decide (c≤90))
def lG(s:ByteArray)(i:Nat):Bool:=fv (bB s i)||(i !=0&&((decide (bB s i≥48)&&decide (bB s i≤57))||bB s i==95))
def gr(s:ByteArray):Nat→Nat→Bool
 |0,_=>true
 |m+1,i=>lG s i&&gr s m (i+1)
def iz(s:ByteArray):Bool:=bo (decide ((s.size:Int)<1)) false (bo (decide ((s.size:Int)>24)) false (gr s s.size 0))
theorem Pi{call:CL}{s:ByteArray}(hs:s.size≤24):∀(m i fuel:Nat),i+m=s.size→m<fuel→t7 call LL C1 fuel s i=some (.bool (gr s m i)):=by
 intro m
 induction m with
 |zero=>
  intro i fuel hi hf;cases fuel with
  |zero=>exact absurd hf (Nat.not_lt_zero _)
  |succ fuel=>
   have h1:decide ((i:Int)<(s.size:Int))=false:=by simp;omega
   rw[sN,h1,ba];rfl
 |succ m ih=>
  intro i fuel hi hf;cases fuel with
  |zero=>exact absurd hf (Nat.not_lt_zero _)
  |succ fuel=>
   have h1:decide ((i:Int)<(s.size:Int))=true:=by simp;omega
   have h2:decide ((0:Int)≤i∧Int.toNat (i:Int)<s.size)=true:=by simp;omega
   have hw:IntKind.wrap .i64 ((i:Int)+1)=((i+1:Nat):Int):=by rw[zB (by omega)];rfl
   have ih:=ih (i+1) fuel (by omega) (by omega);have h467:jf call LL C1 fuel s i=some (.bool (gr s m (i+1))):=by
    rw[yu _ _ _ _ _ _ (fun _=>rfl:∀t,C1 t=1),hw,ih]
   have h37:∀(c:Int) (b:Bool),fI call LL C1 fuel s i c b=some (.bool ((b||(i !=0&&((decide (c≥48)&&decide (c≤57))||c==95)))&&gr s m (i+1))):=fun c b=>by
    rw[wB _ _ _ _ _ _ _ _ (fun _=>rfl:∀t,C1 t=1),h467];have hz:((i:Int)==0)= !(i !=0):=by
     cases i<;>rfl
    rw[hz];generalize (i !=0)=q1;generalize decide (c≥48)=q2;generalize decide (c≤57)=q3;generalize (c==95)=q4;cases b<;>cases q1<;>cases q2<;>cases q3<;>cases q4<;>rfl
   rw[sN,h1,be,h2,bh,h37,h37,h37,show Int.toNat (i:Int)=i by simp];show _=some (D.bool (lG s i&&gr s m (i+1)));unfold lG fv;generalize (i !=0&&((decide (bB s i≥48)&&decide (bB s i≤57))||bB s i==95))=q0;generalize decide (bB s i≥97)=q1;generalize decide (bB s i≤122)=q2;generalize decide (bB s i≥65)=q3;generalize decide (bB s i≤90)=q4;cases q1<;>cases q2<;>cases q3<;>cases q4<;>rfl
theorem Pj(s:ByteArray):bR 80 [.str s] (.bool (iz s)):=by
 refine dG cp Tryz.func80 (ord:=O0) (N:=KA) (by kernel_rfl) ((Jo _ _ _ s).trans ?_);unfold iz;cases decide ((s.size:Int)<1) with
 |true=>rfl
 |false=>
  rw[ba,ba];cases h2:decide ((s.size:Int)>24) with
  |true=>rfl
  |false=>
   simp only[decide_eq_false_iff_not] at h2;rw[ba,ba,Dp _ _ _ _ (fun _=>rfl:∀t,C1 t=1)];exact Pi (by omega) s.size 0 LL (by omega) (by unfold LL;omega)
theorem My(c:Int):bR 167 [.int .i32 c] (.bool (fv c)):=by
 refine dG cp Tryz.func167 (ord:=O0) (N:=N0) (by kernel_rfl) ((FJ _ _ _ c).trans ?_);unfold fv;cases decide (c≥97)<;>cases decide (c≤122)<;>cases decide (c≥65)<;>cases decide (c≤90)<;>rfl
def FL:FuncId→List D→Option D:=fun k ds=>match k,ds with
 |167,[.int .i32 c]=>some (.bool (fv c))
 |_,_=>none
theorem FM:gY FL:=by
 intro k ds r h;unfold FL at h;split at h
 ·cases h;exact My _
 ·cases h
theorem Mz(c:Int):FL 167 [.int .i32 c]=some (.bool (fv c)):=rfl
theorem qh{s:ByteArray}{i:Nat}(h:i<s.size):bB s i=(s[i]'h).toNat:=by
 unfold bB;have:s[i]?=some s[i]:=by simp[h]
 rw[this]
theorem MA{s:ByteArray}:∀(m i fuel:Nat),i+m=s.size→m<fuel→ku FL LL C1 fuel s i=some (.bool (gr s m i&&(!(ByteArray.toList s==ByteArray.toList (ByteArray.mk #[]))&&decide ((s.size:Int)≤24)))):=by
 intro m
 induction m with
 |zero=>
  intro i fuel hi hf;cases fuel with
  |zero=>exact absurd hf (Nat.not_lt_zero _)
  |succ fuel=>
   have h1:decide (i<s.size)=false:=by simp;omega
   rw[qf,h1,ba];show _=some (D.bool (true&&_));cases (ByteArray.toList s==ByteArray.toList (ByteArray.mk #[]))<;>rfl
 |succ m ih=>
  intro i fuel hi hf;cases fuel with
  |zero=>exact absurd hf (Nat.not_lt_zero _)
  |succ fuel=>
   have hlt:i<s.size:=by omega
   have h1:decide (i<s.size)=true:=by simpa using hlt
   have hz:((i:Int)==0)= !(i !=0):=by cases i<;>rfl
   have hb:=qh hlt;rw[qf,h1,be,Mz,bf,bD,hz];show _=some (D.bool ((lG s i&&gr s m (i+1))&&_));by_cases ha:(s[i]'hlt).toNat<128
   ·have hd:=decode_ascii s i hlt ha;rw[hd];dsimp only;rw[ih (i+1) fuel (by omega) (by omega)];unfold lG;rw[hb];have e1:(((s[i]'hlt).toNat:Int) !=95)= !(((s[i]'hlt).toNat:Int)==95):=rfl;have e2:decide (((s[i]'hlt).toNat:Int)≥48)= !decide (((s[i]'hlt).toNat:Int)<48):=by
     by_cases h:((s[i]'hlt).toNat:Int)<48
     ·rw[show decide (((s[i]'hlt).toNat:Int)<48)=true by simpa using h];simp;omega
     ·rw[show decide (((s[i]'hlt).toNat:Int)<48)=false by simpa using h];simp;omega
    have e3:decide (((s[i]'hlt).toNat:Int)≤57)= !decide (((s[i]'hlt).toNat:Int)>57):=by
     by_cases h:((s[i]'hlt).toNat:Int)>57
     ·rw[show decide (((s[i]'hlt).toNat:Int)>57)=true by simpa using h];simp;omega
     ·rw[show decide (((s[i]'hlt).toNat:Int)>57)=false by simpa using h];simp;omega
    rw[e1,e2,e3];generalize fv ((s[i]'hlt).toNat:Int)=q1;generalize (i !=0)=q2;generalize decide (((s[i]'hlt).toNat:Int)<48)=q3;generalize decide (((s[i]'hlt).toNat:Int)>57)=q4;generalize (((s[i]'hlt).toNat:Int)==95)=q5;generalize gr s m (i+1)=q6;cases q1<;>cases q2<;>cases q3<;>cases q4<;>cases q5<;>cases q6<;>rfl
   ·obtain⟨hd,_⟩:=decode_high s i hlt (by omega);generalize Utf8.decode s i=dd at hd;have l1:fv (dd.1:Int)=false:=by
     unfold fv;simp;omega
    have l2:((dd.1:Int) !=95)=true:=by simp;omega
    have l3:decide ((dd.1:Int)<48)=false:=by simp;omega
    have l4:decide ((dd.1:Int)>57)=true:=by simp;omega
    have n1:lG s i=false:=by
     unfold lG fv;rw[hb];simp;omega
    rw[l1,l2,l3,l4,n1];cases (i !=0)<;>rfl
theorem Dr(s:ByteArray):(gr s s.size 0&&(!(ByteArray.toList s==ByteArray.toList (ByteArray.mk #[]))&&decide ((s.size:Int)≤24)))=iz s:=by
 unfold iz;have h0:(ByteArray.toList s==ByteArray.toList (ByteArray.mk #[]))=decide ((s.size:Int)<1):=by
  rw[ByteArray.toList_eq,ByteArray.toList_eq];have hsz:s.data.toList.length=s.size:=by rw[Array.length_toList];rfl
  by_cases h:(s.size:Int)<1
  ·rw[show decide ((s.size:Int)<1)=true by simpa using h];have:s.data.toList=[]:=List.eq_nil_of_length_eq_zero (by omega);rw[this];rfl
  ·rw[show decide ((s.size:Int)<1)=false by simpa using h];cases hl:s.data.toList with
   |nil=>rw[hl] at hsz;simp at hsz;omega
   |cons x l=>rfl
 rw[h0];have h2:decide ((s.size:Int)≤24)= !decide ((s.size:Int)>24):=by
  by_cases h:(s.size:Int)>24
  ·rw[show decide ((s.size:Int)>24)=true by simpa using h];simp;omega
  ·rw[show decide ((s.size:Int)>24)=false by simpa using h];simp;omega
 rw[h2];cases decide ((s.size:Int)<1)<;>cases decide ((s.size:Int)>24)<;>cases gr s s.size 0<;>rfl
theorem MB(s:ByteArray)(hs:s.size<4611686018427387904):bR 111 [.str s] (.bool (iz s)):=by
 refine dG FM Tryz.func111 (ord:=O0) (N:=Jq) (by kernel_rfl) ((FE _ _ _ s).trans ?_);rw[←Dr];exact MA s.size 0 LL (by omega) (by unfold LL;omega)
section
variable {f g:Bool}{n:Nat}{c:List D}{P S:Nat→Int}
end
abbrev wC:=ByteArray×ByteArray×Int
abbrev j2:=ByteArray×ByteArray×Int×rp
abbrev Ds:=Int×Int
abbrev CrdV:=ByteArray×Bool×List rp
abbrev KepV:=ByteArray×(Bool×List Ds)×(Bool×List CrdV)
def j3(l:List ByteArray):List D:=l.map D.str
def FN(m:wC):List D:=[.str m.1,.str m.2.1,.int .i64 m.2.2]
def rq(m:j2):List D:=[.str m.1,.str m.2.1,.int .i64 m.2.2.1,.int .i64 m.2.2.2.1,.str m.2.2.2.2]
def MC(h:Ds):List D:=[.int .i64 h.1,.int .i64 h.2]
def FO(c:CrdV):List D:=[.str c.1,.slc c.2.1 c.2.2.length (c.2.2.flatMap Dq)]
def AW(k:KepV):List D:=[.str k.1,.slc k.2.1.1 k.2.1.2.length (k.2.1.2.flatMap MC),.slc k.2.2.1 k.2.2.2.length (k.2.2.2.flatMap FO)]
structure UV where
 (cf mf hf kf sf pf:Bool)
 cl:List ByteArray
 me:List wC
 ho:List Ds
 mr:List j2
 sg:List ByteArray
 pa:List KepV
def UV.Fit(u:UV):Prop:=u.cl.length≤100000∧u.me.length≤100000∧u.ho.length≤100000∧u.mr.length≤100000∧u.sg.length≤100000∧u.pa.length≤100000
def qi(a b:ByteArray):Bool:=ByteArray.toList a==ByteArray.toList b
theorem Dt(a b:ByteArray):qi a b=qi b a:=by
 unfold qi;rw[Bool.eq_iff_iff,ze4,ze4];exact⟨Eq.symm,Eq.symm⟩
theorem sEq_iff{a b:ByteArray}:qi a b=true↔a=b:=by
 unfold qi;rw[ze4,ByteArray.toList_eq,ByteArray.toList_eq];constructor
 ·intro h;apply ByteArray.ext;exact Array.toList_inj.1 h
 ·intro h;rw[h]
def wD{α:Type}(p:α→Bool):List α→Nat→Int
 |[],_=> -1
 |x::r,i=>bo (p x) (i:Int) (wD p r (i+1))
def ix{α:Type}(p:α→Bool)(l:List α):Int:=wD p l 0
theorem sQ{α:Type}(p:α→Bool):∀(l:List α) (i:Nat),(l.find? p=none∧wD p l i= -1)∨∃j x,j<l.length∧l[j]?=some x∧l.find? p=some x∧wD p l i=((i+j:Nat):Int)
 |[],i=> .inl ⟨rfl,rfl⟩
 |x::r,i=>by
  rw[show wD p (x::r) i=bo (p x) (i:Int) (wD p r (i+1)) from rfl];cases hp:p x with
  |true=>exact .inr ⟨0,x,by simp,rfl,by simp[hp],rfl⟩
  |false=>
   rw[ba];rcases sQ p r (i+1) with⟨h1,h2⟩|⟨j,y,h1,h2,h3,h4⟩
   ·exact .inl ⟨by simp[hp,h1],h2⟩
   ·exact .inr ⟨j+1,y,by simp;exact h1,by simpa using h2,by simp[hp,h3],by rw[h4];congr 1;omega⟩
theorem FP{α:Type}(p:α→Bool)(l:List α):(l.find? p=none∧ix p l= -1)∨∃j x,j<l.length∧l[j]?=some x∧l.find? p=some x∧ix p l=(j:Int):=by
 rcases sQ p l 0 with h|⟨j,x,h1,h2,h3,h4⟩
 ·exact .inl h
 ·exact .inr ⟨j,x,h1,h2,h3,by rw[show ix p l=wD p l 0 from rfl,h4,Nat.zero_add]⟩
theorem Jt{α:Type}(p:α→Bool)(l:List α):decide (ix p l≥0)=l.any p:=by
 rcases FP p l with⟨h1,h2⟩|⟨j,x,h1,h2,h3,h4⟩
 ·rw[h2];have:l.any p=false:=by
   cases h:l.any p with
   |false=>rfl
   |true=>
    obtain⟨x,hx,hp⟩:=List.any_eq_true.1 h;exact absurd hp (List.find?_eq_none.1 h1 x hx)
  rw[this];rfl
 ·rw[h4];have:l.any p=true:=List.any_eq_true.2 ⟨x,List.mem_of_find?_eq_some h3,List.find?_some h3⟩;rw[this];simp
section
variable {γ:Type}(c:D→Option γ)
theorem m1(pre:List wC)(x:wC)(r:List wC):bc ((pre++x::r).flatMap FN) (Int.toNat (pre.length:Int)*3+1) c=c (.str x.2.1):=bX pre x r FN 3 (fun _=>rfl) 1 (by omega) c
theorem m2(pre:List wC)(x:wC)(r:List wC):bc ((pre++x::r).flatMap FN) (Int.toNat (pre.length:Int)*3+2) c=c (.int .i64 x.2.2):=bX pre x r FN 3 (fun _=>rfl) 2 (by omega) c
theorem k0(pre:List j2)(x:j2)(r:List j2):bc ((pre++x::r).flatMap rq) (Int.toNat (pre.length:Int)*5+0) c=c (.str x.1):=bX pre x r rq 5 (fun _=>rfl) 0 (by omega) c
theorem k1(pre:List j2)(x:j2)(r:List j2):bc ((pre++x::r).flatMap rq) (Int.toNat (pre.length:Int)*5+1) c=c (.str x.2.1):=bX pre x r rq 5 (fun _=>rfl) 1 (by omega) c
theorem k2(pre:List j2)(x:j2)(r:List j2):bc ((pre++x::r).flatMap rq) (Int.toNat (pre.length:Int)*5+2) c=c (.int .i64 x.2.2.1):=bX pre x r rq 5 (fun _=>rfl) 2 (by omega) c
theorem k3(pre:List j2)(x:j2)(r:List j2):bc ((pre++x::r).flatMap rq) (Int.toNat (pre.length:Int)*5+3) c=c (.int .i64 x.2.2.2.1):=bX pre x r rq 5 (fun _=>rfl) 3 (by omega) c
theorem k4(pre:List j2)(x:j2)(r:List j2):bc ((pre++x::r).flatMap rq) (Int.toNat (pre.length:Int)*5+4) c=c (.str x.2.2.2.2):=bX pre x r rq 5 (fun _=>rfl) 4 (by omega) c
theorem p0(pre:List KepV)(x:KepV)(r:List KepV):bc ((pre++x::r).flatMap AW) (Int.toNat (pre.length:Int)*3+0) c=c (.str x.1):=bX pre x r AW 3 (fun _=>rfl) 0 (by omega) c
theorem t0(pre:List ByteArray)(x:ByteArray)(r:List ByteArray):bc (j3 (pre++x::r)) (Int.toNat (pre.length:Int)*1) c=c (.str x):=wc pre x r D.str c
end
section
variable {f0 f1 f2 f3 f4 f5:Bool}{b0 b1 b2 b3 b4 b5:Nat}{e0 e1 e2 e3 e4 e5:List D}
end
section
variable {f0 f1 f2 f3 f4 f5:Bool}{b0 b1 b2 b3 b4 b5:Nat}{e0 e1 e2 e3 e4 e5:List D}
end
end Go.Pd
end
section
namespace Go.Pd
open Go Go.Proofs Go.RowKit
def kw{α:Type}(g:α→List D):List α→Ow
 |[]=> .nil
 |o::os=> .own (os.length+1) ((o::os).flatMap g)
def AX{α:Type}(g:α→List D):List α→D
 |[]=> .slc true 0 []
 |o::os=> .slc false (os.length+1) ((o::os).flatMap g)
theorem wE{α:Type}(g:α→List D)(acc:List α)(s:α):kw g (acc++[s])= .own (acc.length+1) (acc.flatMap g++g s):=by
 cases acc with
 |nil=>simp[kw]
 |cons o os=>
  show Ow.own ((os++[s]).length+1) (((o::os)++[s]).flatMap g)=_;rw[zd5,show(os++[s]).length=os.length+1 by simp];simp
theorem ms{α:Type}(g:α→List D)(l:List α):AX g l= .slc l.isEmpty l.length (l.flatMap g):=by cases l<;>rfl
def iD(x:Int):List D:=[.int .i64 x]
theorem zE{i:Nat}(h:i≤1000000):decide ((i+1)*8≤cg∧i+1≤9223372036854775807)=true:=by
 simp only[zc7];rw[show cg=140737488355328 from rfl];omega
section
variable {γ:Type}
theorem AY(a b:D)(k:List D→Option γ):cJ (.tup [a,b]) 2 k=k [a,b]:=rfl
theorem AZ(a b:D)(k:D→Option γ):bc [a,b] 0 k=k a:=rfl
theorem A6(a b:D)(k:D→Option γ):bc [a,b] 1 k=k b:=rfl
end
section
variable {f0 f1 f2 f3 f4 f5:Bool}{b0 b1 b2 b3 b4 b5:Nat}{e0 e1 e2 e3 e4 e5:List D}
end
end Go.Pd
end
section
namespace Go.Pd
open Go Go.Proofs Go.RowKit
def fO:List Int→Int
 |[]=>0
 |x::r=>bo (x !=0) x (fO r)
theorem Pk{call:CL}{f:Bool}{n:Nat}:∀(r pre:List Int) (fuel:Nat),(pre++r).length=n→n≤100000→r.length<fuel→
  t8 call LL C1 fuel f n (b9 (pre++r)) n (pre.length:Int)=some (.int .i64 (fO r)):=by
 intro r
 induction r with
 |nil=>
  intro pre fuel hn hB hf;cases fuel with
  |zero=>exact absurd hf (Nat.not_lt_zero _)
  |succ fuel=>
   subst hn;rw[sO,dI,ba];rfl
 |cons x r ih=>
  intro pre fuel hn hB hf;cases fuel with
  |zero=>exact absurd hf (Nat.not_lt_zero _)
  |succ fuel=>
   have ih:=ih (pre++[x]) fuel (by rw[Fa];exact hn) hB (by simp at hf;omega);rw[Fa] at ih;subst hn;rw[sO,eF,be,eh,bh,AQ,bp,cX pre x r (by omega),ih];show bo (x !=0) _ _=some (D.int .i64 (bo (x !=0) _ _));cases x !=0<;>rfl
theorem Pm(l:List Int)(hl:l.length≤100):bR 87 [.slc true l.length (b9 l)] (.int .i64 (fO l)):=
 dG cp Tryz.func87 (ord:=O0) (N:=Pg) (by kernel_rfl) ((Jp _ _ _ _ _ _).trans (Pk l [] LL rfl (by omega) (by unfold LL;omega)))
theorem qj:∀{l m:List Int},b9 l=b9 m→l=m
 |[],[],_=>rfl
 |[],_::_,h=>by cases h
 |_::_,[],h=>by cases h
 |x::l,y::m,h=>by
  simp only[b9,List.map_cons,zc5,D.int.injEq,true_and] at h;rw[h.1,qj (l:=l) (m:=m) h.2]
def fa87:Fam:=⟨87,{l:List Int//l.length≤100},fun l=>[.slc true l.1.length (b9 l.1)],fun l=> .int .i64 (fO l.1)⟩
theorem kx:fa87.Good:=⟨fun l=>Pm l.1 l.2,fun i j h=>by
 have h:[D.slc true i.1.length (b9 i.1)]=[D.slc true j.1.length (b9 j.1)]:=h;simp only[zc5,and_true,D.slc.injEq,true_and] at h;rw[show i=j from Subtype.ext (qj h.2)]⟩
theorem fstL_z2{a b:Int}:fO [a,b]=0↔a=0∧b=0:=by
 unfold fO;by_cases h:a=0
 ·subst h;show fO [b]=0↔_;unfold fO;by_cases h:b=0
  ·subst h;simp[bo,fO]
  ·have:(b !=0)=true:=by simpa using h
   rw[this,be];simp[h]
 ·have:(a !=0)=true:=by simpa using h
  rw[this,be];simp[h]
theorem MD(b:Bool)(e:Int):bR 119 [.bool b,.int .i64 e] (.int .i64 (bo b e 0)):=
 dG cp Tryz.func119 (ord:=O0) (N:=N0) (by kernel_rfl) ((FH _ _ _ b e).trans (by cases b<;>rfl))
def fa119:Fam:=⟨119,Bool×Int,fun x=>[.bool x.1,.int .i64 x.2],fun x=> .int .i64 (bo x.1 x.2 0)⟩
theorem jg:fa119.Good:=⟨fun x=>MD x.1 x.2,fun i j h=>by
 obtain⟨a,b⟩:=i;obtain⟨a',b'⟩:=j;have h:[D.bool a,D.int .i64 b]=[D.bool a',D.int .i64 b']:=h;simp at h;simp[h]⟩
def rt(n a b:Int):Bool:=decide (n<a)||decide (n>b)
theorem Hn(n a b:Int):bR 118 [.int .i64 n,.int .i64 a,.int .i64 b] (.bool (rt n a b)):=
 dG cp Tryz.func118 (ord:=O0) (N:=N0) (by kernel_rfl) ((FF _ _ _ n a b).trans (by unfold rt;cases decide (n<a)<;>rfl))
def fa118:Fam:=⟨118,Int×Int×Int,fun x=>[.int .i64 x.1,.int .i64 x.2.1,.int .i64 x.2.2],fun x=> .bool (rt x.1 x.2.1 x.2.2)⟩
theorem yv:fa118.Good:=⟨fun x=>Hn x.1 x.2.1 x.2.2,fun i j h=>by
 obtain⟨a,b,c⟩:=i;obtain⟨a',b',c'⟩:=j;have h:[D.int .i64 a,D.int .i64 b,D.int .i64 c]=[D.int .i64 a',D.int .i64 b',D.int .i64 c']:=h;simp at h;simp[h]⟩
def fa80:Fam:=⟨80,ByteArray,fun s=>[.str s],fun s=> .bool (iz s)⟩
theorem A7:fa80.Good:=⟨Pj,fun i j h=>by
 have h:[D.str i]=[D.str j]:=h;simp only[zc5,and_true] at h;rw[show i=j from D.str.inj h]⟩
def Ju(l:List ByteArray)(s:ByteArray):Bool:=l.any fun x=>qi x s
theorem ME{call:CL}{f:Bool}{n:Nat}(s:ByteArray):∀(r pre:List ByteArray) (fuel:Nat),(pre++r).length=n→n≤100000→r.length<fuel→
  oJ call LL C1 fuel f n (j3 (pre++r)) s n (pre.length:Int)=some (.int .i64 (wD (fun x=>qi x s) r pre.length)):=by
 intro r
 induction r with
 |nil=>
  intro pre fuel hn hB hf;cases fuel with
  |zero=>exact absurd hf (Nat.not_lt_zero _)
  |succ fuel=>
   subst hn;rw[qg,dI,ba];rfl
 |cons x r ih=>
  intro pre fuel hn hB hf;cases fuel with
  |zero=>exact absurd hf (Nat.not_lt_zero _)
  |succ fuel=>
   have ih:=ih (pre++[x]) fuel (by rw[Fa];exact hn) hB (by simp at hf;omega);rw[Fa] at ih;subst hn;rw[qg,eF,be,eh,bh,t0,bE,cX pre x r (by omega),ih,show(pre++[x]).length=pre.length+1 by simp];show bo (qi s x) _ _=some (D.int .i64 (bo (qi x s) _ _));rw[Dt s x];cases qi x s<;>rfl
theorem MF{f:Bool}(l:List ByteArray)(s:ByteArray)(hl:l.length≤100000):bR 223 [.slc f l.length (j3 l),.str s] (.int .i64 (ix (fun x=>qi x s) l)):=
 dG cp Tryz.func223 (ord:=O0) (N:=Jr) (by kernel_rfl) ((FK _ _ _ _ _ _ _).trans (ME s l [] LL rfl hl (by unfold LL;omega)))
theorem MG{f:Bool}(l:List ByteArray)(s:ByteArray)(hl:l.length≤100000):bR 155 [.slc f l.length (j3 l),.str s] (.bool (Ju l s)):=by
 obtain⟨B,hB,hF⟩:=eL [one 223 [.slc f l.length (j3 l),.str s] (.int .i64 (ix (fun x=>qi x s) l))] ⟨bg (MF l s hl),trivial⟩ rfl;have e:B 223 [.slc f l.length (j3 l),.str s]=some (.int .i64 (ix (fun x=>qi x s) l)):=hF.1 ();refine dG hB Tryz.func155 (ord:=O0) (N:=N0) (by kernel_rfl) ((FI _ _ _ _ _ _ _).trans ?_);rw[e,bf,bp,Jt];rfl
section
variable {f0 f1 f2 f3 f4 f5:Bool}{b0 b1 b2 b3 b4 b5:Nat}{e0 e1 e2 e3 e4 e5:List D}
end
end Go.Pd
end
