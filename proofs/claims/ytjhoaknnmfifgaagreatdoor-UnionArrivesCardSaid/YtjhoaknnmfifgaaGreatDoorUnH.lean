import Derived.Test.YtjhoaknnmfifgaaGreatDoorUnG
import Derived.Laws.RangeString
import Derived.Laws.RangeAny
import Derived.Laws.StructEq
section
namespace Go.Pd
open Go Go.Proofs Go.RowKit
def gY(s:ByteArray):Bool:=ByteArray.toList s==ByteArray.toList (ByteArray.mk #[])
def uu(s:ByteArray):Bool:=ByteArray.toList s==ByteArray.toList (ByteArray.mk #[45])
def uv(s:ByteArray):Bool:=ByteArray.toList s==ByteArray.toList (ByteArray.mk #[120])
abbrev jm:=Int×ByteArray
def yM(x:jm):List D:=[.int .i64 x.1,.str x.2]
section
variable {γ:Type}(c:D→Option γ)
theorem n0(pre:List jm)(x:jm)(r:List jm):bi ((pre++x::r).flatMap yM) (Int.toNat (pre.length:Int)*2+0) c=c (.int .i64 x.1):=co pre x r yM 2 (fun _=>rfl) 0 (by omega) c
theorem n1(pre:List jm)(x:jm)(r:List jm):bi ((pre++x::r).flatMap yM) (Int.toNat (pre.length:Int)*2+1) c=c (.str x.2):=co pre x r yM 2 (fun _=>rfl) 1 (by omega) c
end
def fx(c:Int):Bool:=(decide (c≥97)&&decide (c≤122))||(decide (c≥65)&&decide (c≤90))
def kW(s:ByteArray)(i:Nat):Bool:=fx (cz s i)||(i !=0&&((decide (cz s i≥48)&&decide (cz s i≤57))||cz s i==95))
def gt(s:ByteArray):Nat→Nat→Bool
 |0,_=>true
 |m+1,i=>kW s i&&gt s m (i+1)
def eZ(s:ByteArray):Bool:=bB (decide ((s.size:Int)<1)) false (bB (decide ((s.size:Int)>24)) false (gt s s.size 0))
theorem KE{call:CL}{s:ByteArray}(hs:s.size≤24):∀(m i fuel:Nat),i+m=s.size→m<fuel→r9 call LL C1 fuel s i=some (.bool (gt s m i)):=by
 intro m
 induction m with
 |zero=>
  intro i fuel hi hf;cases fuel with
  |zero=>exact absurd hf (Nat.not_lt_zero _)
  |succ fuel=>
   have h1:decide ((i:Int)<(s.size:Int))=false:=by simp;omega
   rw[qO,h1,bj];rfl
 |succ m ih=>
  intro i fuel hi hf;cases fuel with
  |zero=>exact absurd hf (Nat.not_lt_zero _)
  |succ fuel=>
   have h1:decide ((i:Int)<(s.size:Int))=true:=by simp;omega
   have h2:decide ((0:Int)≤i∧Int.toNat (i:Int)<s.size)=true:=by simp;omega
   have hw:IntKind.wrap .i64 ((i:Int)+1)=((i+1:Nat):Int):=by rw[cv (by omega)];rfl
   have ih:=ih (i+1) fuel (by omega) (by omega);have h467:iY call LL C1 fuel s i=some (.bool (gt s m (i+1))):=by
    rw[wA _ _ _ _ _ _ (fun _=>rfl:∀t,C1 t=1),hw,ih]
   have h37:∀(c:Int) (b:Bool),fM call LL C1 fuel s i c b=some (.bool ((b||(i !=0&&((decide (c≥48)&&decide (c≤57))||c==95)))&&gt s m (i+1))):=fun c b=>by
    rw[ut _ _ _ _ _ _ _ _ (fun _=>rfl:∀t,C1 t=1),h467];have hz:((i:Int)==0)= !(i !=0):=by
     cases i<;>rfl
    rw[hz];generalize (i !=0)=q1;generalize decide (c≥48)=q2;generalize decide (c≤57)=q3;generalize (c==95)=q4;cases b<;>cases q1<;>cases q2<;>cases q3<;>cases q4<;>rfl
   rw[qO,h1,bv,h2,bq,h37,h37,h37,show Int.toNat (i:Int)=i by simp];show _=some (D.bool (kW s i&&gt s m (i+1)));unfold kW fx;generalize (i !=0&&((decide (cz s i≥48)&&decide (cz s i≤57))||cz s i==95))=q0;generalize decide (cz s i≥97)=q1;generalize decide (cz s i≤122)=q2;generalize decide (cz s i≥65)=q3;generalize decide (cz s i≤90)=q4;cases q1<;>cases q2<;>cases q3<;>cases q4<;>rfl
theorem KF(s:ByteArray):bV 80 [.str s] (.bool (eZ s)):=by
 refine kX dE Tryz.func80 (ord:=O0) (N:=GJ) (by kernel_rfl) ((F3 _ _ _ s).trans ?_);unfold eZ;cases decide ((s.size:Int)<1) with
 |true=>rfl
 |false=>
  rw[bj,bj];cases h2:decide ((s.size:Int)>24) with
  |true=>rfl
  |false=>
   simp only[decide_eq_false_iff_not] at h2;rw[bj,bj,Bp _ _ _ _ (fun _=>rfl:∀t,C1 t=1)];exact KE (by omega) s.size 0 LL (by omega) (by unfold LL;omega)
theorem IS(c:Int):bV 167 [.int .i32 c] (.bool (fx c)):=by
 refine kX dE Tryz.func167 (ord:=O0) (N:=N0) (by kernel_rfl) ((Dn _ _ _ c).trans ?_);unfold fx;cases decide (c≥97)<;>cases decide (c≤122)<;>cases decide (c≥65)<;>cases decide (c≤90)<;>rfl
def Dp:FuncId→List D→Option D:=fun k ds=>match k,ds with
 |167,[.int .i32 c]=>some (.bool (fx c))
 |_,_=>none
theorem Dq:gX Dp:=by
 intro k ds r h;unfold Dp at h;split at h
 ·cases h;exact IS _
 ·cases h
theorem IT(c:Int):Dp 167 [.int .i32 c]=some (.bool (fx c)):=rfl
theorem wB{s:ByteArray}{i:Nat}(h:i<s.size):cz s i=(s[i]'h).toNat:=by
 unfold cz;have:s[i]?=some s[i]:=by simp[h]
 rw[this]
theorem IU{s:ByteArray}:∀(m i fuel:Nat),i+m=s.size→m<fuel→j5 Dp LL C1 fuel s i=some (.bool (gt s m i&&(!(ByteArray.toList s==ByteArray.toList (ByteArray.mk #[]))&&decide ((s.size:Int)≤24)))):=by
 intro m
 induction m with
 |zero=>
  intro i fuel hi hf;cases fuel with
  |zero=>exact absurd hf (Nat.not_lt_zero _)
  |succ fuel=>
   have h1:decide (i<s.size)=false:=by simp;omega
   rw[oY,h1,bj];show _=some (D.bool (true&&_));cases (ByteArray.toList s==ByteArray.toList (ByteArray.mk #[]))<;>rfl
 |succ m ih=>
  intro i fuel hi hf;cases fuel with
  |zero=>exact absurd hf (Nat.not_lt_zero _)
  |succ fuel=>
   have hlt:i<s.size:=by omega
   have h1:decide (i<s.size)=true:=by simpa using hlt
   have hz:((i:Int)==0)= !(i !=0):=by cases i<;>rfl
   have hb:=wB hlt;rw[oY,h1,bv,IT,bn,bO,hz];show _=some (D.bool ((kW s i&&gt s m (i+1))&&_));by_cases ha:(s[i]'hlt).toNat<128
   ·have hd:=decode_ascii s i hlt ha;rw[hd];dsimp only;rw[ih (i+1) fuel (by omega) (by omega)];unfold kW;rw[hb];have e1:(((s[i]'hlt).toNat:Int) !=95)= !(((s[i]'hlt).toNat:Int)==95):=rfl;have e2:decide (((s[i]'hlt).toNat:Int)≥48)= !decide (((s[i]'hlt).toNat:Int)<48):=by
     by_cases h:((s[i]'hlt).toNat:Int)<48
     ·rw[show decide (((s[i]'hlt).toNat:Int)<48)=true by simpa using h];simp;omega
     ·rw[show decide (((s[i]'hlt).toNat:Int)<48)=false by simpa using h];simp;omega
    have e3:decide (((s[i]'hlt).toNat:Int)≤57)= !decide (((s[i]'hlt).toNat:Int)>57):=by
     by_cases h:((s[i]'hlt).toNat:Int)>57
     ·rw[show decide (((s[i]'hlt).toNat:Int)>57)=true by simpa using h];simp;omega
     ·rw[show decide (((s[i]'hlt).toNat:Int)>57)=false by simpa using h];simp;omega
    rw[e1,e2,e3];generalize fx ((s[i]'hlt).toNat:Int)=q1;generalize (i !=0)=q2;generalize decide (((s[i]'hlt).toNat:Int)<48)=q3;generalize decide (((s[i]'hlt).toNat:Int)>57)=q4;generalize (((s[i]'hlt).toNat:Int)==95)=q5;generalize gt s m (i+1)=q6;cases q1<;>cases q2<;>cases q3<;>cases q4<;>cases q5<;>cases q6<;>rfl
   ·obtain⟨hd,_⟩:=decode_high s i hlt (by omega);generalize Utf8.decode s i=dd at hd;have l1:fx (dd.1:Int)=false:=by
     unfold fx;simp;omega
    have l2:((dd.1:Int) !=95)=true:=by simp;omega
    have l3:decide ((dd.1:Int)<48)=false:=by simp;omega
    have l4:decide ((dd.1:Int)>57)=true:=by simp;omega
    have n1:kW s i=false:=by
     unfold kW fx;rw[hb];simp;omega
    rw[l1,l2,l3,l4,n1];cases (i !=0)<;>rfl
theorem Bq(s:ByteArray):(gt s s.size 0&&(!(ByteArray.toList s==ByteArray.toList (ByteArray.mk #[]))&&decide ((s.size:Int)≤24)))=eZ s:=by
 unfold eZ;have h0:(ByteArray.toList s==ByteArray.toList (ByteArray.mk #[]))=decide ((s.size:Int)<1):=by
  rw[ByteArray.toList_eq,ByteArray.toList_eq];have hsz:s.data.toList.length=s.size:=by rw[Array.length_toList];rfl
  by_cases h:(s.size:Int)<1
  ·rw[show decide ((s.size:Int)<1)=true by simpa using h];have:s.data.toList=[]:=List.eq_nil_of_length_eq_zero (by omega);rw[this];rfl
  ·rw[show decide ((s.size:Int)<1)=false by simpa using h];cases hl:s.data.toList with
   |nil=>rw[hl] at hsz;simp at hsz;omega
   |cons x l=>rfl
 rw[h0];have h2:decide ((s.size:Int)≤24)= !decide ((s.size:Int)>24):=by
  by_cases h:(s.size:Int)>24
  ·rw[show decide ((s.size:Int)>24)=true by simpa using h];simp;omega
  ·rw[show decide ((s.size:Int)>24)=false by simpa using h];simp;omega
 rw[h2];cases decide ((s.size:Int)<1)<;>cases decide ((s.size:Int)>24)<;>cases gt s s.size 0<;>rfl
theorem IV(s:ByteArray)(hs:s.size<4611686018427387904):bV 111 [.str s] (.bool (eZ s)):=by
 refine kX Dq Tryz.func111 (ord:=O0) (N:=F5) (by kernel_rfl) ((Di _ _ _ s).trans ?_);rw[←Bq];exact IU s.size 0 LL (by omega) (by unfold LL;omega)
def lN(s:ByteArray):Bool:=ByteArray.toList s==ByteArray.toList (ByteArray.mk #[99])
def m9(x:jm):Int:=bB (gY x.2||lN x.2) (bB (decide (x.1<1)||decide (x.1>99)) 3 0) (bB (uv x.2||uu x.2) (bB (x.1 !=0) 3 0) 13)
theorem IW(x:jm):bV 145 [.agg [.int .i64 x.1,.str x.2]] (.int .i64 (m9 x)):=by
 refine kX dE Tryz.func145 (ord:=O0) (N:=N0) (by kernel_rfl) ((Dl _ _ _ x.1 x.2).trans ?_);unfold m9 gY lN uv uu;generalize (ByteArray.toList x.2==ByteArray.toList (ByteArray.mk #[]))=q1;generalize (ByteArray.toList x.2==ByteArray.toList (ByteArray.mk #[99]))=q2;generalize (ByteArray.toList x.2==ByteArray.toList (ByteArray.mk #[120]))=q3;generalize (ByteArray.toList x.2==ByteArray.toList (ByteArray.mk #[45]))=q4;generalize decide (x.1<1)=q5;generalize decide (x.1>99)=q6;generalize (x.1 !=0)=q7;cases q1<;>cases q2<;>cases q3<;>cases q4<;>cases q5<;>cases q6<;>cases q7<;>rfl
section
variable {f g:Bool}{n:Nat}{c:List D}{P S:Nat→Int}
end
abbrev pO:=ByteArray×ByteArray×Int
abbrev gw:=ByteArray×ByteArray×Int×jm
abbrev Br:=Int×Int
abbrev CrdV:=ByteArray×Bool×List jm
abbrev KepV:=ByteArray×(Bool×List Br)×(Bool×List CrdV)
def dK(l:List ByteArray):List D:=l.map D.str
def Dr(m:pO):List D:=[.str m.1,.str m.2.1,.int .i64 m.2.2]
def pP(m:gw):List D:=[.str m.1,.str m.2.1,.int .i64 m.2.2.1,.int .i64 m.2.2.2.1,.str m.2.2.2.2]
def IX(h:Br):List D:=[.int .i64 h.1,.int .i64 h.2]
def Ds(c:CrdV):List D:=[.str c.1,.slc c.2.1 c.2.2.length (c.2.2.flatMap yM)]
def yN(k:KepV):List D:=[.str k.1,.slc k.2.1.1 k.2.1.2.length (k.2.1.2.flatMap IX),.slc k.2.2.1 k.2.2.2.length (k.2.2.2.flatMap Ds)]
structure UV where
 (cf mf hf kf sf pf:Bool)
 cl:List ByteArray
 me:List pO
 ho:List Br
 mr:List gw
 sg:List ByteArray
 pa:List KepV
def UV.Fit(u:UV):Prop:=u.cl.length≤100000∧u.me.length≤100000∧u.ho.length≤100000∧u.mr.length≤100000∧u.sg.length≤100000∧u.pa.length≤100000
def dL(a b:ByteArray):Bool:=ByteArray.toList a==ByteArray.toList b
theorem oZ(a b:ByteArray):dL a b=dL b a:=by
 unfold dL;rw[Bool.eq_iff_iff,ze0,ze0];exact⟨Eq.symm,Eq.symm⟩
theorem sEq_iff{a b:ByteArray}:dL a b=true↔a=b:=by
 unfold dL;rw[ze0,ByteArray.toList_eq,ByteArray.toList_eq];constructor
 ·intro h;apply ByteArray.ext;exact Array.toList_inj.1 h
 ·intro h;rw[h]
section
variable {γ:Type}(c:D→Option γ)
theorem m1(pre:List pO)(x:pO)(r:List pO):bi ((pre++x::r).flatMap Dr) (Int.toNat (pre.length:Int)*3+1) c=c (.str x.2.1):=co pre x r Dr 3 (fun _=>rfl) 1 (by omega) c
theorem m2(pre:List pO)(x:pO)(r:List pO):bi ((pre++x::r).flatMap Dr) (Int.toNat (pre.length:Int)*3+2) c=c (.int .i64 x.2.2):=co pre x r Dr 3 (fun _=>rfl) 2 (by omega) c
theorem k0(pre:List gw)(x:gw)(r:List gw):bi ((pre++x::r).flatMap pP) (Int.toNat (pre.length:Int)*5+0) c=c (.str x.1):=co pre x r pP 5 (fun _=>rfl) 0 (by omega) c
theorem k1(pre:List gw)(x:gw)(r:List gw):bi ((pre++x::r).flatMap pP) (Int.toNat (pre.length:Int)*5+1) c=c (.str x.2.1):=co pre x r pP 5 (fun _=>rfl) 1 (by omega) c
theorem k2(pre:List gw)(x:gw)(r:List gw):bi ((pre++x::r).flatMap pP) (Int.toNat (pre.length:Int)*5+2) c=c (.int .i64 x.2.2.1):=co pre x r pP 5 (fun _=>rfl) 2 (by omega) c
theorem k3(pre:List gw)(x:gw)(r:List gw):bi ((pre++x::r).flatMap pP) (Int.toNat (pre.length:Int)*5+3) c=c (.int .i64 x.2.2.2.1):=co pre x r pP 5 (fun _=>rfl) 3 (by omega) c
theorem k4(pre:List gw)(x:gw)(r:List gw):bi ((pre++x::r).flatMap pP) (Int.toNat (pre.length:Int)*5+4) c=c (.str x.2.2.2.2):=co pre x r pP 5 (fun _=>rfl) 4 (by omega) c
theorem p0(pre:List KepV)(x:KepV)(r:List KepV):bi ((pre++x::r).flatMap yN) (Int.toNat (pre.length:Int)*3+0) c=c (.str x.1):=co pre x r yN 3 (fun _=>rfl) 0 (by omega) c
theorem t0(pre:List ByteArray)(x:ByteArray)(r:List ByteArray):bi (dK (pre++x::r)) (Int.toNat (pre.length:Int)*1) c=c (.str x):=tZ pre x r D.str c
end
section
variable {f0 f1 f2 f3 f4 f5:Bool}{b0 b1 b2 b3 b4 b5:Nat}{e0 e1 e2 e3 e4 e5:List D}
def LJ(p:ByteArray)(h:Int)(own:Bool)(m:gw):Bool:=dL m.1 p&&(m.2.2.1==h&&(dL m.2.1 m.1==own))
end
section
variable {f0 f1 f2 f3 f4 f5:Bool}{b0 b1 b2 b3 b4 b5:Nat}{e0 e1 e2 e3 e4 e5:List D}
end
end Go.Pd
end
section
namespace Go.Pd
open Go Go.Proofs Go.RowKit
def o9{α:Type}(g:α→List D):List α→Ow
 |[]=> .nil
 |o::os=> .own (os.length+1) ((o::os).flatMap g)
def mv{α:Type}(g:α→List D):List α→D
 |[]=> .slc true 0 []
 |o::os=> .slc false (os.length+1) ((o::os).flatMap g)
theorem pd{α:Type}(g:α→List D)(acc:List α)(s:α):o9 g (acc++[s])= .own (acc.length+1) (acc.flatMap g++g s):=by
 cases acc with
 |nil=>simp[o9]
 |cons o os=>
  show Ow.own ((os++[s]).length+1) (((o::os)++[s]).flatMap g)=_;rw[zd3,show(os++[s]).length=os.length+1 by simp];simp
theorem lO{α:Type}(g:α→List D)(l:List α):mv g l= .slc l.isEmpty l.length (l.flatMap g):=by cases l<;>rfl
theorem Bt{i:Nat}(h:i≤1000000):decide ((i+1)*24≤cH∧i+1≤9223372036854775807)=true:=by
 simp only[zc5];rw[show cH=140737488355328 from rfl];omega
section
variable {γ:Type}
theorem na(a b:D)(k:List D→Option γ):fA (.tup [a,b]) 2 k=k [a,b]:=rfl
theorem nb(a b:D)(k:D→Option γ):bi [a,b] 0 k=k a:=rfl
theorem nc(a b:D)(k:D→Option γ):bi [a,b] 1 k=k b:=rfl
theorem Bu{α:Type}{l:List α}{j:Nat}{x:α}(h:l[j]?=some x):∃pre r,l=pre++x::r∧pre.length=j:=by
 obtain⟨h1,h2⟩:=zb9.1 h;exact⟨l.take j,l.drop (j+1),by rw[←h2,List.getElem_cons_drop,zd9],by simp;omega⟩
end
section
variable {f0 f1 f2 f3 f4 f5:Bool}{b0 b1 b2 b3 b4 b5:Nat}{e0 e1 e2 e3 e4 e5:List D}
end
end Go.Pd
end
section
namespace Go.Pd
open Go Go.Proofs Go.RowKit
def cN:List Int→Int
 |[]=>0
 |x::r=>bB (x !=0) x (cN r)
theorem KG{call:CL}{f:Bool}{n:Nat}:∀(r pre:List Int) (fuel:Nat),(pre++r).length=n→n≤100000→r.length<fuel→
  sd call LL C1 fuel f n (iX (pre++r)) n (pre.length:Int)=some (.int .i64 (cN r)):=by
 intro r
 induction r with
 |nil=>
  intro pre fuel hn hB hf;cases fuel with
  |zero=>exact absurd hf (Nat.not_lt_zero _)
  |succ fuel=>
   subst hn;rw[qP,xw,bj];rfl
 |cons x r ih=>
  intro pre fuel hn hB hf;cases fuel with
  |zero=>exact absurd hf (Nat.not_lt_zero _)
  |succ fuel=>
   have ih:=ih (pre++[x]) fuel (by rw[m8];exact hn) hB (by simp at hf;omega);rw[m8] at ih;subst hn;rw[qP,AH,bv,AI,bq,qC,bw,tY pre x r (by omega),ih];show bB (x !=0) _ _=some (D.int .i64 (bB (x !=0) _ _));cases x !=0<;>rfl
theorem KH(l:List Int)(hl:l.length≤100):bV 87 [.slc true l.length (iX l)] (.int .i64 (cN l)):=
 kX dE Tryz.func87 (ord:=O0) (N:=KD) (by kernel_rfl) ((F4 _ _ _ _ _ _).trans (KG l [] LL rfl (by omega) (by unfold LL;omega)))
theorem uw:∀{l m:List Int},iX l=iX m→l=m
 |[],[],_=>rfl
 |[],_::_,h=>by cases h
 |_::_,[],h=>by cases h
 |x::l,y::m,h=>by
  simp only[iX,List.map_cons,zc3,D.int.injEq,true_and] at h;rw[h.1,uw (l:=l) (m:=m) h.2]
def fa87:Fam:=⟨87,{l:List Int//l.length≤100},fun l=>[.slc true l.1.length (iX l.1)],fun l=> .int .i64 (cN l.1)⟩
theorem iu:fa87.Good:=⟨fun l=>KH l.1 l.2,fun i j h=>by
 have h:[D.slc true i.1.length (iX i.1)]=[D.slc true j.1.length (iX j.1)]:=h;simp only[zc3,and_true,D.slc.injEq,true_and] at h;rw[show i=j from Subtype.ext (uw h.2)]⟩
theorem IY(b:Bool)(e:Int):bV 119 [.bool b,.int .i64 e] (.int .i64 (bB b e 0)):=
 kX dE Tryz.func119 (ord:=O0) (N:=N0) (by kernel_rfl) ((Dk _ _ _ b e).trans (by cases b<;>rfl))
def fa119:Fam:=⟨119,Bool×Int,fun x=>[.bool x.1,.int .i64 x.2],fun x=> .int .i64 (bB x.1 x.2 0)⟩
theorem iZ:fa119.Good:=⟨fun x=>IY x.1 x.2,fun i j h=>by
 obtain⟨a,b⟩:=i;obtain⟨a',b'⟩:=j;have h:[D.bool a,D.int .i64 b]=[D.bool a',D.int .i64 b']:=h;simp at h;simp[h]⟩
def pQ(n a b:Int):Bool:=decide (n<a)||decide (n>b)
theorem IZ(n a b:Int):bV 118 [.int .i64 n,.int .i64 a,.int .i64 b] (.bool (pQ n a b)):=
 kX dE Tryz.func118 (ord:=O0) (N:=N0) (by kernel_rfl) ((Dj _ _ _ n a b).trans (by unfold pQ;cases decide (n<a)<;>rfl))
def fa118:Fam:=⟨118,Int×Int×Int,fun x=>[.int .i64 x.1,.int .i64 x.2.1,.int .i64 x.2.2],fun x=> .bool (pQ x.1 x.2.1 x.2.2)⟩
theorem ph:fa118.Good:=⟨fun x=>IZ x.1 x.2.1 x.2.2,fun i j h=>by
 obtain⟨a,b,c⟩:=i;obtain⟨a',b',c'⟩:=j;have h:[D.int .i64 a,D.int .i64 b,D.int .i64 c]=[D.int .i64 a',D.int .i64 b',D.int .i64 c']:=h;simp at h;simp[h]⟩
theorem ux{x y:jm}(h:[D.agg [.int .i64 x.1,.str x.2]]=[D.agg [.int .i64 y.1,.str y.2]]):x=y:=by
 obtain⟨a,b⟩:=x;obtain⟨a',b'⟩:=y;simp at h;simp[h]
theorem I6(x:jm):bV 218 [.agg [.int .i64 x.1,.str x.2]] (.bool (gY x.2||lN x.2)):=
 kX dE Tryz.func218 (ord:=O0) (N:=N0) (by kernel_rfl) ((Do _ _ _ x.1 x.2).trans (by show bB (gY x.2) _ (some (D.bool (lN x.2)))=_;cases gY x.2<;>rfl))
theorem I7(x:jm):bV 147 [.agg [.int .i64 x.1,.str x.2]] (.int .i64 (m9 x)):=by
 obtain⟨B,hB,hF⟩:=uR [one 218 [.agg [.int .i64 x.1,.str x.2]] (.bool (gY x.2||lN x.2)),fa118,fa119] ⟨eh (I6 x),ph,iZ,trivial⟩ rfl;have e1:B 218 [.agg [.int .i64 x.1,.str x.2]]=some (.bool (gY x.2||lN x.2)):=hF.1 ();have e2:B 118 [.int .i64 x.1,.int .i64 1,.int .i64 99]=some (.bool (pQ x.1 1 99)):=hF.2.1 (x.1,1,99);have e3:∀(b:Bool) (e:Int),B 119 [.bool b,.int .i64 e]=some (.int .i64 (bB b e 0)):=fun b e=>hF.2.2.1 (b,e);refine kX hB Tryz.func147 (ord:=O0) (N:=N0) (by kernel_rfl) ((Dm _ _ _ x.1 x.2).trans ?_);rw[e1,bn,bO,e2,bn,bO,e3,bn,bw,e3,bn,bw];show bB (gY x.2||lN x.2) _ (bB (uv x.2) _ (bB (uu x.2) _ _))=some (D.int .i64 (bB (gY x.2||lN x.2) (bB (pQ x.1 1 99) 3 0) (bB (uv x.2||uu x.2) _ _)));cases (gY x.2||lN x.2)<;>cases uv x.2<;>cases uu x.2<;>rfl
def fa147:Fam:=⟨147,jm,fun x=>[.agg [.int .i64 x.1,.str x.2]],fun x=> .int .i64 (m9 x)⟩
theorem wC:fa147.Good:=⟨I7,fun i j h=>by rw[ux h]⟩
def fa145:Fam:=⟨145,jm,fun x=>[.agg [.int .i64 x.1,.str x.2]],fun x=> .int .i64 (m9 x)⟩
theorem wD:fa145.Good:=⟨IW,fun i j h=>by rw[ux h]⟩
abbrev LK:={s:ByteArray//s.size≤1000}
def fa111:Fam:=⟨111,LK,fun s=>[.str s.1],fun s=> .bool (eZ s.1)⟩
theorem wE:fa111.Good:=⟨fun s=>IV s.1 (by have:=s.2;omega),fun i j h=>by
 have h:[D.str i.1]=[D.str j.1]:=h;simp only[zc3,and_true,D.str.injEq] at h;rw[show i=j from Subtype.ext h]⟩
def fa80:Fam:=⟨80,ByteArray,fun s=>[.str s],fun s=> .bool (eZ s)⟩
theorem yO:fa80.Good:=⟨KF,fun i j h=>by
 have h:[D.str i]=[D.str j]:=h;simp only[zc3,and_true] at h;rw[show i=j from D.str.inj h]⟩
def uy(l:List ByteArray)(s:ByteArray):Bool:=l.any fun x=>dL x s
section
variable {f0 f1 f2 f3 f4 f5:Bool}{b0 b1 b2 b3 b4 b5:Nat}{e0 e1 e2 e3 e4 e5:List D}
end
end Go.Pd
end
