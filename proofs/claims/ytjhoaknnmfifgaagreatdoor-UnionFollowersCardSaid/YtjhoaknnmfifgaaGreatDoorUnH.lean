import Derived.Test.YtjhoaknnmfifgaaGreatDoorUnG
import Derived.Laws.RangeString
import Derived.Laws.RangeAny
import Derived.Laws.StructEq
section
namespace Go.Pd
open Go Go.Proofs Go.RowKit
def hZ(s:ByteArray):Bool:=ByteArray.toList s==ByteArray.toList (ByteArray.mk #[])
def uB(s:ByteArray):Bool:=ByteArray.toList s==ByteArray.toList (ByteArray.mk #[45])
def uE(s:ByteArray):Bool:=ByteArray.toList s==ByteArray.toList (ByteArray.mk #[120])
abbrev jv:=Int×ByteArray
def yL(x:jv):List D:=[.int .i64 x.1,.str x.2]
section
variable {γ:Type}(c:D→Option γ)
theorem n0(pre:List jv)(x:jv)(r:List jv):br ((pre++x::r).flatMap yL) (Int.toNat (pre.length:Int)*2+0) c=c (.int .i64 x.1):=ct pre x r yL 2 (fun _=>rfl) 0 (by omega) c
theorem n1(pre:List jv)(x:jv)(r:List jv):br ((pre++x::r).flatMap yL) (Int.toNat (pre.length:Int)*2+1) c=c (.str x.2):=ct pre x r yL 2 (fun _=>rfl) 1 (by omega) c
end
def fM(c:Int):Bool:=(decide (c≥97)&&decide (c≤122))||(decide (c≥65)&&decide (c≤90))
def kX(s:ByteArray)(i:Nat):Bool:=fM (cL s i)||(i !=0&&((decide (cL s i≥48)&&decide (cL s i≤57))||cL s i==95))
def gB(s:ByteArray):Nat→Nat→Bool
 |0,_=>true
 |m+1,i=>kX s i&&gB s m (i+1)
def fu(s:ByteArray):Bool:=bG (decide ((s.size:Int)<1)) false (bG (decide ((s.size:Int)>24)) false (gB s s.size 0))
theorem JS{call:CL}{s:ByteArray}(hs:s.size≤24):∀(m i fuel:Nat),i+m=s.size→m<fuel→su call LL C1 fuel s i=some (.bool (gB s m i)):=by
 intro m
 induction m with
 |zero=>
  intro i fuel hi hf;cases fuel with
  |zero=>exact absurd hf (Nat.not_lt_zero _)
  |succ fuel=>
   have h1:decide ((i:Int)<(s.size:Int))=false:=by simp;omega
   rw[qR,h1,bu];rfl
 |succ m ih=>
  intro i fuel hi hf;cases fuel with
  |zero=>exact absurd hf (Nat.not_lt_zero _)
  |succ fuel=>
   have h1:decide ((i:Int)<(s.size:Int))=true:=by simp;omega
   have h2:decide ((0:Int)≤i∧Int.toNat (i:Int)<s.size)=true:=by simp;omega
   have hw:IntKind.wrap .i64 ((i:Int)+1)=((i+1:Nat):Int):=by rw[c6 (by omega)];rfl
   have ih:=ih (i+1) fuel (by omega) (by omega);have h467:jd call LL C1 fuel s i=some (.bool (gB s m (i+1))):=by
    rw[wL _ _ _ _ _ _ (fun _=>rfl:∀t,C1 t=1),hw,ih]
   have h37:∀(c:Int) (b:Bool),fW call LL C1 fuel s i c b=some (.bool ((b||(i !=0&&((decide (c≥48)&&decide (c≤57))||c==95)))&&gB s m (i+1))):=fun c b=>by
    rw[uA _ _ _ _ _ _ _ _ (fun _=>rfl:∀t,C1 t=1),h467];have hz:((i:Int)==0)= !(i !=0):=by
     cases i<;>rfl
    rw[hz];generalize (i !=0)=q1;generalize decide (c≥48)=q2;generalize decide (c≤57)=q3;generalize (c==95)=q4;cases b<;>cases q1<;>cases q2<;>cases q3<;>cases q4<;>rfl
   rw[qR,h1,bC,h2,bz,h37,h37,h37,show Int.toNat (i:Int)=i by simp];show _=some (D.bool (kX s i&&gB s m (i+1)));unfold kX fM;generalize (i !=0&&((decide (cL s i≥48)&&decide (cL s i≤57))||cL s i==95))=q0;generalize decide (cL s i≥97)=q1;generalize decide (cL s i≤122)=q2;generalize decide (cL s i≥65)=q3;generalize decide (cL s i≤90)=q4;cases q1<;>cases q2<;>cases q3<;>cases q4<;>rfl
theorem JT(s:ByteArray):ci 80 [.str s] (.bool (fu s)):=by
 refine jY dA Tryz.func80 (ord:=O0) (N:=FX) (by kernel_rfl) ((Fi _ _ _ s).trans ?_);unfold fu;cases decide ((s.size:Int)<1) with
 |true=>rfl
 |false=>
  rw[bu,bu];cases h2:decide ((s.size:Int)>24) with
  |true=>rfl
  |false=>
   simp only[decide_eq_false_iff_not] at h2;rw[bu,bu,Bc _ _ _ _ (fun _=>rfl:∀t,C1 t=1)];exact JS (by omega) s.size 0 LL (by omega) (by unfold LL;omega)
theorem H7(c:Int):ci 167 [.int .i32 c] (.bool (fM c)):=by
 refine jY dA Tryz.func167 (ord:=O0) (N:=N0) (by kernel_rfl) ((CT _ _ _ c).trans ?_);unfold fM;cases decide (c≥97)<;>cases decide (c≤122)<;>cases decide (c≥65)<;>cases decide (c≤90)<;>rfl
def CV:FuncId→List D→Option D:=fun k ds=>match k,ds with
 |167,[.int .i32 c]=>some (.bool (fM c))
 |_,_=>none
theorem CW:hU CV:=by
 intro k ds r h;unfold CV at h;split at h
 ·cases h;exact H7 _
 ·cases h
theorem H8(c:Int):CV 167 [.int .i32 c]=some (.bool (fM c)):=rfl
theorem wM{s:ByteArray}{i:Nat}(h:i<s.size):cL s i=(s[i]'h).toNat:=by
 unfold cL;have:s[i]?=some s[i]:=by simp[h]
 rw[this]
theorem H9{s:ByteArray}:∀(m i fuel:Nat),i+m=s.size→m<fuel→kg CV LL C1 fuel s i=some (.bool (gB s m i&&(!(ByteArray.toList s==ByteArray.toList (ByteArray.mk #[]))&&decide ((s.size:Int)≤24)))):=by
 intro m
 induction m with
 |zero=>
  intro i fuel hi hf;cases fuel with
  |zero=>exact absurd hf (Nat.not_lt_zero _)
  |succ fuel=>
   have h1:decide (i<s.size)=false:=by simp;omega
   rw[pd,h1,bu];show _=some (D.bool (true&&_));cases (ByteArray.toList s==ByteArray.toList (ByteArray.mk #[]))<;>rfl
 |succ m ih=>
  intro i fuel hi hf;cases fuel with
  |zero=>exact absurd hf (Nat.not_lt_zero _)
  |succ fuel=>
   have hlt:i<s.size:=by omega
   have h1:decide (i<s.size)=true:=by simpa using hlt
   have hz:((i:Int)==0)= !(i !=0):=by cases i<;>rfl
   have hb:=wM hlt;rw[pd,h1,bC,H8,bv,bP,hz];show _=some (D.bool ((kX s i&&gB s m (i+1))&&_));by_cases ha:(s[i]'hlt).toNat<128
   ·have hd:=decode_ascii s i hlt ha;rw[hd];dsimp only;rw[ih (i+1) fuel (by omega) (by omega)];unfold kX;rw[hb];have e1:(((s[i]'hlt).toNat:Int) !=95)= !(((s[i]'hlt).toNat:Int)==95):=rfl;have e2:decide (((s[i]'hlt).toNat:Int)≥48)= !decide (((s[i]'hlt).toNat:Int)<48):=by
     by_cases h:((s[i]'hlt).toNat:Int)<48
     ·rw[show decide (((s[i]'hlt).toNat:Int)<48)=true by simpa using h];simp;omega
     ·rw[show decide (((s[i]'hlt).toNat:Int)<48)=false by simpa using h];simp;omega
    have e3:decide (((s[i]'hlt).toNat:Int)≤57)= !decide (((s[i]'hlt).toNat:Int)>57):=by
     by_cases h:((s[i]'hlt).toNat:Int)>57
     ·rw[show decide (((s[i]'hlt).toNat:Int)>57)=true by simpa using h];simp;omega
     ·rw[show decide (((s[i]'hlt).toNat:Int)>57)=false by simpa using h];simp;omega
    rw[e1,e2,e3];generalize fM ((s[i]'hlt).toNat:Int)=q1;generalize (i !=0)=q2;generalize decide (((s[i]'hlt).toNat:Int)<48)=q3;generalize decide (((s[i]'hlt).toNat:Int)>57)=q4;generalize (((s[i]'hlt).toNat:Int)==95)=q5;generalize gB s m (i+1)=q6;cases q1<;>cases q2<;>cases q3<;>cases q4<;>cases q5<;>cases q6<;>rfl
   ·obtain⟨hd,_⟩:=decode_high s i hlt (by omega);generalize Utf8.decode s i=dd at hd;have l1:fM (dd.1:Int)=false:=by
     unfold fM;simp;omega
    have l2:((dd.1:Int) !=95)=true:=by simp;omega
    have l3:decide ((dd.1:Int)<48)=false:=by simp;omega
    have l4:decide ((dd.1:Int)>57)=true:=by simp;omega
    have n1:kX s i=false:=by
     unfold kX fM;rw[hb];simp;omega
    rw[l1,l2,l3,l4,n1];cases (i !=0)<;>rfl
theorem Bd(s:ByteArray):(gB s s.size 0&&(!(ByteArray.toList s==ByteArray.toList (ByteArray.mk #[]))&&decide ((s.size:Int)≤24)))=fu s:=by
 unfold fu;have h0:(ByteArray.toList s==ByteArray.toList (ByteArray.mk #[]))=decide ((s.size:Int)<1):=by
  rw[ByteArray.toList_eq,ByteArray.toList_eq];have hsz:s.data.toList.length=s.size:=by rw[Array.length_toList];rfl
  by_cases h:(s.size:Int)<1
  ·rw[show decide ((s.size:Int)<1)=true by simpa using h];have:s.data.toList=[]:=List.eq_nil_of_length_eq_zero (by omega);rw[this];rfl
  ·rw[show decide ((s.size:Int)<1)=false by simpa using h];cases hl:s.data.toList with
   |nil=>rw[hl] at hsz;simp at hsz;omega
   |cons x l=>rfl
 rw[h0];have h2:decide ((s.size:Int)≤24)= !decide ((s.size:Int)>24):=by
  by_cases h:(s.size:Int)>24
  ·rw[show decide ((s.size:Int)>24)=true by simpa using h];simp;omega
  ·rw[show decide ((s.size:Int)>24)=false by simpa using h];simp;omega
 rw[h2];cases decide ((s.size:Int)<1)<;>cases decide ((s.size:Int)>24)<;>cases gB s s.size 0<;>rfl
theorem Ia(s:ByteArray)(hs:s.size<4611686018427387904):ci 111 [.str s] (.bool (fu s)):=by
 refine jY CW Tryz.func111 (ord:=O0) (N:=Fk) (by kernel_rfl) ((CO _ _ _ s).trans ?_);rw[←Bd];exact H9 s.size 0 LL (by omega) (by unfold LL;omega)
def lN(s:ByteArray):Bool:=ByteArray.toList s==ByteArray.toList (ByteArray.mk #[99])
def ph(x:jv):Int:=bG (hZ x.2||lN x.2) (bG (decide (x.1<1)||decide (x.1>99)) 3 0) (bG (uE x.2||uB x.2) (bG (x.1 !=0) 3 0) 13)
theorem Ib(x:jv):ci 145 [.agg [.int .i64 x.1,.str x.2]] (.int .i64 (ph x)):=by
 refine jY dA Tryz.func145 (ord:=O0) (N:=N0) (by kernel_rfl) ((CR _ _ _ x.1 x.2).trans ?_);unfold ph hZ lN uE uB;generalize (ByteArray.toList x.2==ByteArray.toList (ByteArray.mk #[]))=q1;generalize (ByteArray.toList x.2==ByteArray.toList (ByteArray.mk #[99]))=q2;generalize (ByteArray.toList x.2==ByteArray.toList (ByteArray.mk #[120]))=q3;generalize (ByteArray.toList x.2==ByteArray.toList (ByteArray.mk #[45]))=q4;generalize decide (x.1<1)=q5;generalize decide (x.1>99)=q6;generalize (x.1 !=0)=q7;cases q1<;>cases q2<;>cases q3<;>cases q4<;>cases q5<;>cases q6<;>cases q7<;>rfl
section
variable {f g:Bool}{n:Nat}{c:List D}{P S:Nat→Int}
end
abbrev uF:=ByteArray×ByteArray×Int
abbrev j0:=ByteArray×ByteArray×Int×jv
abbrev Be:=Int×Int
abbrev CrdV:=ByteArray×Bool×List jv
abbrev KepV:=ByteArray×(Bool×List Be)×(Bool×List CrdV)
def Id(l:List ByteArray):List D:=l.map D.str
def CX(m:uF):List D:=[.str m.1,.str m.2.1,.int .i64 m.2.2]
def pQ(m:j0):List D:=[.str m.1,.str m.2.1,.int .i64 m.2.2.1,.int .i64 m.2.2.2.1,.str m.2.2.2.2]
def Ie(h:Be):List D:=[.int .i64 h.1,.int .i64 h.2]
def CY(c:CrdV):List D:=[.str c.1,.slc c.2.1 c.2.2.length (c.2.2.flatMap yL)]
def yM(k:KepV):List D:=[.str k.1,.slc k.2.1.1 k.2.1.2.length (k.2.1.2.flatMap Ie),.slc k.2.2.1 k.2.2.2.length (k.2.2.2.flatMap CY)]
structure UV where
 (cf mf hf kf sf pf:Bool)
 cl:List ByteArray
 me:List uF
 ho:List Be
 mr:List j0
 sg:List ByteArray
 pa:List KepV
def UV.Fit(u:UV):Prop:=u.cl.length≤100000∧u.me.length≤100000∧u.ho.length≤100000∧u.mr.length≤100000∧u.sg.length≤100000∧u.pa.length≤100000
def fY(a b:ByteArray):Bool:=ByteArray.toList a==ByteArray.toList b
theorem uG(a b:ByteArray):fY a b=fY b a:=by
 unfold fY;rw[Bool.eq_iff_iff,zd8,zd8];exact⟨Eq.symm,Eq.symm⟩
theorem sEq_iff{a b:ByteArray}:fY a b=true↔a=b:=by
 unfold fY;rw[zd8,ByteArray.toList_eq,ByteArray.toList_eq];constructor
 ·intro h;apply ByteArray.ext;exact Array.toList_inj.1 h
 ·intro h;rw[h]
section
variable {γ:Type}(c:D→Option γ)
theorem m1(pre:List uF)(x:uF)(r:List uF):br ((pre++x::r).flatMap CX) (Int.toNat (pre.length:Int)*3+1) c=c (.str x.2.1):=ct pre x r CX 3 (fun _=>rfl) 1 (by omega) c
theorem m2(pre:List uF)(x:uF)(r:List uF):br ((pre++x::r).flatMap CX) (Int.toNat (pre.length:Int)*3+2) c=c (.int .i64 x.2.2):=ct pre x r CX 3 (fun _=>rfl) 2 (by omega) c
theorem k0(pre:List j0)(x:j0)(r:List j0):br ((pre++x::r).flatMap pQ) (Int.toNat (pre.length:Int)*5+0) c=c (.str x.1):=ct pre x r pQ 5 (fun _=>rfl) 0 (by omega) c
theorem k1(pre:List j0)(x:j0)(r:List j0):br ((pre++x::r).flatMap pQ) (Int.toNat (pre.length:Int)*5+1) c=c (.str x.2.1):=ct pre x r pQ 5 (fun _=>rfl) 1 (by omega) c
theorem k2(pre:List j0)(x:j0)(r:List j0):br ((pre++x::r).flatMap pQ) (Int.toNat (pre.length:Int)*5+2) c=c (.int .i64 x.2.2.1):=ct pre x r pQ 5 (fun _=>rfl) 2 (by omega) c
theorem k3(pre:List j0)(x:j0)(r:List j0):br ((pre++x::r).flatMap pQ) (Int.toNat (pre.length:Int)*5+3) c=c (.int .i64 x.2.2.2.1):=ct pre x r pQ 5 (fun _=>rfl) 3 (by omega) c
theorem k4(pre:List j0)(x:j0)(r:List j0):br ((pre++x::r).flatMap pQ) (Int.toNat (pre.length:Int)*5+4) c=c (.str x.2.2.2.2):=ct pre x r pQ 5 (fun _=>rfl) 4 (by omega) c
theorem p0(pre:List KepV)(x:KepV)(r:List KepV):br ((pre++x::r).flatMap yM) (Int.toNat (pre.length:Int)*3+0) c=c (.str x.1):=ct pre x r yM 3 (fun _=>rfl) 0 (by omega) c
theorem t0(pre:List ByteArray)(x:ByteArray)(r:List ByteArray):br (Id (pre++x::r)) (Int.toNat (pre.length:Int)*1) c=c (.str x):=ue pre x r D.str c
end
section
variable {f0 f1 f2 f3 f4 f5:Bool}{b0 b1 b2 b3 b4 b5:Nat}{e0 e1 e2 e3 e4 e5:List D}
end
section
variable {f0 f1 f2 f3 f4 f5:Bool}{b0 b1 b2 b3 b4 b5:Nat}{e0 e1 e2 e3 e4 e5:List D}
end
end Go.Pd
end
section
namespace Go.Pd
open Go Go.Proofs Go.RowKit
def ib{α:Type}(g:α→List D):List α→Ow
 |[]=> .nil
 |o::os=> .own (os.length+1) ((o::os).flatMap g)
def ia{α:Type}(g:α→List D):List α→D
 |[]=> .slc true 0 []
 |o::os=> .slc false (os.length+1) ((o::os).flatMap g)
theorem iB{α:Type}(g:α→List D)(acc:List α)(s:α):ib g (acc++[s])= .own (acc.length+1) (acc.flatMap g++g s):=by
 cases acc with
 |nil=>simp[ib]
 |cons o os=>
  show Ow.own ((os++[s]).length+1) (((o::os)++[s]).flatMap g)=_;rw[zd2,show(os++[s]).length=os.length+1 by simp];simp
theorem fh{α:Type}(g:α→List D)(l:List α):ia g l= .slc l.isEmpty l.length (l.flatMap g):=by cases l<;>rfl
theorem wN{i:Nat}(h:i≤1000000):decide ((i+1)*24≤bS∧i+1≤9223372036854775807)=true:=by
 simp only[zc4];rw[show bS=140737488355328 from rfl];omega
section
variable {γ:Type}
theorem ml(a b:D)(k:List D→Option γ):fZ (.tup [a,b]) 2 k=k [a,b]:=rfl
theorem mm(a b:D)(k:D→Option γ):br [a,b] 0 k=k a:=rfl
theorem mn(a b:D)(k:D→Option γ):br [a,b] 1 k=k b:=rfl
theorem Bf{α:Type}{l:List α}{j:Nat}{x:α}(h:l[j]?=some x):∃pre r,l=pre++x::r∧pre.length=j:=by
 obtain⟨h1,h2⟩:=zb8.1 h;exact⟨l.take j,l.drop (j+1),by rw[←h2,List.getElem_cons_drop,List.take_append_drop],by simp;omega⟩
end
section
variable {f0 f1 f2 f3 f4 f5:Bool}{b0 b1 b2 b3 b4 b5:Nat}{e0 e1 e2 e3 e4 e5:List D}
end
end Go.Pd
end
section
namespace Go.Pd
open Go Go.Proofs Go.RowKit
def cw:List Int→Int
 |[]=>0
 |x::r=>bG (x !=0) x (cw r)
theorem JU{call:CL}{f:Bool}{n:Nat}:∀(r pre:List Int) (fuel:Nat),(pre++r).length=n→n≤100000→r.length<fuel→
  sv call LL C1 fuel f n (m7 (pre++r)) n (pre.length:Int)=some (.int .i64 (cw r)):=by
 intro r
 induction r with
 |nil=>
  intro pre fuel hn hB hf;cases fuel with
  |zero=>exact absurd hf (Nat.not_lt_zero _)
  |succ fuel=>
   subst hn;rw[qS,sd,bu];rfl
 |cons x r ih=>
  intro pre fuel hn hB hf;cases fuel with
  |zero=>exact absurd hf (Nat.not_lt_zero _)
  |succ fuel=>
   have ih:=ih (pre++[x]) fuel (by rw[oU];exact hn) hB (by simp at hf;omega);rw[oU] at ih;subst hn;rw[qS,wy,bC,wz,bz,qF,bD,oT pre x r (by omega),ih];show bG (x !=0) _ _=some (D.int .i64 (bG (x !=0) _ _));cases x !=0<;>rfl
theorem JV(l:List Int)(hl:l.length≤100):ci 87 [.slc true l.length (m7 l)] (.int .i64 (cw l)):=
 jY dA Tryz.func87 (ord:=O0) (N:=JR) (by kernel_rfl) ((Fj _ _ _ _ _ _).trans (JU l [] LL rfl (by omega) (by unfold LL;omega)))
theorem uH:∀{l m:List Int},m7 l=m7 m→l=m
 |[],[],_=>rfl
 |[],_::_,h=>by cases h
 |_::_,[],h=>by cases h
 |x::l,y::m,h=>by
  simp only[m7,List.map_cons,zc2,D.int.injEq,true_and] at h;rw[h.1,uH (l:=l) (m:=m) h.2]
def fa87:Fam:=⟨87,{l:List Int//l.length≤100},fun l=>[.slc true l.1.length (m7 l.1)],fun l=> .int .i64 (cw l.1)⟩
theorem iC:fa87.Good:=⟨fun l=>JV l.1 l.2,fun i j h=>by
 have h:[D.slc true i.1.length (m7 i.1)]=[D.slc true j.1.length (m7 j.1)]:=h;simp only[zc2,and_true,D.slc.injEq,true_and] at h;rw[show i=j from Subtype.ext (uH h.2)]⟩
theorem If(b:Bool)(e:Int):ci 119 [.bool b,.int .i64 e] (.int .i64 (bG b e 0)):=
 jY dA Tryz.func119 (ord:=O0) (N:=N0) (by kernel_rfl) ((CQ _ _ _ b e).trans (by cases b<;>rfl))
def fa119:Fam:=⟨119,Bool×Int,fun x=>[.bool x.1,.int .i64 x.2],fun x=> .int .i64 (bG x.1 x.2 0)⟩
theorem je:fa119.Good:=⟨fun x=>If x.1 x.2,fun i j h=>by
 obtain⟨a,b⟩:=i;obtain⟨a',b'⟩:=j;have h:[D.bool a,D.int .i64 b]=[D.bool a',D.int .i64 b']:=h;simp at h;simp[h]⟩
def pR(n a b:Int):Bool:=decide (n<a)||decide (n>b)
theorem Ig(n a b:Int):ci 118 [.int .i64 n,.int .i64 a,.int .i64 b] (.bool (pR n a b)):=
 jY dA Tryz.func118 (ord:=O0) (N:=N0) (by kernel_rfl) ((CP _ _ _ n a b).trans (by unfold pR;cases decide (n<a)<;>rfl))
def fa118:Fam:=⟨118,Int×Int×Int,fun x=>[.int .i64 x.1,.int .i64 x.2.1,.int .i64 x.2.2],fun x=> .bool (pR x.1 x.2.1 x.2.2)⟩
theorem pi:fa118.Good:=⟨fun x=>Ig x.1 x.2.1 x.2.2,fun i j h=>by
 obtain⟨a,b,c⟩:=i;obtain⟨a',b',c'⟩:=j;have h:[D.int .i64 a,D.int .i64 b,D.int .i64 c]=[D.int .i64 a',D.int .i64 b',D.int .i64 c']:=h;simp at h;simp[h]⟩
theorem uI{x y:jv}(h:[D.agg [.int .i64 x.1,.str x.2]]=[D.agg [.int .i64 y.1,.str y.2]]):x=y:=by
 obtain⟨a,b⟩:=x;obtain⟨a',b'⟩:=y;simp at h;simp[h]
theorem Ih(x:jv):ci 218 [.agg [.int .i64 x.1,.str x.2]] (.bool (hZ x.2||lN x.2)):=
 jY dA Tryz.func218 (ord:=O0) (N:=N0) (by kernel_rfl) ((CU _ _ _ x.1 x.2).trans (by show bG (hZ x.2) _ (some (D.bool (lN x.2)))=_;cases hZ x.2<;>rfl))
theorem Ii(x:jv):ci 147 [.agg [.int .i64 x.1,.str x.2]] (.int .i64 (ph x)):=by
 obtain⟨B,hB,hF⟩:=sr [one 218 [.agg [.int .i64 x.1,.str x.2]] (.bool (hZ x.2||lN x.2)),fa118,fa119] ⟨cP (Ih x),pi,je,trivial⟩ rfl;have e1:B 218 [.agg [.int .i64 x.1,.str x.2]]=some (.bool (hZ x.2||lN x.2)):=hF.1 ();have e2:B 118 [.int .i64 x.1,.int .i64 1,.int .i64 99]=some (.bool (pR x.1 1 99)):=hF.2.1 (x.1,1,99);have e3:∀(b:Bool) (e:Int),B 119 [.bool b,.int .i64 e]=some (.int .i64 (bG b e 0)):=fun b e=>hF.2.2.1 (b,e);refine jY hB Tryz.func147 (ord:=O0) (N:=N0) (by kernel_rfl) ((CS _ _ _ x.1 x.2).trans ?_);rw[e1,bv,bP,e2,bv,bP,e3,bv,bD,e3,bv,bD];show bG (hZ x.2||lN x.2) _ (bG (uE x.2) _ (bG (uB x.2) _ _))=some (D.int .i64 (bG (hZ x.2||lN x.2) (bG (pR x.1 1 99) 3 0) (bG (uE x.2||uB x.2) _ _)));cases (hZ x.2||lN x.2)<;>cases uE x.2<;>cases uB x.2<;>rfl
def fa147:Fam:=⟨147,jv,fun x=>[.agg [.int .i64 x.1,.str x.2]],fun x=> .int .i64 (ph x)⟩
theorem wO:fa147.Good:=⟨Ii,fun i j h=>by rw[uI h]⟩
def fa145:Fam:=⟨145,jv,fun x=>[.agg [.int .i64 x.1,.str x.2]],fun x=> .int .i64 (ph x)⟩
theorem wP:fa145.Good:=⟨Ib,fun i j h=>by rw[uI h]⟩
abbrev K8:={s:ByteArray//s.size≤1000}
def fa111:Fam:=⟨111,K8,fun s=>[.str s.1],fun s=> .bool (fu s.1)⟩
theorem wQ:fa111.Good:=⟨fun s=>Ia s.1 (by have:=s.2;omega),fun i j h=>by
 have h:[D.str i.1]=[D.str j.1]:=h;simp only[zc2,and_true,D.str.injEq] at h;rw[show i=j from Subtype.ext h]⟩
def fa80:Fam:=⟨80,ByteArray,fun s=>[.str s],fun s=> .bool (fu s)⟩
theorem yN:fa80.Good:=⟨JT,fun i j h=>by
 have h:[D.str i]=[D.str j]:=h;simp only[zc2,and_true] at h;rw[show i=j from D.str.inj h]⟩
section
variable {f0 f1 f2 f3 f4 f5:Bool}{b0 b1 b2 b3 b4 b5:Nat}{e0 e1 e2 e3 e4 e5:List D}
end
end Go.Pd
end
