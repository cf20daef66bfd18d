import Derived.Test.YtjhoaknnmfifgaaGreatDoorUnG
import Derived.Laws.RangeString
import Derived.Laws.RangeAny
import Derived.Laws.StructEq
section
namespace Go.Pd
open Go Go.Proofs Go.RowKit
def dP(s:ByteArray):Bool:=ByteArray.toList s==ByteArray.toList (ByteArray.mk #[])
def eQ(s:ByteArray):Bool:=ByteArray.toList s==ByteArray.toList (ByteArray.mk #[45])
def px(s:ByteArray):Bool:=ByteArray.toList s==ByteArray.toList (ByteArray.mk #[120])
abbrev cM:=Int×ByteArray
def cQ(x:cM):List D:=[.int .i64 x.1,.str x.2]
section
variable {γ:Type}(c:D→Option γ)
theorem n0(pre:List cM)(x:cM)(r:List cM):bu ((pre++x::r).flatMap cQ) (Int.toNat (pre.length:Int)*2+0) c=c (.int .i64 x.1):=db pre x r cQ 2 (fun _=>rfl) 0 (by omega) c
theorem n1(pre:List cM)(x:cM)(r:List cM):bu ((pre++x::r).flatMap cQ) (Int.toNat (pre.length:Int)*2+1) c=c (.str x.2):=db pre x r cQ 2 (fun _=>rfl) 1 (by omega) c
end
theorem AJ(b:Bool)(e:Int):ct 110 [.bool b,.int .i64 e] (.int .i64 (bC b e 0)):=
 ed cA Tryz.func110 (ord:=O0) (N:=N0) (by kernel_rfl) ((F4 _ _ _ b e).trans (by cases b<;>rfl))
def xD(x y:Int):Int:=bC (x !=0) x y
theorem MZ(x y:Int):ct 108 [.slc true 2 [.int .i64 x,.int .i64 y]] (.int .i64 (xD x y)):=by
 refine ed cA Tryz.func108 (ord:=O0) (N:=F3) (by kernel_rfl) ((AG _ _ _ _ _ _).trans ?_);rw[show LL=(4611686018427387901+1)+1+1 from rfl,eP,eP,eP];have h1:IntKind.wrap .i64 ((0:Int)+1)=1:=co (by omega);have h2:IntKind.wrap .i64 ((1:Int)+1)=2:=co (by omega);simp only[h1,h2];unfold xD;cases hx:(x !=0) with
 |true=>simp[bu,hx]
 |false=>
  cases hy:(y !=0) with
  |true=>simp[bu,hx,hy]
  |false=>
   have:y=0:=by simpa using hy
   simp[bu,hx,this]
def gt(c:Int):Bool:=(decide (c≥97)&&decide (c≤122))||(decide (c≥65)&&decide (c≤90))
def mt(s:ByteArray)(i:Nat):Bool:=gt (c7 s i)||(i !=0&&((decide (c7 s i≥48)&&decide (c7 s i≤57))||c7 s i==95))
def ij(s:ByteArray):Nat→Nat→Bool
 |0,_=>true
 |m+1,i=>mt s i&&ij s m (i+1)
def cZ(s:ByteArray):Bool:=bC (decide ((s.size:Int)<1)) false (bC (decide ((s.size:Int)>24)) false (ij s s.size 0))
theorem PC{call:CL}{s:ByteArray}(hs:s.size≤24):∀(m i fuel:Nat),i+m=s.size→m<fuel→vu call LL C1 fuel s i=some (.bool (ij s m i)):=by
 intro m
 induction m with
 |zero=>
  intro i fuel hi hf;cases fuel with
  |zero=>exact absurd hf (Nat.not_lt_zero _)
  |succ fuel=>
   have h1:decide ((i:Int)<(s.size:Int))=false:=by simp;omega
   rw[tW,h1,br];rfl
 |succ m ih=>
  intro i fuel hi hf;cases fuel with
  |zero=>exact absurd hf (Nat.not_lt_zero _)
  |succ fuel=>
   have h1:decide ((i:Int)<(s.size:Int))=true:=by simp;omega
   have h2:decide ((0:Int)≤i∧Int.toNat (i:Int)<s.size)=true:=by simp;omega
   have hw:IntKind.wrap .i64 ((i:Int)+1)=((i+1:Nat):Int):=by rw[co (by omega)];rfl
   have ih:=ih (i+1) fuel (by omega) (by omega);have h467:j1 call LL C1 fuel s i=some (.bool (ij s m (i+1))):=by
    rw[zl _ _ _ _ _ _ (fun _=>rfl:∀t,C1 t=1),hw,ih]
   have h37:∀(c:Int) (b:Bool),gD call LL C1 fuel s i c b=some (.bool ((b||(i !=0&&((decide (c≥48)&&decide (c≤57))||c==95)))&&ij s m (i+1))):=fun c b=>by
    rw[xz _ _ _ _ _ _ _ _ (fun _=>rfl:∀t,C1 t=1),h467];have hz:((i:Int)==0)= !(i !=0):=by
     cases i<;>rfl
    rw[hz];generalize (i !=0)=q1;generalize decide (c≥48)=q2;generalize decide (c≤57)=q3;generalize (c==95)=q4;cases b<;>cases q1<;>cases q2<;>cases q3<;>cases q4<;>rfl
   rw[tW,h1,bx,h2,bw,h37,h37,h37,show Int.toNat (i:Int)=i by simp];show _=some (D.bool (mt s i&&ij s m (i+1)));unfold mt gt;generalize (i !=0&&((decide (c7 s i≥48)&&decide (c7 s i≤57))||c7 s i==95))=q0;generalize decide (c7 s i≥97)=q1;generalize decide (c7 s i≤122)=q2;generalize decide (c7 s i≥65)=q3;generalize decide (c7 s i≤90)=q4;cases q1<;>cases q2<;>cases q3<;>cases q4<;>rfl
theorem M1(s:ByteArray):ct 80 [.str s] (.bool (cZ s)):=by
 refine ed cA Tryz.func80 (ord:=O0) (N:=KY) (by kernel_rfl) ((JJ _ _ _ s).trans ?_);unfold cZ;cases decide ((s.size:Int)<1) with
 |true=>rfl
 |false=>
  rw[br,br];cases h2:decide ((s.size:Int)>24) with
  |true=>rfl
  |false=>
   simp only[decide_eq_false_iff_not] at h2;rw[br,br,DS _ _ _ _ (fun _=>rfl:∀t,C1 t=1)];exact PC (by omega) s.size 0 LL (by omega) (by unfold LL;omega)
theorem M2(c:Int):ct 167 [.int .i32 c] (.bool (gt c)):=by
 refine ed cA Tryz.func167 (ord:=O0) (N:=N0) (by kernel_rfl) ((Gd _ _ _ c).trans ?_);unfold gt;cases decide (c≥97)<;>cases decide (c≤122)<;>cases decide (c≥65)<;>cases decide (c≤90)<;>rfl
def GC:FuncId→List D→Option D:=fun k ds=>match k,ds with
 |167,[.int .i32 c]=>some (.bool (gt c))
 |_,_=>none
theorem GD:ep GC:=by
 intro k ds r h;unfold GC at h;split at h
 ·cases h;exact M2 _
 ·cases h
theorem M3(c:Int):GC 167 [.int .i32 c]=some (.bool (gt c)):=rfl
theorem zt{s:ByteArray}{i:Nat}(h:i<s.size):c7 s i=(s[i]'h).toNat:=by
 unfold c7;have:s[i]?=some s[i]:=by simp[h]
 rw[this]
theorem M4{s:ByteArray}:∀(m i fuel:Nat),i+m=s.size→m<fuel→k9 GC LL C1 fuel s i=some (.bool (ij s m i&&(!(ByteArray.toList s==ByteArray.toList (ByteArray.mk #[]))&&decide ((s.size:Int)≤24)))):=by
 intro m
 induction m with
 |zero=>
  intro i fuel hi hf;cases fuel with
  |zero=>exact absurd hf (Nat.not_lt_zero _)
  |succ fuel=>
   have h1:decide (i<s.size)=false:=by simp;omega
   rw[rp,h1,br];show _=some (D.bool (true&&_));cases (ByteArray.toList s==ByteArray.toList (ByteArray.mk #[]))<;>rfl
 |succ m ih=>
  intro i fuel hi hf;cases fuel with
  |zero=>exact absurd hf (Nat.not_lt_zero _)
  |succ fuel=>
   have hlt:i<s.size:=by omega
   have h1:decide (i<s.size)=true:=by simpa using hlt
   have hz:((i:Int)==0)= !(i !=0):=by cases i<;>rfl
   have hb:=zt hlt;rw[rp,h1,bx,M3,bq,bD,hz];show _=some (D.bool ((mt s i&&ij s m (i+1))&&_));by_cases ha:(s[i]'hlt).toNat<128
   ·have hd:=decode_ascii s i hlt ha;rw[hd];dsimp only;rw[ih (i+1) fuel (by omega) (by omega)];unfold mt;rw[hb];have e1:(((s[i]'hlt).toNat:Int) !=95)= !(((s[i]'hlt).toNat:Int)==95):=rfl;have e2:decide (((s[i]'hlt).toNat:Int)≥48)= !decide (((s[i]'hlt).toNat:Int)<48):=by
     by_cases h:((s[i]'hlt).toNat:Int)<48
     ·rw[show decide (((s[i]'hlt).toNat:Int)<48)=true by simpa using h];simp;omega
     ·rw[show decide (((s[i]'hlt).toNat:Int)<48)=false by simpa using h];simp;omega
    have e3:decide (((s[i]'hlt).toNat:Int)≤57)= !decide (((s[i]'hlt).toNat:Int)>57):=by
     by_cases h:((s[i]'hlt).toNat:Int)>57
     ·rw[show decide (((s[i]'hlt).toNat:Int)>57)=true by simpa using h];simp;omega
     ·rw[show decide (((s[i]'hlt).toNat:Int)>57)=false by simpa using h];simp;omega
    rw[e1,e2,e3];generalize gt ((s[i]'hlt).toNat:Int)=q1;generalize (i !=0)=q2;generalize decide (((s[i]'hlt).toNat:Int)<48)=q3;generalize decide (((s[i]'hlt).toNat:Int)>57)=q4;generalize (((s[i]'hlt).toNat:Int)==95)=q5;generalize ij s m (i+1)=q6;cases q1<;>cases q2<;>cases q3<;>cases q4<;>cases q5<;>cases q6<;>rfl
   ·obtain⟨hd,_⟩:=decode_high s i hlt (by omega);generalize Utf8.decode s i=dd at hd;have l1:gt (dd.1:Int)=false:=by
     unfold gt;simp;omega
    have l2:((dd.1:Int) !=95)=true:=by simp;omega
    have l3:decide ((dd.1:Int)<48)=false:=by simp;omega
    have l4:decide ((dd.1:Int)>57)=true:=by simp;omega
    have n1:mt s i=false:=by
     unfold mt gt;rw[hb];simp;omega
    rw[l1,l2,l3,l4,n1];cases (i !=0)<;>rfl
theorem DZ(s:ByteArray):(ij s s.size 0&&(!(ByteArray.toList s==ByteArray.toList (ByteArray.mk #[]))&&decide ((s.size:Int)≤24)))=cZ s:=by
 unfold cZ;have h0:(ByteArray.toList s==ByteArray.toList (ByteArray.mk #[]))=decide ((s.size:Int)<1):=by
  rw[ByteArray.toList_eq,ByteArray.toList_eq];have hsz:s.data.toList.length=s.size:=by rw[Array.length_toList];rfl
  by_cases h:(s.size:Int)<1
  ·rw[show decide ((s.size:Int)<1)=true by simpa using h];have:s.data.toList=[]:=List.eq_nil_of_length_eq_zero (by omega);rw[this];rfl
  ·rw[show decide ((s.size:Int)<1)=false by simpa using h];cases hl:s.data.toList with
   |nil=>rw[hl] at hsz;simp at hsz;omega
   |cons x l=>rfl
 rw[h0];have h2:decide ((s.size:Int)≤24)= !decide ((s.size:Int)>24):=by
  by_cases h:(s.size:Int)>24
  ·rw[show decide ((s.size:Int)>24)=true by simpa using h];simp;omega
  ·rw[show decide ((s.size:Int)>24)=false by simpa using h];simp;omega
 rw[h2];cases decide ((s.size:Int)<1)<;>cases decide ((s.size:Int)>24)<;>cases ij s s.size 0<;>rfl
theorem HM(s:ByteArray)(hs:s.size<4611686018427387904):ct 111 [.str s] (.bool (cZ s)):=by
 refine ed GD Tryz.func111 (ord:=O0) (N:=JN) (by kernel_rfl) ((F5 _ _ _ s).trans ?_);rw[←DZ];exact M4 s.size 0 LL (by omega) (by unfold LL;omega)
theorem M5(x:Int):ct 284 [.int .i64 x] (.bool (decide (x≥1)&&decide (x≤99))):=
 ed cA Tryz.func284 (ord:=O0) (N:=N0) (by kernel_rfl) ((Gw _ _ _ x).trans (by cases decide (x≥1)<;>rfl))
theorem M6(x:Int):ct 285 [.int .i64 x] (.bool (x==0)):=
 ed cA Tryz.func285 (ord:=O0) (N:=N0) (by kernel_rfl) ((Gx _ _ _ x).trans rfl)
theorem M7:ct 231 [] Dh:=
 ed cA Tryz.func231 (ord:=O0) (N:=N0) (by kernel_rfl) ((Gy _ _ _).trans rfl)
def nC(base:FuncId→List D→Option D):FuncId→List D→Option D:=fun k ds=>match FA k ds with
 |some r=>some r
 |none=>base k ds
theorem D0{base:FuncId→List D→Option D}(hb:ep base):ep (nC base):=by
 intro k ds r h;unfold nC at h;split at h
 ·rename_i d hd;cases h;unfold FA at hd;split at hd
  ·cases hd;exact M7
  ·cases hd
 ·exact hb _ _ _ h
theorem BT{base:FuncId→List D→Option D}:∀k ds r,FA k ds=some r→nC base k ds=some r:=fun k ds r h=>by
 unfold nC;rw[h]
theorem QO{base:FuncId→List D→Option D}(hb:ep base){f:FuncId}{fn:Func}(hf:Tryz.prog.funcs[f]?=some fn){ord:iG}{N:bP}(hok:jN Tryz.prog ord fn=true){ds:List D}{r:D}
  (he:bS (Pa (nC base) LL C1) ord N .canon fn ds=some r):ct f ds r:=
 m8 (Te:=Pa (nC base) LL C1) j0 ⟨Br (D0 hb),(fun _ _ h=>nomatch h),(fun _ _ _ h=>nomatch h),(fun _ _ hi=>nomatch hi)⟩ BT rfl (fun _ _ _ h=>by cases h) hf (by simp) hok he
def fc(s:ByteArray):Bool:=ByteArray.toList s==ByteArray.toList (ByteArray.mk #[99])
def dN(x:cM):Int:=bC (dP x.2||fc x.2) (bC (decide (x.1<1)||decide (x.1>99)) 3 0) (bC (px x.2||eQ x.2) (bC (x.1 !=0) 3 0) 13)
theorem HN(x:cM):ct 145 [.agg [.int .i64 x.1,.str x.2]] (.int .i64 (dN x)):=by
 refine ed cA Tryz.func145 (ord:=O0) (N:=N0) (by kernel_rfl) ((F8 _ _ _ x.1 x.2).trans ?_);unfold dN dP fc px eQ;generalize (ByteArray.toList x.2==ByteArray.toList (ByteArray.mk #[]))=q1;generalize (ByteArray.toList x.2==ByteArray.toList (ByteArray.mk #[99]))=q2;generalize (ByteArray.toList x.2==ByteArray.toList (ByteArray.mk #[120]))=q3;generalize (ByteArray.toList x.2==ByteArray.toList (ByteArray.mk #[45]))=q4;generalize decide (x.1<1)=q5;generalize decide (x.1>99)=q6;generalize (x.1 !=0)=q7;cases q1<;>cases q2<;>cases q3<;>cases q4<;>cases q5<;>cases q6<;>cases q7<;>rfl
def D1:FuncId→List D→Option D:=fun k ds=>match k,ds with
 |284,[.int .i64 x]=>some (.bool (decide (x≥1)&&decide (x≤99)))
 |285,[.int .i64 x]=>some (.bool (x==0))
 |110,[.bool b,.int .i64 e]=>some (.int .i64 (bC b e 0))
 |_,_=>none
theorem GE:ep D1:=by
 intro k ds r h;unfold D1 at h;split at h
 ·cases h;exact M5 _
 ·cases h;exact M6 _
 ·cases h;exact AJ _ _
 ·cases h
theorem M8(x:Int):nC D1 284 [.int .i64 x]=some (.bool (decide (x≥1)&&decide (x≤99))):=rfl
theorem M9(x:Int):nC D1 285 [.int .i64 x]=some (.bool (x==0)):=rfl
theorem Na(b:Bool)(e:Int):nC D1 110 [.bool b,.int .i64 e]=some (.int .i64 (bC b e 0)):=rfl
theorem Nb(x:cM):ct 168 [.agg [.int .i64 x.1,.str x.2]] (.int .i64 (dN x)):=by
 refine QO GE Tryz.func168 (ord:=MT) (N:=N0) (by kernel_rfl) ((Ge _ _ _ x.1 x.2).trans ?_);simp only[M8,M9,Na,bq,bD,bv];unfold dN dP fc px eQ;have e1:decide (x.1≥1)= !decide (x.1<1):=by
  by_cases h:x.1<1
  ·rw[show decide (x.1<1)=true by simpa using h];simp;omega
  ·rw[show decide (x.1<1)=false by simpa using h];simp;omega
 have e2:decide (x.1≤99)= !decide (x.1>99):=by
  by_cases h:x.1>99
  ·rw[show decide (x.1>99)=true by simpa using h];simp;omega
  ·rw[show decide (x.1>99)=false by simpa using h];simp;omega
 have e3:(x.1 !=0)= !(x.1==0):=rfl;rw[e1,e2,e3];generalize (ByteArray.toList x.2==ByteArray.toList (ByteArray.mk #[]))=q1;generalize (ByteArray.toList x.2==ByteArray.toList (ByteArray.mk #[99]))=q2;generalize (ByteArray.toList x.2==ByteArray.toList (ByteArray.mk #[120]))=q3;generalize (ByteArray.toList x.2==ByteArray.toList (ByteArray.mk #[45]))=q4;generalize decide (x.1<1)=q5;generalize decide (x.1>99)=q6;generalize (x.1==0)=q7;cases q1<;>cases q2<;>cases q3<;>cases q4<;>cases q5<;>cases q6<;>cases q7<;>rfl
def eR:List cM→Int
 |[]=>0
 |x::r=>bC (dN x !=0) (dN x) (eR r)
def BV:FuncId→List D→Option D:=fun k ds=>match k,ds with
 |145,[.agg [.int .i64 x,.str s]]=>some (.int .i64 (dN (x,s)))
 |168,[.agg [.int .i64 x,.str s]]=>some (.int .i64 (dN (x,s)))
 |_,_=>none
theorem AK:ep BV:=by
 intro k ds r h;unfold BV at h;split at h
 ·rename_i x s;cases h;exact HN (x,s)
 ·rename_i x s;cases h;exact Nb (x,s)
 ·cases h
theorem Nc(x:Int)(s:ByteArray):BV 145 [.agg [.int .i64 x,.str s]]=some (.int .i64 (dN (x,s))):=rfl
theorem Nd(x:Int)(s:ByteArray):BV 168 [.agg [.int .i64 x,.str s]]=some (.int .i64 (dN (x,s))):=rfl
theorem Nf{f:Bool}{n:Nat}:∀(r pre:List cM) (fuel:Nat),(pre++r).length=n→n≤1000→r.length<fuel→p6 BV LL C1 fuel f n ((pre++r).flatMap cQ) (pre.length:Int)=some (.int .i64 (eR r)):=by
 intro r
 induction r with
 |nil=>
  intro pre fuel hn hB hf;cases fuel with
  |zero=>exact absurd hf (Nat.not_lt_zero _)
  |succ fuel=>
   subst hn;rw[rq,cz,br];rfl
 |cons x r ih=>
  intro pre fuel hn hB hf;cases fuel with
  |zero=>exact absurd hf (Nat.not_lt_zero _)
  |succ fuel=>
   have ih:=ih (pre++[x]) fuel (by rw[cU];exact hn) hB (by simp at hf;omega);rw[cU] at ih;subst hn;rw[rq,cJ,bx,cF,bw,n0,bv,n1,bA,Nc,bq,bv,cq pre x r (by omega),ih,show eR (x::r)=bC (dN x !=0) (dN x) (eR r) from rfl];show bC (dN x !=0) (some (D.int .i64 (dN x))) _=_;cases dN x !=0<;>rfl
theorem Ng{f:Bool}{n:Nat}:∀(r pre:List cM) (fuel:Nat),(pre++r).length=n→n≤1000→r.length<fuel→p7 BV LL C1 fuel f n ((pre++r).flatMap cQ) n (pre.length:Int)=some (.int .i64 (eR r)):=by
 intro r
 induction r with
 |nil=>
  intro pre fuel hn hB hf;cases fuel with
  |zero=>exact absurd hf (Nat.not_lt_zero _)
  |succ fuel=>
   subst hn;rw[rt,cz,br];rfl
 |cons x r ih=>
  intro pre fuel hn hB hf;cases fuel with
  |zero=>exact absurd hf (Nat.not_lt_zero _)
  |succ fuel=>
   have ih:=ih (pre++[x]) fuel (by rw[cU];exact hn) hB (by simp at hf;omega);rw[cU] at ih;subst hn;rw[rt,cJ,bx,cF,bw,n0,bv,n1,bA,Nd,bq,bv,cq pre x r (by omega),ih,show eR (x::r)=bC (dN x !=0) (dN x) (eR r) from rfl];show bC (dN x !=0) (some (D.int .i64 (dN x))) _=_;cases dN x !=0<;>rfl
theorem Nh{f:Bool}(l:List cM)(hl:l.length≤1000):ct 220 [.slc f l.length (l.flatMap cQ)] (.int .i64 (eR l)):=by
 refine ed AK Tryz.func220 (ord:=O0) (N:=JO) (by kernel_rfl) ((Gg _ _ _ _ _ _).trans ?_);exact Nf (f:=f) l [] LL rfl hl (by unfold LL;omega)
theorem Ni{f:Bool}(l:List cM)(hl:l.length≤1000):ct 112 [.slc f l.length (l.flatMap cQ)] (.int .i64 (eR l)):=by
 refine ed AK Tryz.func112 (ord:=O0) (N:=JP) (by kernel_rfl) ((Gi _ _ _ _ _ _).trans ?_);exact Ng (f:=f) l [] LL rfl hl (by unfold LL;omega)
def ik(n:Nat)(c:List D)(P S:Nat→Int):Prop:=∀i,i<n→c[i*2+0]?=some (.int .i64 (P i))∧c[i*2+1]?=some (.int .i64 (S i))
def zu(n:Nat)(P S:Nat→Int)(i:Nat):Bool:=decide (P i<3)||decide (P i>6)||decide (S i<1)||decide (S i>n)
def oC(S:Nat→Int)(i:Nat):Nat→Nat→Bool
 |0,_=>false
 |m+1,k=>bC (S k==S i) true (oC S i m (k+1))
def lp(n:Nat)(P S:Nat→Int)(i:Nat):Int:=bC (zu n P S i) 3 (bC (oC S i i 0) 9 0)
def iT(n:Nat)(P S:Nat→Int):Nat→Nat→Int
 |0,_=>0
 |m+1,i=>bC (lp n P S i !=0) (lp n P S i) (iT n P S m (i+1))
def de(n:Nat)(P S:Nat→Int):Int:=bC ((n:Int)==0) 12 (bC (decide ((n:Int)>36)) 5 (iT n P S n 0))
theorem AL{call:CL}{f:Bool}{n:Nat}{c:List D}{P:Nat→Int}{S:Nat→Int}(hc:ik n c P S)(hn:n≤36)(fu:Nat)(i:Nat)(hi:i<n):∀(m k fuel:Nat),k+m=i→m<fuel→la call LL C1 fu fuel f n c i k=bC (oC S i m k) (some (.int .i64 9)) (ng call LL C1 fu f n c ((i+1:Nat):Int))
 |0,k,fuel+1,h,_=>by
  rw[nh];have h1:decide ((k:Int)<i)=false:=by simp;omega
  rw[h1,br,co (x:=(i:Int)+1) (by omega)];rfl
 |m+1,k,fuel+1,h,hf=>by
  rw[nh];have h1:decide ((k:Int)<i)=true:=by simp;omega
  have h2:decide ((0:Int)≤k∧(k:Int)<n)=true:=by simp;omega
  have h3:decide ((0:Int)≤i∧(i:Int)<n)=true:=by simp;omega
  rw[h1,h2,h3,bx,bw,cu (by simpa using (hc k (by omega)).2),bv,bw,cu (by simpa using (hc i hi).2),bv,co (by omega)];have:=AL (call:=call) (f:=f) (n:=n) (c:=c) (P:=P) (S:=S) hc hn fu i hi m (k+1) fuel (by omega) (by omega);rw[show((k:Int)+1)=((k+1:Nat):Int) from rfl,this];rw[show oC S i (m+1) k=bC (S k==S i) true (oC S i m (k+1)) from rfl];cases S k==S i<;>rfl
theorem AM{call:CL}{f:Bool}{n:Nat}{c:List D}{P:Nat→Int}{S:Nat→Int}(hc:ik n c P S)(hn:n≤36):∀(m i fuel:Nat),i+m=n→m<fuel→ng call LL C1 fuel f n c i=some (.int .i64 (iT n P S m i))
 |0,i,fuel+1,h,_=>by
  rw[rv];have h1:decide ((i:Int)<n)=false:=by simp;omega
  rw[h1];rfl
 |m+1,i,fuel+1,h,hf=>by
  have hi:i<n:=by omega
  rw[rv];have h1:decide ((i:Int)<n)=true:=by simp;omega
  have h2:decide ((0:Int)≤i∧(i:Int)<n)=true:=by simp;omega
  have hp:=(hc i hi).1;have hs:=(hc i hi).2;have e1:Int.toNat (i:Int)=i:=by simp
  rw[xA _ _ _ _ _ _ _ _ (fun _=>rfl:∀t,C1 t=1)];have hin:=AL (call:=call) (f:=f) hc hn fuel i hi i 0 LL (by omega) (by unfold LL;omega);rw[show((0:Nat):Int)=0 from rfl] at hin;rw[hin,AM (call:=call) (f:=f) (n:=n) (c:=c) (P:=P) (S:=S) hc hn m (i+1) fuel (by omega) (by omega)];simp only[h1,h2,e1,bx,bw,cu hp,cu hs,bv];simp only[iT,lp,zu];generalize decide (P i<3)=q1;generalize decide (P i>6)=q2;generalize decide (S i<1)=q3;generalize decide (S i>(n:Int))=q4;generalize oC S i i 0=q5;cases q1<;>cases q2<;>cases q3<;>cases q4<;>cases q5<;>rfl
theorem Nj{f:Bool}{n:Nat}{c:List D}{P S:Nat→Int}(hc:ik n c P S):ct 83 [.slc f n c] (.int .i64 (de n P S)):=by
 refine ed cA Tryz.func83 (ord:=O0) (N:=MU) (by kernel_rfl) ((JQ _ _ _ _ _ _).trans ?_);unfold de;cases hn0:((n:Int)==0) with
 |true=>rw[bx,bx]
 |false=>
  cases hn:decide ((n:Int)>36) with
  |true=>rw[br,bx,br,bx]
  |false=>
   simp at hn;have:=AM (call:=fun _ _=>none) (f:=f) hc (by omega) n 0 LL (by omega) (by unfold LL;omega);rw[show((0:Nat):Int)=0 from rfl] at this;rw[br,br,br,br];exact this
def vF:FuncId→List D→Option D:=fun k ds=>match k,ds with
 |110,[.bool b,.int .i64 e]=>some (.int .i64 (bC b e 0))
 |108,[.slc true 2 [.int .i64 x,.int .i64 y]]=>some (.int .i64 (xD x y))
 |_,_=>none
theorem GF:ep vF:=by
 intro k ds r h;unfold vF at h;split at h
 ·cases h;exact AJ _ _
 ·cases h;exact MZ _ _
 ·cases h
def lT(S:Nat→Int):Nat→List D
 |0=>[]
 |i+1=>lT S i++[.int .i64 (S i)]
def eS:Nat→List D
 |0=>[]
 |i+1=>eS i++[.bool true]
theorem fC:∀(i j:Nat),j<i→(eS i)[j]?=some (.bool true)
 |i+1,j,h=>by
  have hl:∀i,(eS i).length=i:=fun i=>by induction i with
   |zero=>rfl
   |succ i ih=>simp[eS,ih]
  unfold eS;by_cases hj:j<i
  ·rw[zb7 (by rw[hl];exact hj)];exact fC i j hj
  ·have:j=i:=by omega
   subst this;rw[zb6 (by rw[hl];omega),hl];simp
theorem ud(S:Nat→Int):∀i,(lT S i).length=i
 |0=>rfl
 |i+1=>by simp[lT,ud S i]
theorem rQ(x:Int):∀(l:List Int) (i:Nat),(cx (.int .i64 x) (l.map (D.int .i64)) i=some none∧∀y∈l,y≠x)∨∃j,cx (.int .i64 x) (l.map (D.int .i64)) i=some (some (i+j))∧j<l.length∧∃y∈l,y=x
 |[],i=> .inl ⟨rfl,by simp⟩
 |y::l,i=>by
  have hk:eI (.int .i64 x) (.int .i64 y)=some (x==y):=by simp[eI]
  simp only[List.map_cons,cx,hk];cases hxy:(x==y) with
  |true=>
   have:x=y:=by simpa using hxy
   subst this;exact .inr ⟨0,rfl,by simp,x,by simp,rfl⟩
  |false=>
   have hne:x≠y:=by simpa using hxy
   rcases rQ x l (i+1) with⟨h1,h2⟩|⟨j,h1,h2,z,h3,h4⟩
   ·exact .inl ⟨h1,fun z hz=>by rcases List.mem_cons.1 hz with rfl|hz;exact fun e=>hne e.symm;exact h2 z hz⟩
   ·exact .inr ⟨j+1,by rw[show i+(j+1)=i+1+j by omega];exact h1,by simp;exact h2,z,za5 _ h3,h4⟩
def py(S:Nat→Int):Nat→List Int
 |0=>[]
 |i+1=>py S i++[S i]
theorem rR(S:Nat→Int):∀i,lT S i=(py S i).map (D.int .i64)
 |0=>rfl
 |i+1=>by simp[lT,py,rR S i]
theorem oD(S:Nat→Int):∀(i:Nat) (y:Int),y∈py S i↔∃k,k<i∧S k=y
 |0,y=>by simp[py]
 |i+1,y=>by
  simp only[py,za9,zc9,oD S i y];constructor
  ·rintro (⟨k,h1,h2⟩|rfl)
   ·exact⟨k,by omega,h2⟩
   ·exact⟨i,by omega,rfl⟩
  ·rintro ⟨k,h1,h2⟩
   by_cases hk:k<i
   ·exact .inl ⟨k,hk,h2⟩
   ·have:k=i:=by omega
    subst this;exact .inr h2.symm
theorem rS(S:Nat→Int)(i:Nat):∀(m k:Nat),oC S i m k=true↔∃j,k≤j∧j<k+m∧S j=S i
 |0,k=>by simp[oC];intro j h1 h2;omega
 |m+1,k=>by
  rw[show oC S i (m+1) k=bC (S k==S i) true (oC S i m (k+1)) from rfl,Iw];by_cases h:S k=S i
  ·simp only[h,BEq.rfl,if_true,true_iff];exact⟨k,by omega,by omega,h⟩
  ·have:(S k==S i)=false:=by simpa using h
   rw[this];simp only[Bool.false_eq_true,if_false,rS S i m (k+1)];constructor
   ·rintro ⟨j,h1,h2,h3⟩;exact⟨j,by omega,by omega,h3⟩
   ·rintro ⟨j,h1,h2,h3⟩
    have:j≠k:=fun e=>h (e▸h3);exact⟨j,by omega,by omega,h3⟩
theorem BW(S:Nat→Int)(i:Nat):(cx (.int .i64 (S i)) (lT S i) 0=some none∧oC S i i 0=false)∨∃j,cx (.int .i64 (S i)) (lT S i) 0=some (some j)∧j<i∧oC S i i 0=true:=by
 rw[rR];have hl:(py S i).length=i:=by have:=ud S i;rw[rR] at this;simpa using this
 rcases rQ (S i) (py S i) 0 with⟨h1,h2⟩|⟨j,h1,h2,y,h3,h4⟩
 ·refine .inl ⟨h1,?_⟩;cases hd:oC S i i 0 with
  |false=>rfl
  |true=>
   obtain⟨j,_,hj,hs⟩:=(rS S i i 0).1 hd;exact absurd hs (h2 _ ((oD S i _).2 ⟨j,by omega,rfl⟩))
 ·refine .inr ⟨j,by simpa using h1,by omega,?_⟩;obtain⟨k,hk,hs⟩:=(oD S i y).1 h3;exact(rS S i i 0).2 ⟨k,by omega,by omega,by rw[hs,h4]⟩
theorem xE{f:Bool}{n:Nat}{c:List D}{P:Nat→Int}{S:Nat→Int}(hc:ik n c P S)(hn:n≤36):∀(m i fuel:Nat),i+m=n→m<fuel→kP vF LL C1 fuel f n c n i (lT S i) (eS i)=some (.int .i64 (iT n P S m i))
 |0,i,fuel+1,h,_=>by
  rw[pm];have h1:decide ((i:Int)<n)=false:=by simp;omega
  rw[h1];rfl
 |m+1,i,fuel+1,h,hf=>by
  have hi:i<n:=by omega
  rw[pm];have h1:decide ((i:Int)<n)=true:=by simp;omega
  have h2:decide ((0:Int)≤i∧(i:Int)<n)=true:=by simp;omega
  have hp:=(hc i hi).1;have hs:=(hc i hi).2;have e1:Int.toNat (i:Int)=i:=by simp
  have c110:∀(b:Bool) (e:Int),vF 110 [.bool b,.int .i64 e]=some (.int .i64 (bC b e 0)):=fun _ _=>rfl;have c108:∀(x y:Int),vF 108 [.slc true 2 [.int .i64 x,.int .i64 y]]=some (.int .i64 (xD x y)):=fun _ _=>rfl;have ih:=xE (f:=f) (n:=n) (c:=c) (P:=P) (S:=S) hc hn m (i+1) fuel (by omega) (by omega);have hu:eI (.int .i64 (S i)) (.int .i64 (S i))=some true:=by simp[eI]
  have hw:IntKind.wrap .i64 ((i:Int)+1)=((i+1:Nat):Int):=by rw[co (by omega)];rfl
  have k31:∀(ve vx vx1:Int) (ks vs:List D),dI vF LL C1 fuel f n c n i ks vs ve vx vx1=bC (ve !=0) (some (.int .i64 ve)) (kj (iA (.int .i64 vx1) (.bool true) ks vs) fun ks vs=>kP vF LL C1 fuel f n c n ((i+1:Nat):Int) ks vs):=fun ve vx vx1 ks vs=>by
   rw[sN _ _ _ _ _ _ _ _ _ _ _ _ _ _ (fun _=>rfl:∀t,C1 t=1),sM _ _ _ _ _ _ _ _ _ _ _ _ _ (fun _=>rfl:∀t,C1 t=1),hw]
  simp only[h1,h2,e1,bx,bw,cu hp,cu hs,bv,c110,c108,bq,k31];simp only[iT,lp,zu];rcases BW S i with⟨f1,f2⟩|⟨j,f1,f2,f3⟩
  ·rw[f1,f2];have hup:iA (.int .i64 (S i)) (.bool true) (lT S i) (eS i)=some (lT S (i+1),eS (i+1)):=by
    unfold iA;rw[f1];rfl
   simp only[fa,hup,kj,ih,xD];generalize decide (P i<3)=q1;generalize decide (P i>6)=q2;generalize decide (S i<1)=q3;generalize decide (S i>(n:Int))=q4;cases q1<;>cases q2<;>cases q3<;>cases q4<;>rfl
  ·rw[f1,f3];simp only[fa,cu (fC i j f2),bD,xD];generalize decide (P i<3)=q1;generalize decide (P i>6)=q2;generalize decide (S i<1)=q3;generalize decide (S i>(n:Int))=q4;cases q1<;>cases q2<;>cases q3<;>cases q4<;>rfl
theorem AN{f:Bool}{n:Nat}{c:List D}{P S:Nat→Int}(hc:ik n c P S):ct 109 [.slc f n c] (.int .i64 (de n P S)):=by
 refine ed GF Tryz.func109 (ord:=O0) (N:=DT) (by kernel_rfl) ((Gj _ _ _ _ _ _).trans ?_);have c110:∀(b:Bool) (e:Int),vF 110 [.bool b,.int .i64 e]=some (.int .i64 (bC b e 0)):=fun _ _=>rfl;have c108:∀(x y:Int),vF 108 [.slc true 2 [.int .i64 x,.int .i64 y]]=some (.int .i64 (xD x y)):=fun _ _=>rfl;simp only[c110,c108,bq,bv];unfold de;cases hn0:((n:Int)==0) with
 |true=>
  simp only[bx];rfl
 |false=>
  cases hn:decide ((n:Int)>36) with
  |true=>
   simp only[bx,br];rfl
  |false=>
   simp at hn;have:=xE (f:=f) hc (by omega) n 0 LL (by omega) (by unfold LL;omega);rw[show((0:Nat):Int)=0 from rfl] at this;rw[show(xD (bC false (12:Int) 0) (bC false (5:Int) 0) !=0)=false from rfl,br,br,br];exact this
def GG(x y z w:Int):Int:=bC (x !=0) x (bC (y !=0) y (bC (z !=0) z w))
theorem Kg(x y z w:Int):ct 108 [.slc true 4 [.int .i64 x,.int .i64 y,.int .i64 z,.int .i64 w]] (.int .i64 (GG x y z w)):=by
 refine ed cA Tryz.func108 (ord:=O0) (N:=F3) (by kernel_rfl) ((AG _ _ _ _ _ _).trans ?_);rw[show LL=(4611686018427387899+1)+1+1+1+1 from rfl,eP,eP,eP,eP,eP];have h1:IntKind.wrap .i64 ((0:Int)+1)=1:=co (by omega);have h2:IntKind.wrap .i64 ((1:Int)+1)=2:=co (by omega);have h3:IntKind.wrap .i64 ((2:Int)+1)=3:=co (by omega);have h4:IntKind.wrap .i64 ((3:Int)+1)=4:=co (by omega);simp only[h1,h2,h3,h4];unfold GG;cases hx:(x !=0) with
 |true=>simp[bu,hx]
 |false=>
  cases hy:(y !=0) with
  |true=>simp[bu,hx,hy]
  |false=>
   cases hz:(z !=0) with
   |true=>simp[bu,hx,hy,hz]
   |false=>
    cases hw:(w !=0) with
    |true=>simp[bu,hx,hy,hz,hw]
    |false=>
     have:w=0:=by simpa using hw
     simp[bu,hx,hy,hz,this]
section
variable {f g:Bool}{n:Nat}{c:List D}{P S:Nat→Int}
def nD(n:Nat)(P S:Nat→Int)(s:ByteArray)(l:List cM):Int:=GG (de n P S) (bC (!cZ s) 8 0) (bC ((l.length:Int) !=n) 2 0) (eR l)
theorem PD(hc:ik n c P S)(s:ByteArray)(l:List cM)(hs:s.size<4611686018427387904)(hl:l.length≤1000):ct 41 [.slc f n c,.agg [.str s,.slc g l.length (l.flatMap cQ)]] (.int .i64 (nD n P S s l)):=by
 have hb:ep (mi [(109,[.slc f n c],.int .i64 (de n P S)),(111,[.str s],.bool (cZ s)),(112,[.slc g l.length (l.flatMap cQ)],.int .i64 (eR l)),
   (108,[.slc true 4 [.int .i64 (de n P S),.int .i64 (bC (!cZ s) 8 0),.int .i64 (bC ((l.length:Int) !=n) 2 0),.int .i64 (eR l)]],.int .i64 (nD n P S s l)),
   (110,[.bool (!cZ s),.int .i64 8],.int .i64 (bC (!cZ s) 8 0)),(110,[.bool ((l.length:Int) !=n),.int .i64 2],.int .i64 (bC ((l.length:Int) !=n) 2 0))]):=vg fun e he=>by
  simp only[List.mem_cons,List.not_mem_nil,or_false] at he;rcases he with rfl|rfl|rfl|rfl|rfl|rfl
  ·exact AN hc
  ·exact HM s hs
  ·exact Ni l hl
  ·exact Kg _ _ _ _
  ·exact AJ _ _
  ·exact AJ _ _
 refine ed hb Tryz.func41 (ord:=O0) (N:=N0) (by kernel_rfl) ((JR _ _ _ _ _ _ _ _ _ _).trans ?_);have n1:∀{a b:D} {x y:Int},x≠y→[a,D.int .i64 x]≠[b,D.int .i64 y]:=fun h e=>by simp at e;exact h e.2
 rw[fP,bq,bv,cY (by decide),fP,bq,bD,
  cY (by decide),cY (by decide),cY (by decide),cY (by decide),fP,bq,bv,
  cY (by decide),cY (by decide),cY (by decide),cY (by decide),y7 (n1 (by decide)),fP,bq,bv,
  cY (by decide),cY (by decide),fP,bq,bv,
  cY (by decide),cY (by decide),cY (by decide),fP,bq,bv]
theorem Nk(hc:ik n c P S)(s:ByteArray)(l:List cM)(hl:l.length≤1000):ct 152 [.slc f n c,.agg [.str s,.slc g l.length (l.flatMap cQ)]] (.int .i64 (nD n P S s l)):=by
 have hb:ep (mi [(83,[.slc f n c],.int .i64 (de n P S)),(80,[.str s],.bool (cZ s)),(220,[.slc g l.length (l.flatMap cQ)],.int .i64 (eR l))]):=vg fun e he=>by
  simp only[List.mem_cons,List.not_mem_nil,or_false] at he;rcases he with rfl|rfl|rfl
  ·exact Nj hc
  ·exact M1 s
  ·exact Nh l hl
 refine ed hb Tryz.func152 (ord:=O0) (N:=Gk) (by kernel_rfl) ((Gm _ _ _ _ _ _ _ _ _ _).trans ?_);have h31:∀e,lb ((mi [(83,[.slc f n c],.int .i64 (de n P S)),(80,[.str s],.bool (cZ s)),(220,[.slc g l.length (l.flatMap cQ)],.int .i64 (eR l))])) LL C1 s g l.length (l.flatMap cQ) e=some (.int .i64 (bC (e==0) (eR l) e)):=fun e=>by
  rw[zm _ _ _ _ _ _ _ _ (fun _=>rfl:∀t,C1 t=1),cY (by decide),cY (by decide),fP,bq,bv];cases e==0<;>rfl
 have h15:∀e,lc ((mi [(83,[.slc f n c],.int .i64 (de n P S)),(80,[.str s],.bool (cZ s)),(220,[.slc g l.length (l.flatMap cQ)],.int .i64 (eR l))])) LL C1 f n c s g l.length (l.flatMap cQ) e=some (.int .i64 (bC (e==0) (bC ((l.length:Int) !=n) 2 (eR l)) e)):=fun e=>by
  rw[zo _ _ _ _ _ _ _ _ _ _ _ (fun _=>rfl:∀t,C1 t=1),h31,h31];cases he:e==0 with
  |true=>cases ((l.length:Int) !=n)<;>rfl
  |false=>rfl
 rw[fP,bq,bv,cY (by decide),fP,bq,bD,h15,h15];unfold nD GG;cases hz:de n P S==0 with
 |true=>
  have h0:de n P S=0:=by simpa using hz
  rw[h0];cases cZ s<;>cases ((l.length:Int) !=n)<;>rfl
 |false=>
  have h0:(de n P S !=0)=true:=by simpa using hz
  rw[h0];rfl
end
theorem j7{n:Nat}{P S:Nat→Int}:∀(m i:Nat),iT n P S m i=0→∀j,i≤j→j<i+m→zu n P S j=false
 |0,i,_,j,h1,h2=>by omega
 |m+1,i,h,j,h1,h2=>by
  unfold iT at h;cases he:lp n P S i !=0 with
  |true=>
   rw[he,bx] at h;rw[h] at he;cases he
  |false=>
   rw[he,br] at h;by_cases hj:j=i
   ·subst hj;unfold lp at he;cases hb:zu n P S j with
    |false=>rfl
    |true=>rw[hb,bx] at he;cases he
   ·exact j7 m (i+1) h j (by omega) (by omega)
theorem lU{n:Nat}{P S:Nat→Int}(h:de n P S=0):0<n∧n≤36∧∀i,i<n→1≤S i∧S i≤n:=by
 unfold de at h;cases h1:((n:Int)==0) with
 |true=>rw[h1,bx] at h;cases h
 |false=>
  rw[h1,br] at h;cases h2:decide ((n:Int)>36) with
  |true=>rw[h2,bx] at h;cases h
  |false=>
   rw[h2,br] at h;simp at h1 h2;refine⟨by omega,by omega,fun i hi=> ?_⟩;have:=j7 n 0 h i (by omega) (by omega);unfold zu at this;simp at this;omega
abbrev cw:=ByteArray×ByteArray×Int
abbrev bU:=ByteArray×ByteArray×Int×cM
abbrev eT:=Int×Int
abbrev CrdV:=ByteArray×Bool×List cM
abbrev KepV:=ByteArray×(Bool×List eT)×(Bool×List CrdV)
def bz(l:List ByteArray):List D:=l.map D.str
def bO(m:cw):List D:=[.str m.1,.str m.2.1,.int .i64 m.2.2]
def bH(m:bU):List D:=[.str m.1,.str m.2.1,.int .i64 m.2.2.1,.int .i64 m.2.2.2.1,.str m.2.2.2.2]
def bR(h:eT):List D:=[.int .i64 h.1,.int .i64 h.2]
def j8(c:CrdV):List D:=[.str c.1,.slc c.2.1 c.2.2.length (c.2.2.flatMap cQ)]
def bV(k:KepV):List D:=[.str k.1,.slc k.2.1.1 k.2.1.2.length (k.2.1.2.flatMap bR),.slc k.2.2.1 k.2.2.2.length (k.2.2.2.flatMap j8)]
structure UV where
 (cf mf hf kf sf pf:Bool)
 cl:List ByteArray
 me:List cw
 ho:List eT
 mr:List bU
 sg:List ByteArray
 pa:List KepV
def dY(u:UV):D:= .agg [.slc u.cf u.cl.length (bz u.cl),.slc u.mf u.me.length (u.me.flatMap bO),.slc u.hf u.ho.length (u.ho.flatMap bR),.slc u.kf u.mr.length (u.mr.flatMap bH),.slc u.sf u.sg.length (bz u.sg),.slc u.pf u.pa.length (u.pa.flatMap bV)]
def UV.Fit(u:UV):Prop:=u.cl.length≤100000∧u.me.length≤100000∧u.ho.length≤100000∧u.mr.length≤100000∧u.sg.length≤100000∧u.pa.length≤100000
def cN(a b:ByteArray):Bool:=ByteArray.toList a==ByteArray.toList b
theorem nE(a b:ByteArray):cN a b=cN b a:=by
 unfold cN;rw[Bool.eq_iff_iff,ze1,ze1];exact⟨Eq.symm,Eq.symm⟩
theorem sEq_iff{a b:ByteArray}:cN a b=true↔a=b:=by
 unfold cN;rw[ze1,ByteArray.toList_eq,ByteArray.toList_eq];constructor
 ·intro h;apply ByteArray.ext;exact Array.toList_inj.1 h
 ·intro h;rw[h]
def jx{α:Type}(p:α→Bool):List α→Nat→Int
 |[],_=> -1
 |x::r,i=>bC (p x) (i:Int) (jx p r (i+1))
def ix{α:Type}(p:α→Bool)(l:List α):Int:=jx p l 0
theorem ue{α:Type}(p:α→Bool):∀(l:List α) (i:Nat),(l.find? p=none∧jx p l i= -1)∨∃j x,j<l.length∧l[j]?=some x∧l.find? p=some x∧jx p l i=((i+j:Nat):Int)
 |[],i=> .inl ⟨rfl,rfl⟩
 |x::r,i=>by
  rw[show jx p (x::r) i=bC (p x) (i:Int) (jx p r (i+1)) from rfl];cases hp:p x with
  |true=>exact .inr ⟨0,x,by simp,rfl,by simp[hp],rfl⟩
  |false=>
   rw[br];rcases ue p r (i+1) with⟨h1,h2⟩|⟨j,y,h1,h2,h3,h4⟩
   ·exact .inl ⟨by simp[hp,h1],h2⟩
   ·exact .inr ⟨j+1,y,by simp;exact h1,by simpa using h2,by simp[hp,h3],by rw[h4];congr 1;omega⟩
theorem lq{α:Type}(p:α→Bool)(l:List α):(l.find? p=none∧ix p l= -1)∨∃j x,j<l.length∧l[j]?=some x∧l.find? p=some x∧ix p l=(j:Int):=by
 rcases ue p l 0 with h|⟨j,x,h1,h2,h3,h4⟩
 ·exact .inl h
 ·exact .inr ⟨j,x,h1,h2,h3,by rw[show ix p l=jx p l 0 from rfl,h4,Nat.zero_add]⟩
theorem D2{α:Type}(p:α→Bool)(l:List α):decide (ix p l≥0)=l.any p:=by
 rcases lq p l with⟨h1,h2⟩|⟨j,x,h1,h2,h3,h4⟩
 ·rw[h2];have:l.any p=false:=by
   cases h:l.any p with
   |false=>rfl
   |true=>
    obtain⟨x,hx,hp⟩:=List.any_eq_true.1 h;exact absurd hp (List.find?_eq_none.1 h1 x hx)
  rw[this];rfl
 ·rw[h4];have:l.any p=true:=List.any_eq_true.2 ⟨x,List.mem_of_find?_eq_some h3,List.find?_some h3⟩;rw[this];simp
theorem Kh{α:Type}(p:α→Bool)(l:List α):decide (ix p l<0)= !l.any p:=by
 rw[←D2];by_cases h:ix p l<0
 ·rw[show decide (ix p l<0)=true by simpa using h];have:decide (ix p l≥0)=false:=by simp;omega
  rw[this];rfl
 ·rw[show decide (ix p l<0)=false by simpa using h];have:decide (ix p l≥0)=true:=by simp;omega
  rw[this];rfl
section
variable {γ:Type}(c:D→Option γ)
theorem Ki(pre:List cw)(x:cw)(r:List cw):bu ((pre++x::r).flatMap bO) (Int.toNat (pre.length:Int)*3+0) c=c (.str x.1):=db pre x r bO 3 (fun _=>rfl) 0 (by omega) c
theorem m1(pre:List cw)(x:cw)(r:List cw):bu ((pre++x::r).flatMap bO) (Int.toNat (pre.length:Int)*3+1) c=c (.str x.2.1):=db pre x r bO 3 (fun _=>rfl) 1 (by omega) c
theorem m2(pre:List cw)(x:cw)(r:List cw):bu ((pre++x::r).flatMap bO) (Int.toNat (pre.length:Int)*3+2) c=c (.int .i64 x.2.2):=db pre x r bO 3 (fun _=>rfl) 2 (by omega) c
theorem k0(pre:List bU)(x:bU)(r:List bU):bu ((pre++x::r).flatMap bH) (Int.toNat (pre.length:Int)*5+0) c=c (.str x.1):=db pre x r bH 5 (fun _=>rfl) 0 (by omega) c
theorem k1(pre:List bU)(x:bU)(r:List bU):bu ((pre++x::r).flatMap bH) (Int.toNat (pre.length:Int)*5+1) c=c (.str x.2.1):=db pre x r bH 5 (fun _=>rfl) 1 (by omega) c
theorem k2(pre:List bU)(x:bU)(r:List bU):bu ((pre++x::r).flatMap bH) (Int.toNat (pre.length:Int)*5+2) c=c (.int .i64 x.2.2.1):=db pre x r bH 5 (fun _=>rfl) 2 (by omega) c
theorem k3(pre:List bU)(x:bU)(r:List bU):bu ((pre++x::r).flatMap bH) (Int.toNat (pre.length:Int)*5+3) c=c (.int .i64 x.2.2.2.1):=db pre x r bH 5 (fun _=>rfl) 3 (by omega) c
theorem k4(pre:List bU)(x:bU)(r:List bU):bu ((pre++x::r).flatMap bH) (Int.toNat (pre.length:Int)*5+4) c=c (.str x.2.2.2.2):=db pre x r bH 5 (fun _=>rfl) 4 (by omega) c
theorem p0(pre:List KepV)(x:KepV)(r:List KepV):bu ((pre++x::r).flatMap bV) (Int.toNat (pre.length:Int)*3+0) c=c (.str x.1):=db pre x r bV 3 (fun _=>rfl) 0 (by omega) c
theorem t0(pre:List ByteArray)(x:ByteArray)(r:List ByteArray):bu (bz (pre++x::r)) (Int.toNat (pre.length:Int)*1) c=c (.str x):=xe pre x r D.str c
end
section
variable {f0 f1 f2 f3 f4 f5:Bool}{b0 b1 b2 b3 b4 b5:Nat}{e0 e1 e2 e3 e4 e5:List D}
theorem PE{call:CL}{n:Nat}(s:ByteArray):∀(r pre:List cw) (fuel:Nat),(pre++r).length=n→n≤100000→r.length<fuel→
  vw call LL C1 fuel s f0 b0 e0 f1 n ((pre++r).flatMap bO) f2 b2 e2 f3 b3 e3 f4 b4 e4 f5 b5 e5 (pre.length:Int)=some (.int .i64 (jx (fun m=>cN m.1 s) r pre.length)):=by
 intro r
 induction r with
 |nil=>
  intro pre fuel hn hB hf;cases fuel with
  |zero=>exact absurd hf (Nat.not_lt_zero _)
  |succ fuel=>
   subst hn;rw[tY,cz,br];rfl
 |cons x r ih=>
  intro pre fuel hn hB hf;cases fuel with
  |zero=>exact absurd hf (Nat.not_lt_zero _)
  |succ fuel=>
   have ih:=ih (pre++[x]) fuel (by rw[cU];exact hn) hB (by simp at hf;omega);rw[cU] at ih;subst hn;rw[tY,cJ,bx,cF,bw,Ki,bA,cq pre x r (by omega),ih,show(pre++[x]).length=pre.length+1 by simp];show bC (cN x.1 s) _ _=some (D.int .i64 (bC (cN x.1 s) _ _));cases cN x.1 s<;>rfl
theorem Nl{call:CL}{n:Nat}(s:ByteArray):∀(r pre:List KepV) (fuel:Nat),(pre++r).length=n→n≤100000→r.length<fuel→
  qc call LL C1 fuel s f0 b0 e0 f1 b1 e1 f2 b2 e2 f3 b3 e3 f4 b4 e4 f5 n ((pre++r).flatMap bV) (pre.length:Int)=some (.int .i64 (jx (fun k=>cN k.1 s) r pre.length)):=by
 intro r
 induction r with
 |nil=>
  intro pre fuel hn hB hf;cases fuel with
  |zero=>exact absurd hf (Nat.not_lt_zero _)
  |succ fuel=>
   subst hn;rw[rB,cz,br];rfl
 |cons x r ih=>
  intro pre fuel hn hB hf;cases fuel with
  |zero=>exact absurd hf (Nat.not_lt_zero _)
  |succ fuel=>
   have ih:=ih (pre++[x]) fuel (by rw[cU];exact hn) hB (by simp at hf;omega);rw[cU] at ih;subst hn;rw[rB,cJ,bx,cF,bw,p0,bA,cq pre x r (by omega),ih,show(pre++[x]).length=pre.length+1 by simp];show bC (cN x.1 s) _ _=some (D.int .i64 (bC (cN x.1 s) _ _));cases cN x.1 s<;>rfl
def fS(p:ByteArray)(h:Int)(own:Bool)(m:bU):Bool:=cN m.1 p&&(m.2.2.1==h&&(cN m.2.1 m.1==own))
theorem PG{call:CL}{n:Nat}(s:ByteArray)(h:Int)(own:Bool):∀(r pre:List bU) (fuel:Nat),(pre++r).length=n→n≤100000→r.length<fuel→
  oA call LL C1 fuel s h own f0 b0 e0 f1 b1 e1 f2 b2 e2 f3 n ((pre++r).flatMap bH) f4 b4 e4 f5 b5 e5 (pre.length:Int)=some (.int .i64 (jx (fS s h own) r pre.length)):=by
 intro r
 induction r with
 |nil=>
  intro pre fuel hn hB hf;cases fuel with
  |zero=>exact absurd hf (Nat.not_lt_zero _)
  |succ fuel=>
   subst hn;rw[t6,cz,br];rfl
 |cons x r ih=>
  intro pre fuel hn hB hf;cases fuel with
  |zero=>exact absurd hf (Nat.not_lt_zero _)
  |succ fuel=>
   have ih:=ih (pre++[x]) fuel (by rw[cU];exact hn) hB (by simp at hf;omega);rw[cU] at ih;subst hn;rw[t6,cJ,bx,cF,bw,k0,bA,k1,bA,k2,bv,k3,bv,k4,bA,cq pre x r (by omega),ih,show(pre++[x]).length=pre.length+1 by simp];show bC (cN x.1 s) (bC (x.2.2.1==h) (bC (cN x.2.1 s==own) _ _) _) _=some (D.int .i64 (bC (fS s h own x) _ _));unfold fS;cases h1:cN x.1 s with
   |false=>rfl
   |true=>
    rw[sEq_iff.1 h1];cases x.2.2.1==h<;>cases (cN x.2.1 s==own)<;>rfl
theorem GH(l:List cw)(s:ByteArray)(hl:l.length≤100000):ct 23 [.agg [.slc f0 b0 e0,.slc f1 l.length (l.flatMap bO),.slc f2 b2 e2,.slc f3 b3 e3,.slc f4 b4 e4,.slc f5 b5 e5],.str s] (.int .i64 (ix (fun m=>cN m.1 s) l)):=
 ed cA Tryz.func23 (ord:=O0) (N:=Pu) (by kernel_rfl) ((JL _ _ _ _ _ _ _ _ _ _ _ _ _ _ _ _ _ _ _ _ _ _).trans (PE s l [] LL rfl hl (by unfold LL;omega)))
theorem Nm(l:List KepV)(s:ByteArray)(hl:l.length≤100000):ct 151 [.agg [.slc f0 b0 e0,.slc f1 b1 e1,.slc f2 b2 e2,.slc f3 b3 e3,.slc f4 b4 e4,.slc f5 l.length (l.flatMap bV)],.str s] (.int .i64 (ix (fun m=>cN m.1 s) l)):=
 ed cA Tryz.func151 (ord:=O0) (N:=JX) (by kernel_rfl) ((Gv _ _ _ _ _ _ _ _ _ _ _ _ _ _ _ _ _ _ _ _ _ _).trans (Nl s l [] LL rfl hl (by unfold LL;omega)))
theorem Nn(l:List bU)(s:ByteArray)(h:Int)(own:Bool)(hl:l.length≤100000):ct 95 [.agg [.slc f0 b0 e0,.slc f1 b1 e1,.slc f2 b2 e2,.slc f3 l.length (l.flatMap bH),.slc f4 b4 e4,.slc f5 b5 e5],.str s,.int .i64 h,.bool own] (.int .i64 (ix (fS s h own) l)):=
 ed cA Tryz.func95 (ord:=O0) (N:=Pw) (by kernel_rfl) ((JV _ _ _ _ _ _ _ _ _ _ _ _ _ _ _ _ _ _ _ _ _ _ _ _).trans (PG s h own l [] LL rfl hl (by unfold LL;omega)))
end
theorem No(a b:ByteArray)(h:Int)(s:ByteArray):ct 222 [.agg [.str a,.str b,.int .i64 h],.snap [.str s] 0] (.bool (cN a s)):=
 ed cA Tryz.func222 (ord:=O0) (N:=N0) (by kernel_rfl) ((Gq _ _ _ a b h s).trans rfl)
theorem Np(m:bU):ct 153 [.agg (bH m)] (.bool (cN m.2.1 m.1)):=
 ed cA Tryz.func153 (ord:=O0) (N:=N0) (by kernel_rfl) ((Ga _ _ _ m.1 m.2.1 m.2.2.1 m.2.2.2.1 m.2.2.2.2).trans rfl)
def fa153:Fam:=⟨153,bU,fun m=>[.agg (bH m)],fun m=> .bool (cN m.2.1 m.1)⟩
theorem xF{m m':bU}(h:bH m=bH m'):m=m':=by
 obtain⟨a,b,c,d,e⟩:=m;obtain⟨a',b',c',d',e'⟩:=m';simp[bH] at h;simp[h]
theorem xG{m m':cw}(h:bO m=bO m'):m=m':=by
 obtain⟨a,b,c⟩:=m;obtain⟨a',b',c'⟩:=m';simp[bO] at h;simp[h]
theorem rT:fa153.Good:=⟨Np,fun i j h=>by
 have h:[D.agg (bH i)]=[D.agg (bH j)]:=h;simp only[zc3,and_true,D.agg.injEq] at h;rw[xF h]⟩
theorem Nq(m:bU)(s:ByteArray)(h:Int)(own:Bool):ct 276 [.agg (bH m),.snap [.str s] 0,.snap [.int .i64 h] 0,.snap [.bool own] 0] (.bool (fS s h own m)):=by
 obtain⟨B,hB,hF⟩:=iz [fa153] ⟨rT,trivial⟩ rfl;have e:B 153 [.agg [.str m.1,.str m.2.1,.int .i64 m.2.2.1,.int .i64 m.2.2.2.1,.str m.2.2.2.2]]=some (.bool (cN m.2.1 m.1)):=hF.1 m;refine ed hB Tryz.func276 (ord:=O0) (N:=N0) (by kernel_rfl) ((Gs _ _ _ m.1 m.2.1 m.2.2.1 m.2.2.2.1 m.2.2.2.2 s h own).trans ?_);rw[e,bq,bD];show bC (cN m.1 s) _ _=some (D.bool (cN m.1 s&&_));cases cN m.1 s<;>cases m.2.2.1==h<;>rfl
def HO(s:ByteArray)(h:Int)(own:Bool):Fam:=⟨276,bU,fun m=>[.agg (bH m),.snap [.str s] 0,.snap [.int .i64 h] 0,.snap [.bool own] 0],fun m=> .bool (fS s h own m)⟩
theorem zw(s:ByteArray)(h:Int)(own:Bool):(HO s h own).Good:=⟨fun m=>Nq m s h own,fun i j e=>by
 have e:[D.agg (bH i),D.snap [D.str s] 0,D.snap [D.int .i64 h] 0,D.snap [D.bool own] 0]=[D.agg (bH j),D.snap [D.str s] 0,D.snap [D.int .i64 h] 0,D.snap [D.bool own] 0]:=e;simp only[zc3,and_true,D.agg.injEq] at e;rw[xF e]⟩
def HP(s:ByteArray):Fam:=⟨222,cw,fun m=>[.agg (bO m),.snap [.str s] 0],fun m=> .bool (cN m.1 s)⟩
theorem zx(s:ByteArray):(HP s).Good:=⟨fun m=>No m.1 m.2.1 m.2.2 s,fun i j e=>by
 have e:[D.agg (bO i),D.snap [D.str s] 0]=[D.agg (bO j),D.snap [D.str s] 0]:=e;simp only[zc3,and_true,D.agg.injEq] at e;rw[xG e]⟩
theorem Nr{B:FuncId→List D→Option D}{f:Bool}{n:Nat}(s:ByteArray)(hF:∀m:cw,B 222 [.agg [.str m.1,.str m.2.1,.int .i64 m.2.2],.snap [.str s] 0]=some (.bool (cN m.1 s))):∀(r pre:List cw) (fuel:Nat),(pre++r).length=n→n≤100000→r.length<fuel→
  p9 B LL C1 fuel f n ((pre++r).flatMap bO) s n (pre.length:Int)=some (.int .i64 (jx (fun m=>cN m.1 s) r pre.length)):=by
 intro r
 induction r with
 |nil=>
  intro pre fuel hn hB hf;cases fuel with
  |zero=>exact absurd hf (Nat.not_lt_zero _)
  |succ fuel=>
   subst hn;rw[ry,cz,br];rfl
 |cons x r ih=>
  intro pre fuel hn hB hf;cases fuel with
  |zero=>exact absurd hf (Nat.not_lt_zero _)
  |succ fuel=>
   have ih:=ih (pre++[x]) fuel (by rw[cU];exact hn) hB (by simp at hf;omega);rw[cU] at ih;subst hn;rw[ry,cJ,bx,cF,bw,Ki,bA,m1,bA,m2,bv,hF x,bq,bD,cq pre x r (by omega),ih,show(pre++[x]).length=pre.length+1 by simp];show bC (cN x.1 s) _ _=some (D.int .i64 (bC (cN x.1 s) _ _));cases cN x.1 s<;>rfl
theorem Ns{B:FuncId→List D→Option D}{f:Bool}{n:Nat}(s:ByteArray)(h:Int)(own:Bool)(hF:∀m:bU,B 276 [.agg [.str m.1,.str m.2.1,.int .i64 m.2.2.1,.int .i64 m.2.2.2.1,.str m.2.2.2.2],.snap [.str s] 0,.snap [.int .i64 h] 0,.snap [.bool own] 0]=some (.bool (fS s h own m))):∀(r pre:List bU) (fuel:Nat),(pre++r).length=n→n≤100000→r.length<fuel→
  qa B LL C1 fuel f n ((pre++r).flatMap bH) s h own n (pre.length:Int)=some (.int .i64 (jx (fS s h own) r pre.length)):=by
 intro r
 induction r with
 |nil=>
  intro pre fuel hn hB hf;cases fuel with
  |zero=>exact absurd hf (Nat.not_lt_zero _)
  |succ fuel=>
   subst hn;rw[rz,cz,br];rfl
 |cons x r ih=>
  intro pre fuel hn hB hf;cases fuel with
  |zero=>exact absurd hf (Nat.not_lt_zero _)
  |succ fuel=>
   have ih:=ih (pre++[x]) fuel (by rw[cU];exact hn) hB (by simp at hf;omega);rw[cU] at ih;subst hn;rw[rz,cJ,bx,cF,bw,k0,bA,k1,bA,k2,bv,k3,bv,k4,bA,hF x,bq,bD,cq pre x r (by omega),ih,show(pre++[x]).length=pre.length+1 by simp];show bC (fS s h own x) _ _=some (D.int .i64 (bC (fS s h own x) _ _));cases fS s h own x<;>rfl
theorem Nt{f:Bool}(l:List cw)(s:ByteArray)(hl:l.length≤100000):ct 221 [.slc f l.length (l.flatMap bO),.fn (.func 222) [] [.snap [.str s] 0]] (.int .i64 (ix (fun m=>cN m.1 s) l)):=by
 obtain⟨B,hB,hF⟩:=iz [HP s] ⟨zx s,trivial⟩ rfl;exact ed hB Tryz.func221 (ord:=O0) (N:=JT) (by kernel_rfl) ((Gp _ _ _ _ _ _ _).trans (Nr s hF.1 l [] LL rfl hl (by unfold LL;omega)))
theorem Nu{f:Bool}(l:List bU)(s:ByteArray)(h:Int)(own:Bool)(hl:l.length≤100000):ct 275 [.slc f l.length (l.flatMap bH),.fn (.func 276) [] [.snap [.str s] 0,.snap [.int .i64 h] 0,.snap [.bool own] 0]] (.int .i64 (ix (fS s h own) l)):=by
 obtain⟨B,hB,hF⟩:=iz [HO s h own] ⟨zw s h own,trivial⟩ rfl;exact ed hB Tryz.func275 (ord:=O0) (N:=JU) (by kernel_rfl) ((Gr _ _ _ _ _ _ _ _ _).trans (Ns s h own hF.1 l [] LL rfl hl (by unfold LL;omega)))
section
variable {f0 f1 f2 f3 f4 f5:Bool}{b0 b1 b2 b3 b4 b5:Nat}{e0 e1 e2 e3 e4 e5:List D}
theorem Nv(l:List cw)(s:ByteArray)(hl:l.length≤100000):ct 154 [.agg [.slc f0 b0 e0,.slc f1 l.length (l.flatMap bO),.slc f2 b2 e2,.slc f3 b3 e3,.slc f4 b4 e4,.slc f5 b5 e5],.str s] (.int .i64 (ix (fun m=>cN m.1 s) l)):=by
 obtain⟨B,hB,hF⟩:=iz [one 221 [.slc f1 l.length (l.flatMap bO),.fn (.func 222) [] [.snap [.str s] 0]] (.int .i64 (ix (fun m=>cN m.1 s) l))] ⟨bN (Nt l s hl),trivial⟩ rfl;refine ed hB Tryz.func154 (ord:=O0) (N:=N0) (by kernel_rfl) ((Gb _ _ _ _ _ _ _ _ _ _ _ _ _ _ _ _ _ _ _ _ _ _).trans ?_);rw[show B 221 [.slc f1 l.length (l.flatMap bO),.fn (.func 222) [] [.snap [.str s] 0]]=_ from hF.1 (),bq];rfl
theorem Nw(l:List bU)(s:ByteArray)(h:Int)(own:Bool)(hl:l.length≤100000):ct 224 [.agg [.slc f0 b0 e0,.slc f1 b1 e1,.slc f2 b2 e2,.slc f3 l.length (l.flatMap bH),.slc f4 b4 e4,.slc f5 b5 e5],.str s,.int .i64 h,.bool own] (.int .i64 (ix (fS s h own) l)):=by
 obtain⟨B,hB,hF⟩:=iz [one 275 [.slc f3 l.length (l.flatMap bH),.fn (.func 276) [] [.snap [.str s] 0,.snap [.int .i64 h] 0,.snap [.bool own] 0]] (.int .i64 (ix (fS s h own) l))] ⟨bN (Nu l s h own hl),trivial⟩ rfl;refine ed hB Tryz.func224 (ord:=O0) (N:=N0) (by kernel_rfl) ((Gt _ _ _ _ _ _ _ _ _ _ _ _ _ _ _ _ _ _ _ _ _ _ _ _).trans ?_);rw[show B 275 [.slc f3 l.length (l.flatMap bH),.fn (.func 276) [] [.snap [.str s] 0,.snap [.int .i64 h] 0,.snap [.bool own] 0]]=_ from hF.1 (),bq];rfl
def fk(l:List bU)(s:ByteArray)(h:Int)(own:Bool):cM×Bool:=match l.find? (fS s h own) with
 |some m=>(m.2.2.2,true)
 |none=>((0,ByteArray.mk #[45]),false)
theorem Nx(l:List bU)(s:ByteArray)(h:Int)(own:Bool)(hl:l.length≤100000):ct 156 [.agg [.slc f0 b0 e0,.slc f1 b1 e1,.slc f2 b2 e2,.slc f3 l.length (l.flatMap bH),.slc f4 b4 e4,.slc f5 b5 e5],.str s,.int .i64 h,.bool own] (.tup [.agg (cQ (fk l s h own).1),.bool (fk l s h own).2]):=by
 obtain⟨B,hB,hF⟩:=iz [one 224 [.agg [.slc f0 b0 e0,.slc f1 b1 e1,.slc f2 b2 e2,.slc f3 l.length (l.flatMap bH),.slc f4 b4 e4,.slc f5 b5 e5],.str s,.int .i64 h,.bool own] (.int .i64 (ix (fS s h own) l))] ⟨bN (Nw l s h own hl),trivial⟩ rfl;have e:B 224 [.agg [.slc f0 b0 e0,.slc f1 b1 e1,.slc f2 b2 e2,.slc f3 l.length (l.flatMap bH),.slc f4 b4 e4,.slc f5 b5 e5],.str s,.int .i64 h,.bool own]=some (.int .i64 (ix (fS s h own) l)):=hF.1 ();refine ed hB Tryz.func156 (ord:=O0) (N:=N0) (by kernel_rfl) ((Gz _ _ _ _ _ _ _ _ _ _ _ _ _ _ _ _ _ _ _ _ _ _ _ _).trans ?_);rw[e,bq,bv];unfold fk;rcases lq (fS s h own) l with⟨h1,h2⟩|⟨j,x,h1,h2,h3,h4⟩
 ·rw[h1,h2];rfl
 ·rw[h3,h4];obtain⟨pre,r,rfl,rfl⟩:∃pre r,l=pre++x::r∧pre.length=j:=by
   refine⟨l.take j,l.drop (j+1),?_,by simp;omega⟩;have:x=l[j]:=by
    have:=zd0 h1;rw[this] at h2;exact(Option.some.inj h2).symm
   rw[this,List.getElem_cons_drop,List.take_append_drop]
  have e1:decide ((pre.length:Int)<0)=false:=by simp
  rw[e1,br,cF,bw];have q3:=k3 (γ:=D) (fun d=>bF IntKind.i64 d fun x_1=>bu ((pre++x::r).flatMap bH) (Int.toNat (pre.length:Int)*5+3+1) fun d_1=>bY d_1 fun s=>some (D.tup [D.agg [D.int IntKind.i64 x_1,D.str s],D.bool true])) pre x r;refine q3.trans ?_;rw[bv];have q4:=k4 (γ:=D) (fun d_1=>bY d_1 fun s=>some (D.tup [D.agg [D.int IntKind.i64 x.2.2.2.1,D.str s],D.bool true])) pre x r;exact q4
end
end Go.Pd
end
section
namespace Go.Pd
open Go Go.Proofs Go.RowKit
def e8{α:Type}(g:α→List D):List α→Ow
 |[]=> .nil
 |o::os=> .own (os.length+1) ((o::os).flatMap g)
def eF{α:Type}(g:α→List D):List α→D
 |[]=> .slc true 0 []
 |o::os=> .slc false (os.length+1) ((o::os).flatMap g)
theorem fT{α:Type}(g:α→List D)(acc:List α)(s:α):e8 g (acc++[s])= .own (acc.length+1) (acc.flatMap g++g s):=by
 cases acc with
 |nil=>simp[e8]
 |cons o os=>
  show Ow.own ((os++[s]).length+1) (((o::os)++[s]).flatMap g)=_;rw[zd3,show(os++[s]).length=os.length+1 by simp];simp
theorem dM{α:Type}(g:α→List D)(l:List α):eF g l= .slc l.isEmpty l.length (l.flatMap g):=by cases l<;>rfl
def iD(x:Int):List D:=[.int .i64 x]
theorem uf{i:Nat}(h:i≤1000000):decide ((i+1)*8≤cB∧i+1≤9223372036854775807)=true:=by
 simp only[zc5];rw[show cB=140737488355328 from rfl];omega
theorem Kj{i:Nat}(h:i≤1000000):decide ((i+1)*24≤cB∧i+1≤9223372036854775807)=true:=by
 simp only[zc5];rw[show cB=140737488355328 from rfl];omega
section
variable {γ:Type}
theorem oE(a b:D)(k:List D→Option γ):fY (.tup [a,b]) 2 k=k [a,b]:=rfl
theorem rU(a b:D)(k:List D→Option γ):gG (.agg [a,b]) 2 k=k [a,b]:=rfl
theorem gT(a b:D)(k:D→Option γ):bu [a,b] 0 k=k a:=rfl
theorem gU(a b:D)(k:D→Option γ):bu [a,b] 1 k=k b:=rfl
theorem kQ{α:Type}{l:List α}{j:Nat}{x:α}(h:l[j]?=some x):∃pre r,l=pre++x::r∧pre.length=j:=by
 obtain⟨h1,h2⟩:=zb9.1 h;exact⟨l.take j,l.drop (j+1),by rw[←h2,List.getElem_cons_drop,List.take_append_drop],by simp;omega⟩
theorem OD{l:List bU}{j:Nat}{x:bU}(h:l[j]?=some x)(c:D→Option γ):bu (l.flatMap bH) (Int.toNat (j:Int)*5+3+0) c=c (.int .i64 x.2.2.2.1):=by
 obtain⟨pre,r,rfl,rfl⟩:=kQ h;exact k3 c pre x r
theorem OE{l:List bU}{j:Nat}{x:bU}(h:l[j]?=some x)(c:D→Option γ):bu (l.flatMap bH) (Int.toNat (j:Int)*5+3+1) c=c (.str x.2.2.2.2):=by
 obtain⟨pre,r,rfl,rfl⟩:=kQ h;exact k4 c pre x r
end
def dW(l:List bU)(s:ByteArray):Nat→Nat→List cM
 |0,_=>[]
 |m+1,i=>(fk l s ((i+1:Nat):Int) false).1::dW l s m (i+1)
theorem jy(l:List bU)(s:ByteArray):∀(m i:Nat),(dW l s m i).length=m
 |0,_=>rfl
 |m+1,i=>by simp[dW,jy l s m (i+1)]
def eu(q:Nat→Bool):Nat→Nat→List Int
 |0,_=>[]
 |m+1,i=>match q i with
  |true=>((i+1:Nat):Int)::eu q m (i+1)
  |false=>eu q m (i+1)
theorem vG(q:Nat→Bool)(m i:Nat):eu q (m+1) i=match q i with
  |true=>((i+1:Nat):Int)::eu q m (i+1)
  |false=>eu q m (i+1):=rfl
def AO(a b:cM):Bool:=a.1==b.1&&(cN a.2 b.2&&true)
def il(l:List bU)(s:ByteArray)(i:Nat):Bool:= !((fk l s ((i+1:Nat):Int) false).2&&(fk l s ((i+1:Nat):Int) true).2)
def im(l:List bU)(s:ByteArray)(i:Nat):Bool:=((fk l s ((i+1:Nat):Int) false).2&&(fk l s ((i+1:Nat):Int) true).2)&& !AO (fk l s ((i+1:Nat):Int) false).1 (fk l s ((i+1:Nat):Int) true).1
theorem Ny(a b:cM)(c:Bool):ct 158 [.agg [.int .i64 a.1,.str a.2],.agg [.int .i64 b.1,.str b.2],.bool c] (.bool (!c)):=
 ed cA Tryz.func158 (ord:=O0) (N:=N0) (by kernel_rfl) (GA _ _ _ a.1 a.2 b.1 b.2 c)
theorem Nz(a b:cM)(c:Bool):ct 159 [.agg [.int .i64 a.1,.str a.2],.agg [.int .i64 b.1,.str b.2],.bool c] (.bool (c&& !AO a b)):=
 ed cA Tryz.func159 (ord:=O0) (N:=N0) (by kernel_rfl) ((GB _ _ _ a.1 a.2 b.1 b.2 c).trans (by cases c<;>rfl))
def fa158:Fam:=⟨158,cM×cM×Bool,fun x=>[.agg [.int .i64 x.1.1,.str x.1.2],.agg [.int .i64 x.2.1.1,.str x.2.1.2],.bool x.2.2],fun x=> .bool (!x.2.2)⟩
def fa159:Fam:=⟨159,cM×cM×Bool,fun x=>[.agg [.int .i64 x.1.1,.str x.1.2],.agg [.int .i64 x.2.1.1,.str x.2.1.2],.bool x.2.2],fun x=> .bool (x.2.2&& !AO x.1 x.2.1)⟩
theorem xH{x y:cM×cM×Bool}(h:[D.agg [.int .i64 x.1.1,.str x.1.2],D.agg [.int .i64 x.2.1.1,.str x.2.1.2],D.bool x.2.2]=[D.agg [.int .i64 y.1.1,.str y.1.2],D.agg [.int .i64 y.2.1.1,.str y.2.1.2],D.bool y.2.2]):x=y:=by
 obtain⟨⟨a,b⟩,⟨c,d⟩,e⟩:=x;obtain⟨⟨a',b'⟩,⟨c',d'⟩,e'⟩:=y;simp at h;simp[h]
theorem zy:fa158.Good:=⟨fun x=>Ny x.1 x.2.1 x.2.2,fun i j h=>by rw[xH h]⟩
theorem zz:fa159.Good:=⟨fun x=>Nz x.1 x.2.1 x.2.2,fun i j h=>by rw[xH h]⟩
section
variable {f0 f1 f2 f3 f4 f5:Bool}{b0 b1 b2 b3 b4 b5:Nat}{e0 e1 e2 e3 e4 e5:List D}
def AQ(u:D)(l:List bU)(s:ByteArray):Fam:=⟨156,Int×Bool,fun x=>[u,.str s,.int .i64 x.1,.bool x.2],fun x=> .tup [.agg [.int .i64 (fk l s x.1 x.2).1.1,.str (fk l s x.1 x.2).1.2],.bool (fk l s x.1 x.2).2]⟩
def Kk(u:D)(l:List bU)(s:ByteArray):Fam:=⟨95,Int×Bool,fun x=>[u,.str s,.int .i64 x.1,.bool x.2],fun x=> .int .i64 (ix (fS s x.1 x.2) l)⟩
theorem xI{u:D}{s:ByteArray}{x y:Int×Bool}(h:[u,D.str s,D.int .i64 x.1,D.bool x.2]=[u,D.str s,D.int .i64 y.1,D.bool y.2]):x=y:=by
 obtain⟨a,b⟩:=x;obtain⟨a',b'⟩:=y;simp at h;simp[h]
theorem mv(l:List bU)(s:ByteArray)(hl:l.length≤100000):(AQ (.agg [.slc f0 b0 e0,.slc f1 b1 e1,.slc f2 b2 e2,.slc f3 l.length (l.flatMap bH),.slc f4 b4 e4,.slc f5 b5 e5]) l s).Good:=⟨fun x=>Nx l s x.1 x.2 hl,fun i j h=>by rw[xI h]⟩
theorem ug(l:List bU)(s:ByteArray)(hl:l.length≤100000):(Kk (.agg [.slc f0 b0 e0,.slc f1 b1 e1,.slc f2 b2 e2,.slc f3 l.length (l.flatMap bH),.slc f4 b4 e4,.slc f5 b5 e5]) l s).Good:=⟨fun x=>Nn l s x.1 x.2 hl,fun i j h=>by rw[xI h]⟩
theorem NA{B:FuncId→List D→Option D}{n:Nat}(l:List bU)(s:ByteArray)(hn:n≤100000)
  (hF:∀x:Int×Bool,B 156 [.agg [.slc f0 b0 e0,.slc f1 b1 e1,.slc f2 n e2,.slc f3 b3 e3,.slc f4 b4 e4,.slc f5 b5 e5],.str s,.int .i64 x.1,.bool x.2]=some (.tup [.agg [.int .i64 (fk l s x.1 x.2).1.1,.str (fk l s x.1 x.2).1.2],.bool (fk l s x.1 x.2).2])):
  ∀(m i fuel:Nat) (acc:List cM),i+m=n→acc.length≤i→m<fuel→
  oB B LL C1 fuel s f0 b0 e0 f1 b1 e1 f2 n e2 f3 b3 e3 f4 b4 e4 f5 b5 e5 n (i:Int) (e8 cQ acc)=some (.agg [.str s,eF cQ (acc++dW l s m i)])
 |0,i,fuel+1,acc,h,ha,_=>by
  have h1:decide ((i:Int)<n)=false:=by simp;omega
  rw[show acc++dW l s 0 i=acc from zb4 acc];cases acc with
  |nil=>
   rw[show e8 cQ []=Ow.nil from rfl,rC,h1,br];rfl
  |cons o os=>
   rw[show e8 cQ (o::os)=Ow.own (os.length+1) ((o::os).flatMap cQ) from rfl,rD,h1,br];rfl
 |m+1,i,fuel+1,acc,h,ha,hf=>by
  have h1:decide ((i:Int)<n)=true:=by simp;omega
  have hw:IntKind.wrap .i64 ((i:Int)+1)=((i+1:Nat):Int):=by rw[co (by omega)];rfl
  have ih:=NA l s hn hF m (i+1) fuel (acc++[(fk l s ((i+1:Nat):Int) false).1]) (by omega) (by simp;omega) (by omega);rw[fT,za8] at ih;have e:=hF (((i+1:Nat):Int),false);rw[show dW l s (m+1) i=[(fk l s ((i+1:Nat):Int) false).1]++dW l s m (i+1) from rfl,←ih];cases acc with
  |nil=>
   rw[show e8 cQ []=Ow.nil from rfl,rC,h1,bx,hw,e,bq,oE,gT,rU,gT,bv,gU,bA,gU,bD];rfl
  |cons o os=>
   rw[show e8 cQ (o::os)=Ow.own (os.length+1) ((o::os).flatMap cQ) from rfl,rD,h1,bx,hw,e,bq,oE,gT,rU,gT,bv,gU,bA,gU,bD,Kj (by simp at ha;omega),bw];rfl
theorem PH{n:Nat}(l:List bU)(s:ByteArray)(hn:n≤100000)(hl:l.length≤100000):ct 91 [.agg [.slc f0 b0 e0,.slc f1 b1 e1,.slc f2 n e2,.slc f3 l.length (l.flatMap bH),.slc f4 b4 e4,.slc f5 b5 e5],.str s] (.agg [.str s,eF cQ (dW l s n 0)]):=by
 obtain⟨B,hB,hF⟩:=iz [AQ (.agg [.slc f0 b0 e0,.slc f1 b1 e1,.slc f2 n e2,.slc f3 l.length (l.flatMap bH),.slc f4 b4 e4,.slc f5 b5 e5]) l s] ⟨mv l s hl,trivial⟩ rfl;exact ed hB Tryz.func91 (ord:=O0) (N:=Px) (by kernel_rfl) ((JY _ _ _ _ _ _ _ _ _ _ _ _ _ _ _ _ _ _ _ _ _ _).trans (NA l s hn hF.1 n 0 LL [] (by omega) (zb0 _) (by unfold LL;omega)))
theorem zA{B:FuncId→List D→Option D}{n:Nat}(l:List bU)(s:ByteArray)(hn:n≤100000)
  (hF:∀x:Int×Bool,B 156 [.agg [.slc f0 b0 e0,.slc f1 b1 e1,.slc f2 n e2,.slc f3 b3 e3,.slc f4 b4 e4,.slc f5 b5 e5],.str s,.int .i64 x.1,.bool x.2]=some (.tup [.agg [.int .i64 (fk l s x.1 x.2).1.1,.str (fk l s x.1 x.2).1.2],.bool (fk l s x.1 x.2).2]))
  (hG:∀x:cM×cM×Bool,B 158 [.agg [.int .i64 x.1.1,.str x.1.2],.agg [.int .i64 x.2.1.1,.str x.2.1.2],.bool x.2.2]=some (.bool (!x.2.2))):
  ∀(m i fuel:Nat) (acc:List Int),i+m=n→acc.length≤i→m<fuel→
  dJ B LL C1 fuel s f0 b0 e0 f1 b1 e1 f2 n e2 f3 b3 e3 f4 b4 e4 f5 b5 e5 (e8 iD acc) n (i:Int)=some (eF iD (acc++eu (il l s) m i))
 |0,i,fuel+1,acc,h,ha,_=>by
  have h1:decide ((i:Int)<n)=false:=by simp;omega
  rw[show acc++eu (il l s) 0 i=acc from zb4 acc];cases acc with
  |nil=>
   rw[show e8 iD []=Ow.nil from rfl,ni,h1,br];rfl
  |cons o os=>
   rw[show e8 iD (o::os)=Ow.own (os.length+1) ((o::os).flatMap iD) from rfl,nk,h1,br];rfl
 |m+1,i,fuel+1,acc,h,ha,hf=>by
  have h1:decide ((i:Int)<n)=true:=by simp;omega
  have hw:IntKind.wrap .i64 ((i:Int)+1)=((i+1:Nat):Int):=by rw[co (by omega)];rfl
  have ih0:=zA l s hn hF hG m (i+1) fuel acc (by omega) (by omega) (by omega);have ih1:=zA l s hn hF hG m (i+1) fuel (acc++[((i+1:Nat):Int)]) (by omega) (by simp;omega) (by omega);rw[fT,za8] at ih1;have a:=hF (((i+1:Nat):Int),false);have b:=hF (((i+1:Nat):Int),true);have key:dJ B LL C1 (fuel+1) s f0 b0 e0 f1 b1 e1 f2 n e2 f3 b3 e3 f4 b4 e4 f5 b5 e5 (e8 iD acc) n (i:Int)=bC (il l s i) (dJ B LL C1 fuel s f0 b0 e0 f1 b1 e1 f2 n e2 f3 b3 e3 f4 b4 e4 f5 b5 e5 (.own (acc.length+1) (acc.flatMap iD++iD ((i+1:Nat):Int))) n ((i+1:Nat):Int)) (dJ B LL C1 fuel s f0 b0 e0 f1 b1 e1 f2 n e2 f3 b3 e3 f4 b4 e4 f5 b5 e5 (e8 iD acc) n ((i+1:Nat):Int)):=by
   unfold il;have g1:=hG ((fk l s ((i+1:Nat):Int) false).1,(fk l s ((i+1:Nat):Int) true).1,(fk l s ((i+1:Nat):Int) true).2);have g2:=hG ((fk l s ((i+1:Nat):Int) false).1,(fk l s ((i+1:Nat):Int) true).1,false);cases acc with
   |nil=>
    rw[show e8 iD []=Ow.nil from rfl,ni,h1,bx,hw,a,bq,oE,gT,rU,gT,bv,gU,bA,gU,bD,b,bq,oE,gT,rU,gT,bv,gU,bA,gU,bD,g1,bq,bD,g2,bq,bD];cases (fk l s ((i+1:Nat):Int) false).2<;>rfl
   |cons o os=>
    rw[show e8 iD (o::os)=Ow.own (os.length+1) ((o::os).flatMap iD) from rfl,nk,h1,bx,hw,a,bq,oE,gT,rU,gT,bv,gU,bA,gU,bD,b,bq,oE,gT,rU,gT,bv,gU,bA,gU,bD,g1,bq,bD,g2,bq,bD,uf (by simp at ha;omega),bw];cases (fk l s ((i+1:Nat):Int) false).2<;>rfl
  rw[key,ih0,ih1,vG];cases il l s i<;>rfl
theorem Kl{n:Nat}(l:List bU)(s:ByteArray)(hn:n≤100000)(hl:l.length≤100000):ct 157 [.agg [.slc f0 b0 e0,.slc f1 b1 e1,.slc f2 n e2,.slc f3 l.length (l.flatMap bH),.slc f4 b4 e4,.slc f5 b5 e5],.str s,.fn (.func 158) [] []] (eF iD (eu (il l s) n 0)):=by
 obtain⟨B,hB,hF⟩:=iz [AQ (.agg [.slc f0 b0 e0,.slc f1 b1 e1,.slc f2 n e2,.slc f3 l.length (l.flatMap bH),.slc f4 b4 e4,.slc f5 b5 e5]) l s,fa158] ⟨mv l s hl,zy,trivial⟩ rfl;exact ed hB Tryz.func157 (ord:=O0) (N:=BR) (by kernel_rfl) ((DU _ _ _ _ _ _ _ _ _ _ _ _ _ _ _ _ _ _ _ _ _ _).trans (zA l s hn hF.1 hF.2.1 n 0 LL [] (by omega) (zb0 _) (by unfold LL;omega)))
theorem zB{B:FuncId→List D→Option D}{n:Nat}(l:List bU)(s:ByteArray)(hn:n≤100000)
  (hF:∀x:Int×Bool,B 156 [.agg [.slc f0 b0 e0,.slc f1 b1 e1,.slc f2 n e2,.slc f3 b3 e3,.slc f4 b4 e4,.slc f5 b5 e5],.str s,.int .i64 x.1,.bool x.2]=some (.tup [.agg [.int .i64 (fk l s x.1 x.2).1.1,.str (fk l s x.1 x.2).1.2],.bool (fk l s x.1 x.2).2]))
  (hG:∀x:cM×cM×Bool,B 159 [.agg [.int .i64 x.1.1,.str x.1.2],.agg [.int .i64 x.2.1.1,.str x.2.1.2],.bool x.2.2]=some (.bool (x.2.2&& !AO x.1 x.2.1))):
  ∀(m i fuel:Nat) (acc:List Int),i+m=n→acc.length≤i→m<fuel→
  dK B LL C1 fuel s f0 b0 e0 f1 b1 e1 f2 n e2 f3 b3 e3 f4 b4 e4 f5 b5 e5 (e8 iD acc) n (i:Int)=some (eF iD (acc++eu (im l s) m i))
 |0,i,fuel+1,acc,h,ha,_=>by
  have h1:decide ((i:Int)<n)=false:=by simp;omega
  rw[show acc++eu (im l s) 0 i=acc from zb4 acc];cases acc with
  |nil=>
   rw[show e8 iD []=Ow.nil from rfl,nl,h1,br];rfl
  |cons o os=>
   rw[show e8 iD (o::os)=Ow.own (os.length+1) ((o::os).flatMap iD) from rfl,nn,h1,br];rfl
 |m+1,i,fuel+1,acc,h,ha,hf=>by
  have h1:decide ((i:Int)<n)=true:=by simp;omega
  have hw:IntKind.wrap .i64 ((i:Int)+1)=((i+1:Nat):Int):=by rw[co (by omega)];rfl
  have ih0:=zB l s hn hF hG m (i+1) fuel acc (by omega) (by omega) (by omega);have ih1:=zB l s hn hF hG m (i+1) fuel (acc++[((i+1:Nat):Int)]) (by omega) (by simp;omega) (by omega);rw[fT,za8] at ih1;have a:=hF (((i+1:Nat):Int),false);have b:=hF (((i+1:Nat):Int),true);have key:dK B LL C1 (fuel+1) s f0 b0 e0 f1 b1 e1 f2 n e2 f3 b3 e3 f4 b4 e4 f5 b5 e5 (e8 iD acc) n (i:Int)=bC (im l s i) (dK B LL C1 fuel s f0 b0 e0 f1 b1 e1 f2 n e2 f3 b3 e3 f4 b4 e4 f5 b5 e5 (.own (acc.length+1) (acc.flatMap iD++iD ((i+1:Nat):Int))) n ((i+1:Nat):Int)) (dK B LL C1 fuel s f0 b0 e0 f1 b1 e1 f2 n e2 f3 b3 e3 f4 b4 e4 f5 b5 e5 (e8 iD acc) n ((i+1:Nat):Int)):=by
   unfold im;have g1:=hG ((fk l s ((i+1:Nat):Int) false).1,(fk l s ((i+1:Nat):Int) true).1,(fk l s ((i+1:Nat):Int) true).2);have g2:=hG ((fk l s ((i+1:Nat):Int) false).1,(fk l s ((i+1:Nat):Int) true).1,false);cases acc with
   |nil=>
    rw[show e8 iD []=Ow.nil from rfl,nl,h1,bx,hw,a,bq,oE,gT,rU,gT,bv,gU,bA,gU,bD,b,bq,oE,gT,rU,gT,bv,gU,bA,gU,bD,g1,bq,bD,g2,bq,bD];cases (fk l s ((i+1:Nat):Int) false).2<;>rfl
   |cons o os=>
    rw[show e8 iD (o::os)=Ow.own (os.length+1) ((o::os).flatMap iD) from rfl,nn,h1,bx,hw,a,bq,oE,gT,rU,gT,bv,gU,bA,gU,bD,b,bq,oE,gT,rU,gT,bv,gU,bA,gU,bD,g1,bq,bD,g2,bq,bD,uf (by simp at ha;omega),bw];cases (fk l s ((i+1:Nat):Int) false).2<;>rfl
  rw[key,ih0,ih1,vG];cases im l s i<;>rfl
theorem Km{n:Nat}(l:List bU)(s:ByteArray)(hn:n≤100000)(hl:l.length≤100000):ct 157 [.agg [.slc f0 b0 e0,.slc f1 b1 e1,.slc f2 n e2,.slc f3 l.length (l.flatMap bH),.slc f4 b4 e4,.slc f5 b5 e5],.str s,.fn (.func 159) [] []] (eF iD (eu (im l s) n 0)):=by
 obtain⟨B,hB,hF⟩:=iz [AQ (.agg [.slc f0 b0 e0,.slc f1 b1 e1,.slc f2 n e2,.slc f3 l.length (l.flatMap bH),.slc f4 b4 e4,.slc f5 b5 e5]) l s,fa159] ⟨mv l s hl,zz,trivial⟩ rfl;exact ed hB Tryz.func157 (ord:=O0) (N:=BR) (by kernel_rfl) ((DV _ _ _ _ _ _ _ _ _ _ _ _ _ _ _ _ _ _ _ _ _ _).trans (zB l s hn hF.1 hF.2.1 n 0 LL [] (by omega) (zb0 _) (by unfold LL;omega)))
theorem nF{l:List bU}{s:ByteArray}{h:Int}{own:Bool}(e:l.find? (fS s h own)=none):fk l s h own=((0,ByteArray.mk #[45]),false):=by unfold fk;rw[e]
theorem nG{l:List bU}{s:ByteArray}{h:Int}{own:Bool}{x:bU}(e:l.find? (fS s h own)=some x):fk l s h own=(x.2.2.2,true):=by unfold fk;rw[e]
theorem vH{α:Type}{l:List α}{j:Nat}(h:j<l.length):decide ((0:Int)≤(j:Int)∧(j:Int)<(l.length:Int))=true:=by simp;omega
theorem Kn{B:FuncId→List D→Option D}{n:Nat}(l:List bU)(s:ByteArray)(hn:n≤100000)
  (hF:∀x:Int×Bool,B 95 [.agg [.slc f0 b0 e0,.slc f1 b1 e1,.slc f2 n e2,.slc f3 l.length (l.flatMap bH),.slc f4 b4 e4,.slc f5 b5 e5],.str s,.int .i64 x.1,.bool x.2]=some (.int .i64 (ix (fS s x.1 x.2) l))):
  ∀(m i fuel:Nat) (acc:List Int),i+m=n→acc.length≤i→m<fuel→
  gk B LL C1 fuel s f0 b0 e0 f1 b1 e1 f2 n e2 f3 l.length (l.flatMap bH) f4 b4 e4 f5 b5 e5 (e8 iD acc) ((i+1:Nat):Int)=some (eF iD (acc++eu (il l s) m i))
 |0,i,fuel+1,acc,h,ha,_=>by
  have h1:decide (((i+1:Nat):Int)≤n)=false:=by simp;omega
  rw[show acc++eu (il l s) 0 i=acc from zb4 acc];cases acc with
  |nil=>
   rw[show e8 iD []=Ow.nil from rfl,j2,h1,br];rfl
  |cons o os=>
   rw[show e8 iD (o::os)=Ow.own (os.length+1) ((o::os).flatMap iD) from rfl,j3,h1,br];rfl
 |m+1,i,fuel+1,acc,h,ha,hf=>by
  have h1:decide (((i+1:Nat):Int)≤n)=true:=by simp;omega
  have hw:IntKind.wrap .i64 (((i+1:Nat):Int)+1)=((i+1+1:Nat):Int):=by rw[co (by omega)];rfl
  have ih0:=Kn l s hn hF m (i+1) fuel acc (by omega) (by omega) (by omega);have ih1:=Kn l s hn hF m (i+1) fuel (acc++[((i+1:Nat):Int)]) (by omega) (by simp;omega) (by omega);rw[fT,za8] at ih1;have a:=hF (((i+1:Nat):Int),false);have b:=hF (((i+1:Nat):Int),true);have key:gk B LL C1 (fuel+1) s f0 b0 e0 f1 b1 e1 f2 n e2 f3 l.length (l.flatMap bH) f4 b4 e4 f5 b5 e5 (e8 iD acc) ((i+1:Nat):Int)=bC (il l s i) (gk B LL C1 fuel s f0 b0 e0 f1 b1 e1 f2 n e2 f3 l.length (l.flatMap bH) f4 b4 e4 f5 b5 e5 (.own (acc.length+1) (acc.flatMap iD++iD ((i+1:Nat):Int))) ((i+1+1:Nat):Int)) (gk B LL C1 fuel s f0 b0 e0 f1 b1 e1 f2 n e2 f3 l.length (l.flatMap bH) f4 b4 e4 f5 b5 e5 (e8 iD acc) ((i+1+1:Nat):Int)):=by
   unfold il;rcases lq (fS s ((i+1:Nat):Int) false) l with⟨h2,h3⟩|⟨j,x,h2,h3,h4,h5⟩
   ·rw[h3] at a;rw[nF h2];cases acc with
    |nil=>
     rw[show e8 iD []=Ow.nil from rfl,j2,h1,bx,hw,a,bq,bv];rfl
    |cons o os=>
     rw[show e8 iD (o::os)=Ow.own (os.length+1) ((o::os).flatMap iD) from rfl,j3,h1,bx,hw,a,bq,bv,uf (by simp at ha;omega),bw];rfl
   ·rw[h5] at a;rw[nG h4];have hp:decide ((j:Int)<0)=false:=by simp
    rcases lq (fS s ((i+1:Nat):Int) true) l with⟨g2,g3⟩|⟨k,y,g2,g3,g4,g5⟩
    ·rw[g3] at b;rw[nF g2];cases acc with
     |nil=>
      rw[show e8 iD []=Ow.nil from rfl,j2,h1,bx,hw,a,bq,bv,hp,br,b,bq,bv];rfl
     |cons o os=>
      rw[show e8 iD (o::os)=Ow.own (os.length+1) ((o::os).flatMap iD) from rfl,j3,h1,bx,hw,a,bq,bv,hp,br,b,bq,bv,uf (by simp at ha;omega),bw];rfl
    ·rw[g5] at b;rw[nG g4];have hq:decide ((k:Int)<0)=false:=by simp
     cases acc with
     |nil=>
      rw[show e8 iD []=Ow.nil from rfl,j2,h1,bx,hw,a,bq,bv,hp,br,b,bq,bv,hq,br];rfl
     |cons o os=>
      rw[show e8 iD (o::os)=Ow.own (os.length+1) ((o::os).flatMap iD) from rfl,j3,h1,bx,hw,a,bq,bv,hp,br,b,bq,bv,hq,br];rfl
  rw[key,ih0,ih1,vG];cases il l s i<;>rfl
theorem PI{n:Nat}(l:List bU)(s:ByteArray)(hn:n≤100000)(hl:l.length≤100000):ct 27 [.agg [.slc f0 b0 e0,.slc f1 b1 e1,.slc f2 n e2,.slc f3 l.length (l.flatMap bH),.slc f4 b4 e4,.slc f5 b5 e5],.str s] (eF iD (eu (il l s) n 0)):=by
 obtain⟨B,hB,hF⟩:=iz [Kk (.agg [.slc f0 b0 e0,.slc f1 b1 e1,.slc f2 n e2,.slc f3 l.length (l.flatMap bH),.slc f4 b4 e4,.slc f5 b5 e5]) l s] ⟨ug l s hl,trivial⟩ rfl;exact ed hB Tryz.func27 (ord:=O0) (N:=Py) (by kernel_rfl) ((J2 _ _ _ _ _ _ _ _ _ _ _ _ _ _ _ _ _ _ _ _ _ _).trans (Kn l s hn hF.1 n 0 LL [] (by omega) (zb0 _) (by unfold LL;omega)))
theorem Ko{B:FuncId→List D→Option D}{n:Nat}(l:List bU)(s:ByteArray)(hn:n≤100000)
  (hF:∀x:Int×Bool,B 95 [.agg [.slc f0 b0 e0,.slc f1 b1 e1,.slc f2 n e2,.slc f3 l.length (l.flatMap bH),.slc f4 b4 e4,.slc f5 b5 e5],.str s,.int .i64 x.1,.bool x.2]=some (.int .i64 (ix (fS s x.1 x.2) l))):
  ∀(m i fuel:Nat) (acc:List Int),i+m=n→acc.length≤i→m<fuel→
  fv B LL C1 fuel s f0 b0 e0 f1 b1 e1 f2 n e2 f3 l.length (l.flatMap bH) f4 b4 e4 f5 b5 e5 (e8 iD acc) ((i+1:Nat):Int)=some (eF iD (acc++eu (im l s) m i))
 |0,i,fuel+1,acc,h,ha,_=>by
  have h1:decide (((i+1:Nat):Int)≤n)=false:=by simp;omega
  rw[show acc++eu (im l s) 0 i=acc from zb4 acc];cases acc with
  |nil=>
   rw[show e8 iD []=Ow.nil from rfl,j4,h1,br];rfl
  |cons o os=>
   rw[show e8 iD (o::os)=Ow.own (os.length+1) ((o::os).flatMap iD) from rfl,j5,h1,br];rfl
 |m+1,i,fuel+1,acc,h,ha,hf=>by
  have h1:decide (((i+1:Nat):Int)≤n)=true:=by simp;omega
  have hw:IntKind.wrap .i64 (((i+1:Nat):Int)+1)=((i+1+1:Nat):Int):=by rw[co (by omega)];rfl
  have ih0:=Ko l s hn hF m (i+1) fuel acc (by omega) (by omega) (by omega);have ih1:=Ko l s hn hF m (i+1) fuel (acc++[((i+1:Nat):Int)]) (by omega) (by simp;omega) (by omega);rw[fT,za8] at ih1;have a:=hF (((i+1:Nat):Int),false);have b:=hF (((i+1:Nat):Int),true);have key:fv B LL C1 (fuel+1) s f0 b0 e0 f1 b1 e1 f2 n e2 f3 l.length (l.flatMap bH) f4 b4 e4 f5 b5 e5 (e8 iD acc) ((i+1:Nat):Int)=bC (im l s i) (fv B LL C1 fuel s f0 b0 e0 f1 b1 e1 f2 n e2 f3 l.length (l.flatMap bH) f4 b4 e4 f5 b5 e5 (.own (acc.length+1) (acc.flatMap iD++iD ((i+1:Nat):Int))) ((i+1+1:Nat):Int)) (fv B LL C1 fuel s f0 b0 e0 f1 b1 e1 f2 n e2 f3 l.length (l.flatMap bH) f4 b4 e4 f5 b5 e5 (e8 iD acc) ((i+1+1:Nat):Int)):=by
   unfold im;rcases lq (fS s ((i+1:Nat):Int) false) l with⟨h2,h3⟩|⟨j,x,h2,h3,h4,h5⟩
   ·rw[h3] at a;rw[nF h2];cases acc with
    |nil=>
     rw[show e8 iD []=Ow.nil from rfl,j4,h1,bx,hw,a,bq,bv,b,bq,bv];rfl
    |cons o os=>
     rw[show e8 iD (o::os)=Ow.own (os.length+1) ((o::os).flatMap iD) from rfl,j5,h1,bx,hw,a,bq,bv,b,bq,bv];rfl
   ·rw[h5] at a;rw[nG h4];have hp:decide ((j:Int)≥0)=true:=by simp
    rcases lq (fS s ((i+1:Nat):Int) true) l with⟨g2,g3⟩|⟨k,y,g2,g3,g4,g5⟩
    ·rw[g3] at b;rw[nF g2];cases acc with
     |nil=>
      rw[show e8 iD []=Ow.nil from rfl,j4,h1,bx,hw,a,bq,bv,b,bq,bv,hp,bx];rfl
     |cons o os=>
      rw[show e8 iD (o::os)=Ow.own (os.length+1) ((o::os).flatMap iD) from rfl,j5,h1,bx,hw,a,bq,bv,b,bq,bv,hp,bx];rfl
    ·rw[g5] at b;rw[nG g4];have hq:decide ((k:Int)≥0)=true:=by simp
     cases acc with
     |nil=>
      rw[show e8 iD []=Ow.nil from rfl,j4,h1,bx,hw,a,bq,bv,b,bq,bv,hp,bx,hq,bx,vH h2,bw,OD h3,bv,OE h3,bA,vH g2,bw,OD g3,bv,OE g3,bA];rfl
     |cons o os=>
      rw[show e8 iD (o::os)=Ow.own (os.length+1) ((o::os).flatMap iD) from rfl,j5,h1,bx,hw,a,bq,bv,b,bq,bv,hp,bx,hq,bx,vH h2,bw,OD h3,bv,OE h3,bA,vH g2,bw,OD g3,bv,OE g3,bA,uf (by simp at ha;omega),bw];rfl
  rw[key,ih0,ih1,vG];cases im l s i<;>rfl
theorem PJ{n:Nat}(l:List bU)(s:ByteArray)(hn:n≤100000)(hl:l.length≤100000):ct 28 [.agg [.slc f0 b0 e0,.slc f1 b1 e1,.slc f2 n e2,.slc f3 l.length (l.flatMap bH),.slc f4 b4 e4,.slc f5 b5 e5],.str s] (eF iD (eu (im l s) n 0)):=by
 obtain⟨B,hB,hF⟩:=iz [Kk (.agg [.slc f0 b0 e0,.slc f1 b1 e1,.slc f2 n e2,.slc f3 l.length (l.flatMap bH),.slc f4 b4 e4,.slc f5 b5 e5]) l s] ⟨ug l s hl,trivial⟩ rfl;exact ed hB Tryz.func28 (ord:=O0) (N:=Pz) (by kernel_rfl) ((J3 _ _ _ _ _ _ _ _ _ _ _ _ _ _ _ _ _ _ _ _ _ _).trans (Ko l s hn hF.1 n 0 LL [] (by omega) (zb0 _) (by unfold LL;omega)))
end
def dr:List Int→Int
 |[]=>0
 |x::r=>bC (x !=0) x (dr r)
theorem PL{call:CL}{f:Bool}{n:Nat}:∀(r pre:List Int) (fuel:Nat),(pre++r).length=n→n≤100000→r.length<fuel→
  vA call LL C1 fuel f n (fQ (pre++r)) n (pre.length:Int)=some (.int .i64 (dr r)):=by
 intro r
 induction r with
 |nil=>
  intro pre fuel hn hB hf;cases fuel with
  |zero=>exact absurd hf (Nat.not_lt_zero _)
  |succ fuel=>
   subst hn;rw[tZ,cz,br];rfl
 |cons x r ih=>
  intro pre fuel hn hB hf;cases fuel with
  |zero=>exact absurd hf (Nat.not_lt_zero _)
  |succ fuel=>
   have ih:=ih (pre++[x]) fuel (by rw[cU];exact hn) hB (by simp at hf;omega);rw[cU] at ih;subst hn;rw[tZ,cJ,bx,cF,bw,ox,bv,cq pre x r (by omega),ih];show bC (x !=0) _ _=some (D.int .i64 (bC (x !=0) _ _));cases x !=0<;>rfl
theorem PM(l:List Int)(hl:l.length≤100):ct 87 [.slc true l.length (fQ l)] (.int .i64 (dr l)):=
 ed cA Tryz.func87 (ord:=O0) (N:=Pv) (by kernel_rfl) ((JM _ _ _ _ _ _).trans (PL l [] LL rfl (by omega) (by unfold LL;omega)))
theorem xJ:∀{l m:List Int},fQ l=fQ m→l=m
 |[],[],_=>rfl
 |[],_::_,h=>by cases h
 |_::_,[],h=>by cases h
 |x::l,y::m,h=>by
  simp only[fQ,List.map_cons,zc3,D.int.injEq,true_and] at h;rw[h.1,xJ (l:=l) (m:=m) h.2]
def fa87:Fam:=⟨87,{l:List Int//l.length≤100},fun l=>[.slc true l.1.length (fQ l.1)],fun l=> .int .i64 (dr l.1)⟩
theorem jz:fa87.Good:=⟨fun l=>PM l.1 l.2,fun i j h=>by
 have h:[D.slc true i.1.length (fQ i.1)]=[D.slc true j.1.length (fQ j.1)]:=h;simp only[zc3,and_true,D.slc.injEq,true_and] at h;rw[show i=j from Subtype.ext (xJ h.2)]⟩
theorem NB(b:Bool)(e:Int):ct 119 [.bool b,.int .i64 e] (.int .i64 (bC b e 0)):=
 ed cA Tryz.func119 (ord:=O0) (N:=N0) (by kernel_rfl) ((F7 _ _ _ b e).trans (by cases b<;>rfl))
def fa119:Fam:=⟨119,Bool×Int,fun x=>[.bool x.1,.int .i64 x.2],fun x=> .int .i64 (bC x.1 x.2 0)⟩
theorem ip:fa119.Good:=⟨fun x=>NB x.1 x.2,fun i j h=>by
 obtain⟨a,b⟩:=i;obtain⟨a',b'⟩:=j;have h:[D.bool a,D.int .i64 b]=[D.bool a',D.int .i64 b']:=h;simp at h;simp[h]⟩
def nH(n a b:Int):Bool:=decide (n<a)||decide (n>b)
theorem NC(n a b:Int):ct 118 [.int .i64 n,.int .i64 a,.int .i64 b] (.bool (nH n a b)):=
 ed cA Tryz.func118 (ord:=O0) (N:=N0) (by kernel_rfl) ((F6 _ _ _ n a b).trans (by unfold nH;cases decide (n<a)<;>rfl))
def fa118:Fam:=⟨118,Int×Int×Int,fun x=>[.int .i64 x.1,.int .i64 x.2.1,.int .i64 x.2.2],fun x=> .bool (nH x.1 x.2.1 x.2.2)⟩
theorem mw:fa118.Good:=⟨fun x=>NC x.1 x.2.1 x.2.2,fun i j h=>by
 obtain⟨a,b,c⟩:=i;obtain⟨a',b',c'⟩:=j;have h:[D.int .i64 a,D.int .i64 b,D.int .i64 c]=[D.int .i64 a',D.int .i64 b',D.int .i64 c']:=h;simp at h;simp[h]⟩
theorem xK{x y:cM}(h:[D.agg [.int .i64 x.1,.str x.2]]=[D.agg [.int .i64 y.1,.str y.2]]):x=y:=by
 obtain⟨a,b⟩:=x;obtain⟨a',b'⟩:=y;simp at h;simp[h]
theorem HQ(x:cM):ct 218 [.agg [.int .i64 x.1,.str x.2]] (.bool (dP x.2||fc x.2)):=
 ed cA Tryz.func218 (ord:=O0) (N:=N0) (by kernel_rfl) ((Gf _ _ _ x.1 x.2).trans (by show bC (dP x.2) _ (some (D.bool (fc x.2)))=_;cases dP x.2<;>rfl))
theorem ND(x:cM):ct 147 [.agg [.int .i64 x.1,.str x.2]] (.int .i64 (dN x)):=by
 obtain⟨B,hB,hF⟩:=iz [one 218 [.agg [.int .i64 x.1,.str x.2]] (.bool (dP x.2||fc x.2)),fa118,fa119] ⟨bN (HQ x),mw,ip,trivial⟩ rfl;have e1:B 218 [.agg [.int .i64 x.1,.str x.2]]=some (.bool (dP x.2||fc x.2)):=hF.1 ();have e2:B 118 [.int .i64 x.1,.int .i64 1,.int .i64 99]=some (.bool (nH x.1 1 99)):=hF.2.1 (x.1,1,99);have e3:∀(b:Bool) (e:Int),B 119 [.bool b,.int .i64 e]=some (.int .i64 (bC b e 0)):=fun b e=>hF.2.2.1 (b,e);refine ed hB Tryz.func147 (ord:=O0) (N:=N0) (by kernel_rfl) ((F9 _ _ _ x.1 x.2).trans ?_);rw[e1,bq,bD,e2,bq,bD,e3,bq,bv,e3,bq,bv];show bC (dP x.2||fc x.2) _ (bC (px x.2) _ (bC (eQ x.2) _ _))=some (D.int .i64 (bC (dP x.2||fc x.2) (bC (nH x.1 1 99) 3 0) (bC (px x.2||eQ x.2) _ _)));cases (dP x.2||fc x.2)<;>cases px x.2<;>cases eQ x.2<;>rfl
def fa147:Fam:=⟨147,cM,fun x=>[.agg [.int .i64 x.1,.str x.2]],fun x=> .int .i64 (dN x)⟩
theorem zC:fa147.Good:=⟨ND,fun i j h=>by rw[xK h]⟩
def fa145:Fam:=⟨145,cM,fun x=>[.agg [.int .i64 x.1,.str x.2]],fun x=> .int .i64 (dN x)⟩
theorem zD:fa145.Good:=⟨HN,fun i j h=>by rw[xK h]⟩
abbrev OF:={s:ByteArray//s.size≤1000}
def fa111:Fam:=⟨111,OF,fun s=>[.str s.1],fun s=> .bool (cZ s.1)⟩
theorem rV:fa111.Good:=⟨fun s=>HM s.1 (by have:=s.2;omega),fun i j h=>by
 have h:[D.str i.1]=[D.str j.1]:=h;simp only[zc3,and_true,D.str.injEq] at h;rw[show i=j from Subtype.ext h]⟩
def fa80:Fam:=⟨80,ByteArray,fun s=>[.str s],fun s=> .bool (cZ s)⟩
theorem oF:fa80.Good:=⟨M1,fun i j h=>by
 have h:[D.str i]=[D.str j]:=h;simp only[zc3,and_true] at h;rw[show i=j from D.str.inj h]⟩
def eh(l:List ByteArray)(s:ByteArray):Bool:=l.any fun x=>cN x s
theorem PN{call:CL}{f:Bool}{n:Nat}(s:ByteArray):∀(r pre:List ByteArray) (fuel:Nat),(pre++r).length=n→n≤100000→r.length<fuel→
  vv call LL C1 fuel f n (bz (pre++r)) s (pre.length:Int)=some (.bool (eh r s)):=by
 intro r
 induction r with
 |nil=>
  intro pre fuel hn hB hf;cases fuel with
  |zero=>exact absurd hf (Nat.not_lt_zero _)
  |succ fuel=>
   subst hn;rw[tX,cz,br];rfl
 |cons x r ih=>
  intro pre fuel hn hB hf;cases fuel with
  |zero=>exact absurd hf (Nat.not_lt_zero _)
  |succ fuel=>
   have ih:=ih (pre++[x]) fuel (by rw[cU];exact hn) hB (by simp at hf;omega);rw[cU] at ih;subst hn;rw[tX,cJ,bx,cF,bw,t0,bA,cq pre x r (by omega),ih];show bC (cN x s) _ _=some (D.bool (cN x s||eh r s));cases cN x s<;>rfl
theorem PO{f:Bool}(l:List ByteArray)(s:ByteArray)(hl:l.length≤100000):ct 81 [.slc f l.length (bz l),.str s] (.bool (eh l s)):=
 ed cA Tryz.func81 (ord:=O0) (N:=Pt) (by kernel_rfl) ((JK _ _ _ _ _ _ _).trans (PN s l [] LL rfl hl (by unfold LL;omega)))
theorem NE{call:CL}{f:Bool}{n:Nat}(s:ByteArray):∀(r pre:List ByteArray) (fuel:Nat),(pre++r).length=n→n≤100000→r.length<fuel→
  p8 call LL C1 fuel f n (bz (pre++r)) s n (pre.length:Int)=some (.int .i64 (jx (fun x=>cN x s) r pre.length)):=by
 intro r
 induction r with
 |nil=>
  intro pre fuel hn hB hf;cases fuel with
  |zero=>exact absurd hf (Nat.not_lt_zero _)
  |succ fuel=>
   subst hn;rw[rx,cz,br];rfl
 |cons x r ih=>
  intro pre fuel hn hB hf;cases fuel with
  |zero=>exact absurd hf (Nat.not_lt_zero _)
  |succ fuel=>
   have ih:=ih (pre++[x]) fuel (by rw[cU];exact hn) hB (by simp at hf;omega);rw[cU] at ih;subst hn;rw[rx,cJ,bx,cF,bw,t0,bA,cq pre x r (by omega),ih,show(pre++[x]).length=pre.length+1 by simp];show bC (cN s x) _ _=some (D.int .i64 (bC (cN x s) _ _));rw[nE s x];cases cN x s<;>rfl
theorem NF{f:Bool}(l:List ByteArray)(s:ByteArray)(hl:l.length≤100000):ct 223 [.slc f l.length (bz l),.str s] (.int .i64 (ix (fun x=>cN x s) l)):=
 ed cA Tryz.func223 (ord:=O0) (N:=JS) (by kernel_rfl) ((Gn _ _ _ _ _ _ _).trans (NE s l [] LL rfl hl (by unfold LL;omega)))
theorem NG{f:Bool}(l:List ByteArray)(s:ByteArray)(hl:l.length≤100000):ct 155 [.slc f l.length (bz l),.str s] (.bool (eh l s)):=by
 obtain⟨B,hB,hF⟩:=iz [one 223 [.slc f l.length (bz l),.str s] (.int .i64 (ix (fun x=>cN x s) l))] ⟨bN (NF l s hl),trivial⟩ rfl;have e:B 223 [.slc f l.length (bz l),.str s]=some (.int .i64 (ix (fun x=>cN x s) l)):=hF.1 ();refine ed hB Tryz.func155 (ord:=O0) (N:=N0) (by kernel_rfl) ((Gc _ _ _ _ _ _ _).trans ?_);rw[e,bq,bv,D2];rfl
theorem uh:∀{l m:List ByteArray},bz l=bz m→l=m
 |[],[],_=>rfl
 |[],_::_,h=>by cases h
 |_::_,[],h=>by cases h
 |x::l,y::m,h=>by
  simp only[bz,List.map_cons,zc3,D.str.injEq] at h;rw[h.1,uh (l:=l) (m:=m) h.2]
abbrev BX:=Bool×{l:List ByteArray//l.length≤100000}×ByteArray
theorem AR{x y:BX}(h:[D.slc x.1 x.2.1.1.length (bz x.2.1.1),D.str x.2.2]=[D.slc y.1 y.2.1.1.length (bz y.2.1.1),D.str y.2.2]):x=y:=by
 obtain⟨a,⟨b,hb⟩,c⟩:=x;obtain⟨a',⟨b',hb'⟩,c'⟩:=y;simp only[zc3,and_true,D.slc.injEq,D.str.injEq] at h;obtain⟨⟨h1,_,h2⟩,h3⟩:=h;obtain rfl:=uh h2;subst h1 h3;rfl
def fa81:Fam:=⟨81,BX,fun x=>[.slc x.1 x.2.1.1.length (bz x.2.1.1),.str x.2.2],fun x=> .bool (eh x.2.1.1 x.2.2)⟩
theorem uk:fa81.Good:=⟨fun x=>PO x.2.1.1 x.2.2 x.2.1.2,fun i j h=>by rw[AR h]⟩
def fa155:Fam:=⟨155,BX,fun x=>[.slc x.1 x.2.1.1.length (bz x.2.1.1),.str x.2.2],fun x=> .bool (eh x.2.1.1 x.2.2)⟩
theorem zE:fa155.Good:=⟨fun x=>NG x.2.1.1 x.2.2 x.2.1.2,fun i j h=>by rw[AR h]⟩
theorem oG(pre:List ByteArray)(x:ByteArray)(r:List ByteArray)(f:Bool):D.slc (f&&decide ((pre.length:Int)=((pre++x::r).length:Int))) (Int.toNat ((pre.length:Int)-(0:Int))) (List.take (Int.toNat ((pre.length:Int)-(0:Int))*1) (bz (pre++x::r)))= .slc false pre.length (bz pre):=by
 have h1:decide ((pre.length:Int)=((pre++x::r).length:Int))=false:=by simp;omega
 rw[h1,Bool.and_false,Int.sub_zero,za3,Nat.mul_one];unfold bz;rw[List.map_append,List.take_left' (by simp)]
theorem vI{α:Type}(pre:List α)(x:α)(r:List α):decide ((0:Int)≤(0:Int)∧(0:Int)≤(pre.length:Int)∧(pre.length:Int)≤((pre++x::r).length:Int))=true:=by simp;omega
section
variable {f0 f1 f2 f3 f4 f5:Bool}{b0 b1 b2 b3 b4 b5:Nat}{e0 e1 e2 e3 e4 e5:List D}
theorem PP{n:Nat}(l:List bU)(s:ByteArray)(hn:n≤100000)(hl:l.length≤100000):ct 92 [.agg [.slc f0 b0 e0,.slc f1 b1 e1,.slc f2 n e2,.slc f3 l.length (l.flatMap bH),.slc f4 b4 e4,.slc f5 b5 e5],.str s] (eF iD (eu (il l s) n 0)):=by
 obtain⟨B,hB,hF⟩:=iz [one 157 [.agg [.slc f0 b0 e0,.slc f1 b1 e1,.slc f2 n e2,.slc f3 l.length (l.flatMap bH),.slc f4 b4 e4,.slc f5 b5 e5],.str s,.fn (.func 158) [] []] (eF iD (eu (il l s) n 0))] ⟨bN (Kl l s hn hl),trivial⟩ rfl;have e:B 157 [.agg [.slc f0 b0 e0,.slc f1 b1 e1,.slc f2 n e2,.slc f3 l.length (l.flatMap bH),.slc f4 b4 e4,.slc f5 b5 e5],.str s,.fn (.func 158) [] []]=some (eF iD (eu (il l s) n 0)):=hF.1 ();refine ed hB Tryz.func92 (ord:=O0) (N:=N0) (by kernel_rfl) ((JZ _ _ _ _ _ _ _ _ _ _ _ _ _ _ _ _ _ _ _ _ _ _).trans ?_);rw[e,bq,dM,bI]
theorem PQ{n:Nat}(l:List bU)(s:ByteArray)(hn:n≤100000)(hl:l.length≤100000):ct 93 [.agg [.slc f0 b0 e0,.slc f1 b1 e1,.slc f2 n e2,.slc f3 l.length (l.flatMap bH),.slc f4 b4 e4,.slc f5 b5 e5],.str s] (eF iD (eu (im l s) n 0)):=by
 obtain⟨B,hB,hF⟩:=iz [one 157 [.agg [.slc f0 b0 e0,.slc f1 b1 e1,.slc f2 n e2,.slc f3 l.length (l.flatMap bH),.slc f4 b4 e4,.slc f5 b5 e5],.str s,.fn (.func 159) [] []] (eF iD (eu (im l s) n 0))] ⟨bN (Km l s hn hl),trivial⟩ rfl;have e:B 157 [.agg [.slc f0 b0 e0,.slc f1 b1 e1,.slc f2 n e2,.slc f3 l.length (l.flatMap bH),.slc f4 b4 e4,.slc f5 b5 e5],.str s,.fn (.func 159) [] []]=some (eF iD (eu (im l s) n 0)):=hF.1 ();refine ed hB Tryz.func93 (ord:=O0) (N:=N0) (by kernel_rfl) ((J0 _ _ _ _ _ _ _ _ _ _ _ _ _ _ _ _ _ _ _ _ _ _).trans ?_);rw[e,bq,dM,bI]
def my(l:List bU)(n:Nat)(s:ByteArray):Int:=dr [bC ((n:Int)==0) 12 0,bC (decide (((eu (il l s) n 0).length:Int)>0)) 7 0,bC (decide (((eu (im l s) n 0).length:Int)>0)) 29 0]
theorem PR{n:Nat}(l:List bU)(s:ByteArray)(hn:n≤100000)(hl:l.length≤100000):ct 94 [.agg [.slc f0 b0 e0,.slc f1 b1 e1,.slc f2 n e2,.slc f3 l.length (l.flatMap bH),.slc f4 b4 e4,.slc f5 b5 e5],.str s] (.int .i64 (my l n s)):=by
 obtain⟨B,hB,hF⟩:=iz [one 92 [.agg [.slc f0 b0 e0,.slc f1 b1 e1,.slc f2 n e2,.slc f3 l.length (l.flatMap bH),.slc f4 b4 e4,.slc f5 b5 e5],.str s] (eF iD (eu (il l s) n 0)),one 93 [.agg [.slc f0 b0 e0,.slc f1 b1 e1,.slc f2 n e2,.slc f3 l.length (l.flatMap bH),.slc f4 b4 e4,.slc f5 b5 e5],.str s] (eF iD (eu (im l s) n 0)),fa119,fa87] ⟨bN (PP l s hn hl),bN (PQ l s hn hl),ip,jz,trivial⟩ rfl;have a:B 92 [.agg [.slc f0 b0 e0,.slc f1 b1 e1,.slc f2 n e2,.slc f3 l.length (l.flatMap bH),.slc f4 b4 e4,.slc f5 b5 e5],.str s]=some (eF iD (eu (il l s) n 0)):=hF.1 ();have b:B 93 [.agg [.slc f0 b0 e0,.slc f1 b1 e1,.slc f2 n e2,.slc f3 l.length (l.flatMap bH),.slc f4 b4 e4,.slc f5 b5 e5],.str s]=some (eF iD (eu (im l s) n 0)):=hF.2.1 ();have e3:∀(b:Bool) (e:Int),B 119 [.bool b,.int .i64 e]=some (.int .i64 (bC b e 0)):=fun b e=>hF.2.2.1 (b,e);have e4:∀x y z:Int,B 87 [.slc true 3 [.int .i64 x,.int .i64 y,.int .i64 z]]=some (.int .i64 (dr [x,y,z])):=fun x y z=>hF.2.2.2.1 ⟨[x,y,z],by simp⟩;refine ed hB Tryz.func94 (ord:=O0) (N:=N0) (by kernel_rfl) ((J1 _ _ _ _ _ _ _ _ _ _ _ _ _ _ _ _ _ _ _ _ _ _).trans ?_);rw[e3,bq,bv,a,bq,dM,bI,e3,bq,bv,b,bq,dM,bI,e3,bq,bv,e4,bq,bv];rfl
theorem PS{n:Nat}(l:List bU)(s:ByteArray)(hn:n≤100000)(hl:l.length≤100000):ct 29 [.agg [.slc f0 b0 e0,.slc f1 b1 e1,.slc f2 n e2,.slc f3 l.length (l.flatMap bH),.slc f4 b4 e4,.slc f5 b5 e5],.str s] (.int .i64 (my l n s)):=by
 obtain⟨B,hB,hF⟩:=iz [one 27 [.agg [.slc f0 b0 e0,.slc f1 b1 e1,.slc f2 n e2,.slc f3 l.length (l.flatMap bH),.slc f4 b4 e4,.slc f5 b5 e5],.str s] (eF iD (eu (il l s) n 0)),one 28 [.agg [.slc f0 b0 e0,.slc f1 b1 e1,.slc f2 n e2,.slc f3 l.length (l.flatMap bH),.slc f4 b4 e4,.slc f5 b5 e5],.str s] (eF iD (eu (im l s) n 0))] ⟨bN (PI l s hn hl),bN (PJ l s hn hl),trivial⟩ rfl;have a:B 27 [.agg [.slc f0 b0 e0,.slc f1 b1 e1,.slc f2 n e2,.slc f3 l.length (l.flatMap bH),.slc f4 b4 e4,.slc f5 b5 e5],.str s]=some (eF iD (eu (il l s) n 0)):=hF.1 ();have b:B 28 [.agg [.slc f0 b0 e0,.slc f1 b1 e1,.slc f2 n e2,.slc f3 l.length (l.flatMap bH),.slc f4 b4 e4,.slc f5 b5 e5],.str s]=some (eF iD (eu (im l s) n 0)):=hF.2.1 ();refine ed hB Tryz.func29 (ord:=O0) (N:=N0) (by kernel_rfl) ((J4 _ _ _ _ _ _ _ _ _ _ _ _ _ _ _ _ _ _ _ _ _ _).trans ?_);rw[a,bq,dM,bI,b,bq,dM,bI];unfold my dr;cases (n:Int)==0 with
 |true=>rfl
 |false=>
  cases decide (((eu (il l s) n 0).length:Int)>0) with
  |true=>rfl
  |false=>cases decide (((eu (im l s) n 0).length:Int)>0)<;>rfl
end
end Go.Pd
end
