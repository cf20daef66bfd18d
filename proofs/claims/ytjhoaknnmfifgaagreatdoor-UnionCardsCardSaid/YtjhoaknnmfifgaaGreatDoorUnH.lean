import Derived.Test.YtjhoaknnmfifgaaGreatDoorUnG
import Derived.Laws.RangeString
import Derived.Laws.RangeAny
import Derived.Laws.StructEq
section
namespace Go.Pd
open Go Go.Proofs Go.RowKit
def gG(s:ByteArray):Bool:=ByteArray.toList s==ByteArray.toList (ByteArray.mk #[])
def sK(s:ByteArray):Bool:=ByteArray.toList s==ByteArray.toList (ByteArray.mk #[45])
def sL(s:ByteArray):Bool:=ByteArray.toList s==ByteArray.toList (ByteArray.mk #[120])
abbrev da:=Int×ByteArray
def cq(x:da):List D:=[.int .i64 x.1,.str x.2]
section
variable {γ:Type}(c:D→Option γ)
theorem n0(pre:List da)(x:da)(r:List da):bn ((pre++x::r).flatMap cq) (Int.toNat (pre.length:Int)*2+0) c=c (.int .i64 x.1):=dw pre x r cq 2 (fun _=>rfl) 0 (by omega) c
theorem n1(pre:List da)(x:da)(r:List da):bn ((pre++x::r).flatMap cq) (Int.toNat (pre.length:Int)*2+1) c=c (.str x.2):=dw pre x r cq 2 (fun _=>rfl) 1 (by omega) c
end
theorem yL(b:Bool)(e:Int):ce 110 [.bool b,.int .i64 e] (.int .i64 (bx b e 0)):=
 eA cx Tryz.func110 (ord:=O0) (N:=N0) (by kernel_rfl) ((DM _ _ _ b e).trans (by cases b<;>rfl))
def vY(x y:Int):Int:=bx (x !=0) x y
theorem Kc(x y:Int):ce 108 [.slc true 2 [.int .i64 x,.int .i64 y]] (.int .i64 (vY x y)):=by
 refine eA cx Tryz.func108 (ord:=O0) (N:=DL) (by kernel_rfl) ((yI _ _ _ _ _ _).trans ?_);rw[show LL=(4611686018427387901+1)+1+1 from rfl,eo,eo,eo];have h1:IntKind.wrap .i64 ((0:Int)+1)=1:=dJ (by omega);have h2:IntKind.wrap .i64 ((1:Int)+1)=2:=dJ (by omega);simp only[h1,h2];unfold vY;cases hx:(x !=0) with
 |true=>simp[bn,hx]
 |false=>
  cases hy:(y !=0) with
  |true=>simp[bn,hx,hy]
  |false=>
   have:y=0:=by simpa using hy
   simp[bn,hx,this]
def fR(c:Int):Bool:=(decide (c≥97)&&decide (c≤122))||(decide (c≥65)&&decide (c≤90))
def lM(s:ByteArray)(i:Nat):Bool:=fR (cR s i)||(i !=0&&((decide (cR s i≥48)&&decide (cR s i≤57))||cR s i==95))
def gH(s:ByteArray):Nat→Nat→Bool
 |0,_=>true
 |m+1,i=>lM s i&&gH s m (i+1)
def cQ(s:ByteArray):Bool:=bx (decide ((s.size:Int)<1)) false (bx (decide ((s.size:Int)>24)) false (gH s s.size 0))
theorem Mm{call:CL}{s:ByteArray}(hs:s.size≤24):∀(m i fuel:Nat),i+m=s.size→m<fuel→tN call LL C1 fuel s i=some (.bool (gH s m i)):=by
 intro m
 induction m with
 |zero=>
  intro i fuel hi hf;cases fuel with
  |zero=>exact absurd hf (Nat.not_lt_zero _)
  |succ fuel=>
   have h1:decide ((i:Int)<(s.size:Int))=false:=by simp;omega
   rw[sw,h1,bp];rfl
 |succ m ih=>
  intro i fuel hi hf;cases fuel with
  |zero=>exact absurd hf (Nat.not_lt_zero _)
  |succ fuel=>
   have h1:decide ((i:Int)<(s.size:Int))=true:=by simp;omega
   have h2:decide ((0:Int)≤i∧Int.toNat (i:Int)<s.size)=true:=by simp;omega
   have hw:IntKind.wrap .i64 ((i:Int)+1)=((i+1:Nat):Int):=by rw[dJ (by omega)];rfl
   have ih:=ih (i+1) fuel (by omega) (by omega);have h467:ji call LL C1 fuel s i=some (.bool (gH s m (i+1))):=by
    rw[xG _ _ _ _ _ _ (fun _=>rfl:∀t,C1 t=1),hw,ih]
   have h37:∀(c:Int) (b:Bool),gb call LL C1 fuel s i c b=some (.bool ((b||(i !=0&&((decide (c≥48)&&decide (c≤57))||c==95)))&&gH s m (i+1))):=fun c b=>by
    rw[vT _ _ _ _ _ _ _ _ (fun _=>rfl:∀t,C1 t=1),h467];have hz:((i:Int)==0)= !(i !=0):=by
     cases i<;>rfl
    rw[hz];generalize (i !=0)=q1;generalize decide (c≥48)=q2;generalize decide (c≤57)=q3;generalize (c==95)=q4;cases b<;>cases q1<;>cases q2<;>cases q3<;>cases q4<;>rfl
   rw[sw,h1,bq,h2,bv,h37,h37,h37,show Int.toNat (i:Int)=i by simp];show _=some (D.bool (lM s i&&gH s m (i+1)));unfold lM fR;generalize (i !=0&&((decide (cR s i≥48)&&decide (cR s i≤57))||cR s i==95))=q0;generalize decide (cR s i≥97)=q1;generalize decide (cR s i≤122)=q2;generalize decide (cR s i≥65)=q3;generalize decide (cR s i≤90)=q4;cases q1<;>cases q2<;>cases q3<;>cases q4<;>rfl
theorem Ke(s:ByteArray):ce 80 [.str s] (.bool (cQ s)):=by
 refine eA cx Tryz.func80 (ord:=O0) (N:=HS) (by kernel_rfl) ((GM _ _ _ s).trans ?_);unfold cQ;cases decide ((s.size:Int)<1) with
 |true=>rfl
 |false=>
  rw[bp,bp];cases h2:decide ((s.size:Int)>24) with
  |true=>rfl
  |false=>
   simp only[decide_eq_false_iff_not] at h2;rw[bp,bp,BZ _ _ _ _ (fun _=>rfl:∀t,C1 t=1)];exact Mm (by omega) s.size 0 LL (by omega) (by unfold LL;omega)
theorem Kf(c:Int):ce 167 [.int .i32 c] (.bool (fR c)):=by
 refine eA cx Tryz.func167 (ord:=O0) (N:=N0) (by kernel_rfl) ((DV _ _ _ c).trans ?_);unfold fR;cases decide (c≥97)<;>cases decide (c≤122)<;>cases decide (c≥65)<;>cases decide (c≤90)<;>rfl
def Eh:FuncId→List D→Option D:=fun k ds=>match k,ds with
 |167,[.int .i32 c]=>some (.bool (fR c))
 |_,_=>none
theorem Ei:eU Eh:=by
 intro k ds r h;unfold Eh at h;split at h
 ·cases h;exact Kf _
 ·cases h
theorem Kg(c:Int):Eh 167 [.int .i32 c]=some (.bool (fR c)):=rfl
theorem xM{s:ByteArray}{i:Nat}(h:i<s.size):cR s i=(s[i]'h).toNat:=by
 unfold cR;have:s[i]?=some s[i]:=by simp[h]
 rw[this]
theorem Kh{s:ByteArray}:∀(m i fuel:Nat),i+m=s.size→m<fuel→kn Eh LL C1 fuel s i=some (.bool (gH s m i&&(!(ByteArray.toList s==ByteArray.toList (ByteArray.mk #[]))&&decide ((s.size:Int)≤24)))):=by
 intro m
 induction m with
 |zero=>
  intro i fuel hi hf;cases fuel with
  |zero=>exact absurd hf (Nat.not_lt_zero _)
  |succ fuel=>
   have h1:decide (i<s.size)=false:=by simp;omega
   rw[qi,h1,bp];show _=some (D.bool (true&&_));cases (ByteArray.toList s==ByteArray.toList (ByteArray.mk #[]))<;>rfl
 |succ m ih=>
  intro i fuel hi hf;cases fuel with
  |zero=>exact absurd hf (Nat.not_lt_zero _)
  |succ fuel=>
   have hlt:i<s.size:=by omega
   have h1:decide (i<s.size)=true:=by simpa using hlt
   have hz:((i:Int)==0)= !(i !=0):=by cases i<;>rfl
   have hb:=xM hlt;rw[qi,h1,bq,Kg,bm,bA,hz];show _=some (D.bool ((lM s i&&gH s m (i+1))&&_));by_cases ha:(s[i]'hlt).toNat<128
   ·have hd:=decode_ascii s i hlt ha;rw[hd];dsimp only;rw[ih (i+1) fuel (by omega) (by omega)];unfold lM;rw[hb];have e1:(((s[i]'hlt).toNat:Int) !=95)= !(((s[i]'hlt).toNat:Int)==95):=rfl;have e2:decide (((s[i]'hlt).toNat:Int)≥48)= !decide (((s[i]'hlt).toNat:Int)<48):=by
     by_cases h:((s[i]'hlt).toNat:Int)<48
     ·rw[show decide (((s[i]'hlt).toNat:Int)<48)=true by simpa using h];simp;omega
     ·rw[show decide (((s[i]'hlt).toNat:Int)<48)=false by simpa using h];simp;omega
    have e3:decide (((s[i]'hlt).toNat:Int)≤57)= !decide (((s[i]'hlt).toNat:Int)>57):=by
     by_cases h:((s[i]'hlt).toNat:Int)>57
     ·rw[show decide (((s[i]'hlt).toNat:Int)>57)=true by simpa using h];simp;omega
     ·rw[show decide (((s[i]'hlt).toNat:Int)>57)=false by simpa using h];simp;omega
    rw[e1,e2,e3];generalize fR ((s[i]'hlt).toNat:Int)=q1;generalize (i !=0)=q2;generalize decide (((s[i]'hlt).toNat:Int)<48)=q3;generalize decide (((s[i]'hlt).toNat:Int)>57)=q4;generalize (((s[i]'hlt).toNat:Int)==95)=q5;generalize gH s m (i+1)=q6;cases q1<;>cases q2<;>cases q3<;>cases q4<;>cases q5<;>cases q6<;>rfl
   ·obtain⟨hd,_⟩:=decode_high s i hlt (by omega);generalize Utf8.decode s i=dd at hd;have l1:fR (dd.1:Int)=false:=by
     unfold fR;simp;omega
    have l2:((dd.1:Int) !=95)=true:=by simp;omega
    have l3:decide ((dd.1:Int)<48)=false:=by simp;omega
    have l4:decide ((dd.1:Int)>57)=true:=by simp;omega
    have n1:lM s i=false:=by
     unfold lM fR;rw[hb];simp;omega
    rw[l1,l2,l3,l4,n1];cases (i !=0)<;>rfl
theorem B7(s:ByteArray):(gH s s.size 0&&(!(ByteArray.toList s==ByteArray.toList (ByteArray.mk #[]))&&decide ((s.size:Int)≤24)))=cQ s:=by
 unfold cQ;have h0:(ByteArray.toList s==ByteArray.toList (ByteArray.mk #[]))=decide ((s.size:Int)<1):=by
  rw[ByteArray.toList_eq,ByteArray.toList_eq];have hsz:s.data.toList.length=s.size:=by rw[Array.length_toList];rfl
  by_cases h:(s.size:Int)<1
  ·rw[show decide ((s.size:Int)<1)=true by simpa using h];have:s.data.toList=[]:=List.eq_nil_of_length_eq_zero (by omega);rw[this];rfl
  ·rw[show decide ((s.size:Int)<1)=false by simpa using h];cases hl:s.data.toList with
   |nil=>rw[hl] at hsz;simp at hsz;omega
   |cons x l=>rfl
 rw[h0];have h2:decide ((s.size:Int)≤24)= !decide ((s.size:Int)>24):=by
  by_cases h:(s.size:Int)>24
  ·rw[show decide ((s.size:Int)>24)=true by simpa using h];simp;omega
  ·rw[show decide ((s.size:Int)>24)=false by simpa using h];simp;omega
 rw[h2];cases decide ((s.size:Int)<1)<;>cases decide ((s.size:Int)>24)<;>cases gH s s.size 0<;>rfl
theorem E1(s:ByteArray)(hs:s.size<4611686018427387904):ce 111 [.str s] (.bool (cQ s)):=by
 refine eA Ei Tryz.func111 (ord:=O0) (N:=GQ) (by kernel_rfl) ((DN _ _ _ s).trans ?_);rw[←B7];exact Kh s.size 0 LL (by omega) (by unfold LL;omega)
theorem Ki(x:Int):ce 284 [.int .i64 x] (.bool (decide (x≥1)&&decide (x≤99))):=
 eA cx Tryz.func284 (ord:=O0) (N:=N0) (by kernel_rfl) ((Eb _ _ _ x).trans (by cases decide (x≥1)<;>rfl))
theorem Kj(x:Int):ce 285 [.int .i64 x] (.bool (x==0)):=
 eA cx Tryz.func285 (ord:=O0) (N:=N0) (by kernel_rfl) ((Ec _ _ _ x).trans rfl)
theorem Kk:ce 231 [] Bm:=
 eA cx Tryz.func231 (ord:=O0) (N:=N0) (by kernel_rfl) ((Ed _ _ _).trans rfl)
def mQ(base:FuncId→List D→Option D):FuncId→List D→Option D:=fun k ds=>match Dm k ds with
 |some r=>some r
 |none=>base k ds
theorem B8{base:FuncId→List D→Option D}(hb:eU base):eU (mQ base):=by
 intro k ds r h;unfold mQ at h;split at h
 ·rename_i d hd;cases h;unfold Dm at hd;split at hd
  ·cases hd;exact Kk
  ·cases hd
 ·exact hb _ _ _ h
theorem zG{base:FuncId→List D→Option D}:∀k ds r,Dm k ds=some r→mQ base k ds=some r:=fun k ds r h=>by
 unfold mQ;rw[h]
theorem NA{base:FuncId→List D→Option D}(hb:eU base){f:FuncId}{fn:Func}(hf:Tryz.prog.funcs[f]?=some fn){ord:il}{N:bK}(hok:jQ Tryz.prog ord fn=true){ds:List D}{r:D}
  (he:bS (LT (mQ base) LL C1) ord N .canon fn ds=some r):ce f ds r:=
 pQ (Te:=LT (mQ base) LL C1) lG ⟨An (B8 hb),(fun _ _ h=>nomatch h),(fun _ _ _ h=>nomatch h),(fun _ _ hi=>nomatch hi)⟩ zG rfl (fun _ _ _ h=>by cases h) hf (by simp) hok he
def lg(s:ByteArray):Bool:=ByteArray.toList s==ByteArray.toList (ByteArray.mk #[99])
def dS(x:da):Int:=bx (gG x.2||lg x.2) (bx (decide (x.1<1)||decide (x.1>99)) 3 0) (bx (sL x.2||sK x.2) (bx (x.1 !=0) 3 0) 13)
theorem E2(x:da):ce 145 [.agg [.int .i64 x.1,.str x.2]] (.int .i64 (dS x)):=by
 refine eA cx Tryz.func145 (ord:=O0) (N:=N0) (by kernel_rfl) ((DQ _ _ _ x.1 x.2).trans ?_);unfold dS gG lg sL sK;generalize (ByteArray.toList x.2==ByteArray.toList (ByteArray.mk #[]))=q1;generalize (ByteArray.toList x.2==ByteArray.toList (ByteArray.mk #[99]))=q2;generalize (ByteArray.toList x.2==ByteArray.toList (ByteArray.mk #[120]))=q3;generalize (ByteArray.toList x.2==ByteArray.toList (ByteArray.mk #[45]))=q4;generalize decide (x.1<1)=q5;generalize decide (x.1>99)=q6;generalize (x.1 !=0)=q7;cases q1<;>cases q2<;>cases q3<;>cases q4<;>cases q5<;>cases q6<;>cases q7<;>rfl
def B9:FuncId→List D→Option D:=fun k ds=>match k,ds with
 |284,[.int .i64 x]=>some (.bool (decide (x≥1)&&decide (x≤99)))
 |285,[.int .i64 x]=>some (.bool (x==0))
 |110,[.bool b,.int .i64 e]=>some (.int .i64 (bx b e 0))
 |_,_=>none
theorem Ej:eU B9:=by
 intro k ds r h;unfold B9 at h;split at h
 ·cases h;exact Ki _
 ·cases h;exact Kj _
 ·cases h;exact yL _ _
 ·cases h
theorem Kl(x:Int):mQ B9 284 [.int .i64 x]=some (.bool (decide (x≥1)&&decide (x≤99))):=rfl
theorem Km(x:Int):mQ B9 285 [.int .i64 x]=some (.bool (x==0)):=rfl
theorem Kn(b:Bool)(e:Int):mQ B9 110 [.bool b,.int .i64 e]=some (.int .i64 (bx b e 0)):=rfl
theorem Ko(x:da):ce 168 [.agg [.int .i64 x.1,.str x.2]] (.int .i64 (dS x)):=by
 refine NA Ej Tryz.func168 (ord:=J5) (N:=N0) (by kernel_rfl) ((DW _ _ _ x.1 x.2).trans ?_);simp only[Kl,Km,Kn,bm,bA,bo];unfold dS gG lg sL sK;have e1:decide (x.1≥1)= !decide (x.1<1):=by
  by_cases h:x.1<1
  ·rw[show decide (x.1<1)=true by simpa using h];simp;omega
  ·rw[show decide (x.1<1)=false by simpa using h];simp;omega
 have e2:decide (x.1≤99)= !decide (x.1>99):=by
  by_cases h:x.1>99
  ·rw[show decide (x.1>99)=true by simpa using h];simp;omega
  ·rw[show decide (x.1>99)=false by simpa using h];simp;omega
 have e3:(x.1 !=0)= !(x.1==0):=rfl;rw[e1,e2,e3];generalize (ByteArray.toList x.2==ByteArray.toList (ByteArray.mk #[]))=q1;generalize (ByteArray.toList x.2==ByteArray.toList (ByteArray.mk #[99]))=q2;generalize (ByteArray.toList x.2==ByteArray.toList (ByteArray.mk #[120]))=q3;generalize (ByteArray.toList x.2==ByteArray.toList (ByteArray.mk #[45]))=q4;generalize decide (x.1<1)=q5;generalize decide (x.1>99)=q6;generalize (x.1==0)=q7;cases q1<;>cases q2<;>cases q3<;>cases q4<;>cases q5<;>cases q6<;>cases q7<;>rfl
def ep:List da→Int
 |[]=>0
 |x::r=>bx (dS x !=0) (dS x) (ep r)
def zH:FuncId→List D→Option D:=fun k ds=>match k,ds with
 |145,[.agg [.int .i64 x,.str s]]=>some (.int .i64 (dS (x,s)))
 |168,[.agg [.int .i64 x,.str s]]=>some (.int .i64 (dS (x,s)))
 |_,_=>none
theorem yM:eU zH:=by
 intro k ds r h;unfold zH at h;split at h
 ·rename_i x s;cases h;exact E2 (x,s)
 ·rename_i x s;cases h;exact Ko (x,s)
 ·cases h
theorem Kp(x:Int)(s:ByteArray):zH 145 [.agg [.int .i64 x,.str s]]=some (.int .i64 (dS (x,s))):=rfl
theorem Kq(x:Int)(s:ByteArray):zH 168 [.agg [.int .i64 x,.str s]]=some (.int .i64 (dS (x,s))):=rfl
theorem Ks{f:Bool}{n:Nat}:∀(r pre:List da) (fuel:Nat),(pre++r).length=n→n≤1000→r.length<fuel→oS zH LL C1 fuel f n ((pre++r).flatMap cq) (pre.length:Int)=some (.int .i64 (ep r)):=by
 intro r
 induction r with
 |nil=>
  intro pre fuel hn hB hf;cases fuel with
  |zero=>exact absurd hf (Nat.not_lt_zero _)
  |succ fuel=>
   subst hn;rw[qj,co,bp];rfl
 |cons x r ih=>
  intro pre fuel hn hB hf;cases fuel with
  |zero=>exact absurd hf (Nat.not_lt_zero _)
  |succ fuel=>
   have ih:=ih (pre++[x]) fuel (by rw[cJ];exact hn) hB (by simp at hf;omega);rw[cJ] at ih;subst hn;rw[qj,cD,bq,cB,bv,n0,bo,n1,bw,Kp,bm,bo,bZ pre x r (by omega),ih,show ep (x::r)=bx (dS x !=0) (dS x) (ep r) from rfl];show bx (dS x !=0) (some (D.int .i64 (dS x))) _=_;cases dS x !=0<;>rfl
theorem Kt{f:Bool}{n:Nat}:∀(r pre:List da) (fuel:Nat),(pre++r).length=n→n≤1000→r.length<fuel→oT zH LL C1 fuel f n ((pre++r).flatMap cq) n (pre.length:Int)=some (.int .i64 (ep r)):=by
 intro r
 induction r with
 |nil=>
  intro pre fuel hn hB hf;cases fuel with
  |zero=>exact absurd hf (Nat.not_lt_zero _)
  |succ fuel=>
   subst hn;rw[qk,co,bp];rfl
 |cons x r ih=>
  intro pre fuel hn hB hf;cases fuel with
  |zero=>exact absurd hf (Nat.not_lt_zero _)
  |succ fuel=>
   have ih:=ih (pre++[x]) fuel (by rw[cJ];exact hn) hB (by simp at hf;omega);rw[cJ] at ih;subst hn;rw[qk,cD,bq,cB,bv,n0,bo,n1,bw,Kq,bm,bo,bZ pre x r (by omega),ih,show ep (x::r)=bx (dS x !=0) (dS x) (ep r) from rfl];show bx (dS x !=0) (some (D.int .i64 (dS x))) _=_;cases dS x !=0<;>rfl
theorem Ku{f:Bool}(l:List da)(hl:l.length≤1000):ce 220 [.slc f l.length (l.flatMap cq)] (.int .i64 (ep l)):=by
 refine eA yM Tryz.func220 (ord:=O0) (N:=GR) (by kernel_rfl) ((DY _ _ _ _ _ _).trans ?_);exact Ks (f:=f) l [] LL rfl hl (by unfold LL;omega)
theorem Kv{f:Bool}(l:List da)(hl:l.length≤1000):ce 112 [.slc f l.length (l.flatMap cq)] (.int .i64 (ep l)):=by
 refine eA yM Tryz.func112 (ord:=O0) (N:=GS) (by kernel_rfl) ((DZ _ _ _ _ _ _).trans ?_);exact Kt (f:=f) l [] LL rfl hl (by unfold LL;omega)
def j5(n:Nat)(c:List D)(P S:Nat→Int):Prop:=∀i,i<n→c[i*2+0]?=some (.int .i64 (P i))∧c[i*2+1]?=some (.int .i64 (S i))
def Ht(n:Nat)(P S:Nat→Int)(i:Nat):Bool:=decide (P i<3)||decide (P i>6)||decide (S i<1)||decide (S i>n)
def nx(S:Nat→Int)(i:Nat):Nat→Nat→Bool
 |0,_=>false
 |m+1,k=>bx (S k==S i) true (nx S i m (k+1))
def oZ(n:Nat)(P S:Nat→Int)(i:Nat):Int:=bx (Ht n P S i) 3 (bx (nx S i i 0) 9 0)
def kB(n:Nat)(P S:Nat→Int):Nat→Nat→Int
 |0,_=>0
 |m+1,i=>bx (oZ n P S i !=0) (oZ n P S i) (kB n P S m (i+1))
def dK(n:Nat)(P S:Nat→Int):Int:=bx ((n:Int)==0) 12 (bx (decide ((n:Int)>36)) 5 (kB n P S n 0))
theorem yN{call:CL}{f:Bool}{n:Nat}{c:List D}{P:Nat→Int}{S:Nat→Int}(hc:j5 n c P S)(hn:n≤36)(fu:Nat)(i:Nat)(hi:i<n):∀(m k fuel:Nat),k+m=i→m<fuel→ko call LL C1 fu fuel f n c i k=bx (nx S i m k) (some (.int .i64 9)) (mA call LL C1 fu f n c ((i+1:Nat):Int))
 |0,k,fuel+1,h,_=>by
  rw[mB];have h1:decide ((k:Int)<i)=false:=by simp;omega
  rw[h1,bp,dJ (x:=(i:Int)+1) (by omega)];rfl
 |m+1,k,fuel+1,h,hf=>by
  rw[mB];have h1:decide ((k:Int)<i)=true:=by simp;omega
  have h2:decide ((0:Int)≤k∧(k:Int)<n)=true:=by simp;omega
  have h3:decide ((0:Int)≤i∧(i:Int)<n)=true:=by simp;omega
  rw[h1,h2,h3,bq,bv,cP (by simpa using (hc k (by omega)).2),bo,bv,cP (by simpa using (hc i hi).2),bo,dJ (by omega)];have:=yN (call:=call) (f:=f) (n:=n) (c:=c) (P:=P) (S:=S) hc hn fu i hi m (k+1) fuel (by omega) (by omega);rw[show((k:Int)+1)=((k+1:Nat):Int) from rfl,this];rw[show nx S i (m+1) k=bx (S k==S i) true (nx S i m (k+1)) from rfl];cases S k==S i<;>rfl
theorem yO{call:CL}{f:Bool}{n:Nat}{c:List D}{P:Nat→Int}{S:Nat→Int}(hc:j5 n c P S)(hn:n≤36):∀(m i fuel:Nat),i+m=n→m<fuel→mA call LL C1 fuel f n c i=some (.int .i64 (kB n P S m i))
 |0,i,fuel+1,h,_=>by
  rw[qm];have h1:decide ((i:Int)<n)=false:=by simp;omega
  rw[h1];rfl
 |m+1,i,fuel+1,h,hf=>by
  have hi:i<n:=by omega
  rw[qm];have h1:decide ((i:Int)<n)=true:=by simp;omega
  have h2:decide ((0:Int)≤i∧(i:Int)<n)=true:=by simp;omega
  have hp:=(hc i hi).1;have hs:=(hc i hi).2;have e1:Int.toNat (i:Int)=i:=by simp
  rw[vU _ _ _ _ _ _ _ _ (fun _=>rfl:∀t,C1 t=1)];have hin:=yN (call:=call) (f:=f) hc hn fuel i hi i 0 LL (by omega) (by unfold LL;omega);rw[show((0:Nat):Int)=0 from rfl] at hin;rw[hin,yO (call:=call) (f:=f) (n:=n) (c:=c) (P:=P) (S:=S) hc hn m (i+1) fuel (by omega) (by omega)];simp only[h1,h2,e1,bq,bv,cP hp,cP hs,bo];simp only[kB,oZ,Ht];generalize decide (P i<3)=q1;generalize decide (P i>6)=q2;generalize decide (S i<1)=q3;generalize decide (S i>(n:Int))=q4;generalize nx S i i 0=q5;cases q1<;>cases q2<;>cases q3<;>cases q4<;>cases q5<;>rfl
theorem Kw{f:Bool}{n:Nat}{c:List D}{P S:Nat→Int}(hc:j5 n c P S):ce 83 [.slc f n c] (.int .i64 (dK n P S)):=by
 refine eA cx Tryz.func83 (ord:=O0) (N:=J6) (by kernel_rfl) ((GT _ _ _ _ _ _).trans ?_);unfold dK;cases hn0:((n:Int)==0) with
 |true=>rw[bq,bq]
 |false=>
  cases hn:decide ((n:Int)>36) with
  |true=>rw[bp,bq,bp,bq]
  |false=>
   simp at hn;have:=yO (call:=fun _ _=>none) (f:=f) hc (by omega) n 0 LL (by omega) (by unfold LL;omega);rw[show((0:Nat):Int)=0 from rfl] at this;rw[bp,bp,bp,bp];exact this
def tX:FuncId→List D→Option D:=fun k ds=>match k,ds with
 |110,[.bool b,.int .i64 e]=>some (.int .i64 (bx b e 0))
 |108,[.slc true 2 [.int .i64 x,.int .i64 y]]=>some (.int .i64 (vY x y))
 |_,_=>none
theorem Ek:eU tX:=by
 intro k ds r h;unfold tX at h;split at h
 ·cases h;exact yL _ _
 ·cases h;exact Kc _ _
 ·cases h
def lh(S:Nat→Int):Nat→List D
 |0=>[]
 |i+1=>lh S i++[.int .i64 (S i)]
def eu:Nat→List D
 |0=>[]
 |i+1=>eu i++[.bool true]
theorem e9:∀(i j:Nat),j<i→(eu i)[j]?=some (.bool true)
 |i+1,j,h=>by
  have hl:∀i,(eu i).length=i:=fun i=>by induction i with
   |zero=>rfl
   |succ i ih=>simp[eu,ih]
  unfold eu;by_cases hj:j<i
  ·rw[zb5 (by rw[hl];exact hj)];exact e9 i j hj
  ·have:j=i:=by omega
   subst this;rw[zb4 (by rw[hl];omega),hl];simp
theorem sM(S:Nat→Int):∀i,(lh S i).length=i
 |0=>rfl
 |i+1=>by simp[lh,sM S i]
theorem qH(x:Int):∀(l:List Int) (i:Nat),(cE (.int .i64 x) (l.map (D.int .i64)) i=some none∧∀y∈l,y≠x)∨∃j,cE (.int .i64 x) (l.map (D.int .i64)) i=some (some (i+j))∧j<l.length∧∃y∈l,y=x
 |[],i=> .inl ⟨rfl,by simp⟩
 |y::l,i=>by
  have hk:ff (.int .i64 x) (.int .i64 y)=some (x==y):=by simp[ff]
  simp only[List.map_cons,cE,hk];cases hxy:(x==y) with
  |true=>
   have:x=y:=by simpa using hxy
   subst this;exact .inr ⟨0,rfl,by simp,x,by simp,rfl⟩
  |false=>
   have hne:x≠y:=by simpa using hxy
   rcases qH x l (i+1) with⟨h1,h2⟩|⟨j,h1,h2,z,h3,h4⟩
   ·exact .inl ⟨h1,fun z hz=>by rcases List.mem_cons.1 hz with rfl|hz;exact fun e=>hne e.symm;exact h2 z hz⟩
   ·exact .inr ⟨j+1,by rw[show i+(j+1)=i+1+j by omega];exact h1,by simp;exact h2,z,za3 _ h3,h4⟩
def ol(S:Nat→Int):Nat→List Int
 |0=>[]
 |i+1=>ol S i++[S i]
theorem qI(S:Nat→Int):∀i,lh S i=(ol S i).map (D.int .i64)
 |0=>rfl
 |i+1=>by simp[lh,ol,qI S i]
theorem ny(S:Nat→Int):∀(i:Nat) (y:Int),y∈ol S i↔∃k,k<i∧S k=y
 |0,y=>by simp[ol]
 |i+1,y=>by
  simp only[ol,za7,zc7,ny S i y];constructor
  ·rintro (⟨k,h1,h2⟩|rfl)
   ·exact⟨k,by omega,h2⟩
   ·exact⟨i,by omega,rfl⟩
  ·rintro ⟨k,h1,h2⟩
   by_cases hk:k<i
   ·exact .inl ⟨k,hk,h2⟩
   ·have:k=i:=by omega
    subst this;exact .inr h2.symm
theorem qJ(S:Nat→Int)(i:Nat):∀(m k:Nat),nx S i m k=true↔∃j,k≤j∧j<k+m∧S j=S i
 |0,k=>by simp[nx];intro j h1 h2;omega
 |m+1,k=>by
  rw[show nx S i (m+1) k=bx (S k==S i) true (nx S i m (k+1)) from rfl,FC];by_cases h:S k=S i
  ·simp only[h,BEq.rfl,if_true,true_iff];exact⟨k,by omega,by omega,h⟩
  ·have:(S k==S i)=false:=by simpa using h
   rw[this];simp only[Bool.false_eq_true,if_false,qJ S i m (k+1)];constructor
   ·rintro ⟨j,h1,h2,h3⟩;exact⟨j,by omega,by omega,h3⟩
   ·rintro ⟨j,h1,h2,h3⟩
    have:j≠k:=fun e=>h (e▸h3);exact⟨j,by omega,by omega,h3⟩
theorem zI(S:Nat→Int)(i:Nat):(cE (.int .i64 (S i)) (lh S i) 0=some none∧nx S i i 0=false)∨∃j,cE (.int .i64 (S i)) (lh S i) 0=some (some j)∧j<i∧nx S i i 0=true:=by
 rw[qI];have hl:(ol S i).length=i:=by have:=sM S i;rw[qI] at this;simpa using this
 rcases qH (S i) (ol S i) 0 with⟨h1,h2⟩|⟨j,h1,h2,y,h3,h4⟩
 ·refine .inl ⟨h1,?_⟩;cases hd:nx S i i 0 with
  |false=>rfl
  |true=>
   obtain⟨j,_,hj,hs⟩:=(qJ S i i 0).1 hd;exact absurd hs (h2 _ ((ny S i _).2 ⟨j,by omega,rfl⟩))
 ·refine .inr ⟨j,by simpa using h1,by omega,?_⟩;obtain⟨k,hk,hs⟩:=(ny S i y).1 h3;exact(qJ S i i 0).2 ⟨k,by omega,by omega,by rw[hs,h4]⟩
theorem vZ{f:Bool}{n:Nat}{c:List D}{P:Nat→Int}{S:Nat→Int}(hc:j5 n c P S)(hn:n≤36):∀(m i fuel:Nat),i+m=n→m<fuel→j3 tX LL C1 fuel f n c n i (lh S i) (eu i)=some (.int .i64 (kB n P S m i))
 |0,i,fuel+1,h,_=>by
  rw[nZ];have h1:decide ((i:Int)<n)=false:=by simp;omega
  rw[h1];rfl
 |m+1,i,fuel+1,h,hf=>by
  have hi:i<n:=by omega
  rw[nZ];have h1:decide ((i:Int)<n)=true:=by simp;omega
  have h2:decide ((0:Int)≤i∧(i:Int)<n)=true:=by simp;omega
  have hp:=(hc i hi).1;have hs:=(hc i hi).2;have e1:Int.toNat (i:Int)=i:=by simp
  have c110:∀(b:Bool) (e:Int),tX 110 [.bool b,.int .i64 e]=some (.int .i64 (bx b e 0)):=fun _ _=>rfl;have c108:∀(x y:Int),tX 108 [.slc true 2 [.int .i64 x,.int .i64 y]]=some (.int .i64 (vY x y)):=fun _ _=>rfl;have ih:=vZ (f:=f) (n:=n) (c:=c) (P:=P) (S:=S) hc hn m (i+1) fuel (by omega) (by omega);have hu:ff (.int .i64 (S i)) (.int .i64 (S i))=some true:=by simp[ff]
  have hw:IntKind.wrap .i64 ((i:Int)+1)=((i+1:Nat):Int):=by rw[dJ (by omega)];rfl
  have k31:∀(ve vx vx1:Int) (ks vs:List D),dz tX LL C1 fuel f n c n i ks vs ve vx vx1=bx (ve !=0) (some (.int .i64 ve)) (kE (iZ (.int .i64 vx1) (.bool true) ks vs) fun ks vs=>j3 tX LL C1 fuel f n c n ((i+1:Nat):Int) ks vs):=fun ve vx vx1 ks vs=>by
   rw[rh _ _ _ _ _ _ _ _ _ _ _ _ _ _ (fun _=>rfl:∀t,C1 t=1),rg _ _ _ _ _ _ _ _ _ _ _ _ _ (fun _=>rfl:∀t,C1 t=1),hw]
  simp only[h1,h2,e1,bq,bv,cP hp,cP hs,bo,c110,c108,bm,k31];simp only[kB,oZ,Ht];rcases zI S i with⟨f1,f2⟩|⟨j,f1,f2,f3⟩
  ·rw[f1,f2];have hup:iZ (.int .i64 (S i)) (.bool true) (lh S i) (eu i)=some (lh S (i+1),eu (i+1)):=by
    unfold iZ;rw[f1];rfl
   simp only[fS,hup,kE,ih,vY];generalize decide (P i<3)=q1;generalize decide (P i>6)=q2;generalize decide (S i<1)=q3;generalize decide (S i>(n:Int))=q4;cases q1<;>cases q2<;>cases q3<;>cases q4<;>rfl
  ·rw[f1,f3];simp only[fS,cP (e9 i j f2),bA,vY];generalize decide (P i<3)=q1;generalize decide (P i>6)=q2;generalize decide (S i<1)=q3;generalize decide (S i>(n:Int))=q4;cases q1<;>cases q2<;>cases q3<;>cases q4<;>rfl
theorem Ca{f:Bool}{n:Nat}{c:List D}{P S:Nat→Int}(hc:j5 n c P S):ce 109 [.slc f n c] (.int .i64 (dK n P S)):=by
 refine eA Ek Tryz.func109 (ord:=O0) (N:=B0) (by kernel_rfl) ((D0 _ _ _ _ _ _).trans ?_);have c110:∀(b:Bool) (e:Int),tX 110 [.bool b,.int .i64 e]=some (.int .i64 (bx b e 0)):=fun _ _=>rfl;have c108:∀(x y:Int),tX 108 [.slc true 2 [.int .i64 x,.int .i64 y]]=some (.int .i64 (vY x y)):=fun _ _=>rfl;simp only[c110,c108,bm,bo];unfold dK;cases hn0:((n:Int)==0) with
 |true=>
  simp only[bq];rfl
 |false=>
  cases hn:decide ((n:Int)>36) with
  |true=>
   simp only[bq,bp];rfl
  |false=>
   simp at hn;have:=vZ (f:=f) hc (by omega) n 0 LL (by omega) (by unfold LL;omega);rw[show((0:Nat):Int)=0 from rfl] at this;rw[show(vY (bx false (12:Int) 0) (bx false (5:Int) 0) !=0)=false from rfl,bp,bp,bp];exact this
def El(x y z w:Int):Int:=bx (x !=0) x (bx (y !=0) y (bx (z !=0) z w))
theorem Hu(x y z w:Int):ce 108 [.slc true 4 [.int .i64 x,.int .i64 y,.int .i64 z,.int .i64 w]] (.int .i64 (El x y z w)):=by
 refine eA cx Tryz.func108 (ord:=O0) (N:=DL) (by kernel_rfl) ((yI _ _ _ _ _ _).trans ?_);rw[show LL=(4611686018427387899+1)+1+1+1+1 from rfl,eo,eo,eo,eo,eo];have h1:IntKind.wrap .i64 ((0:Int)+1)=1:=dJ (by omega);have h2:IntKind.wrap .i64 ((1:Int)+1)=2:=dJ (by omega);have h3:IntKind.wrap .i64 ((2:Int)+1)=3:=dJ (by omega);have h4:IntKind.wrap .i64 ((3:Int)+1)=4:=dJ (by omega);simp only[h1,h2,h3,h4];unfold El;cases hx:(x !=0) with
 |true=>simp[bn,hx]
 |false=>
  cases hy:(y !=0) with
  |true=>simp[bn,hx,hy]
  |false=>
   cases hz:(z !=0) with
   |true=>simp[bn,hx,hy,hz]
   |false=>
    cases hw:(w !=0) with
    |true=>simp[bn,hx,hy,hz,hw]
    |false=>
     have:w=0:=by simpa using hw
     simp[bn,hx,hy,hz,this]
section
variable {f g:Bool}{n:Nat}{c:List D}{P S:Nat→Int}
def mR(n:Nat)(P S:Nat→Int)(s:ByteArray)(l:List da):Int:=El (dK n P S) (bx (!cQ s) 8 0) (bx ((l.length:Int) !=n) 2 0) (ep l)
theorem Mn(hc:j5 n c P S)(s:ByteArray)(l:List da)(hs:s.size<4611686018427387904)(hl:l.length≤1000):ce 41 [.slc f n c,.agg [.str s,.slc g l.length (l.flatMap cq)]] (.int .i64 (mR n P S s l)):=by
 have hb:eU (lB [(109,[.slc f n c],.int .i64 (dK n P S)),(111,[.str s],.bool (cQ s)),(112,[.slc g l.length (l.flatMap cq)],.int .i64 (ep l)),
   (108,[.slc true 4 [.int .i64 (dK n P S),.int .i64 (bx (!cQ s) 8 0),.int .i64 (bx ((l.length:Int) !=n) 2 0),.int .i64 (ep l)]],.int .i64 (mR n P S s l)),
   (110,[.bool (!cQ s),.int .i64 8],.int .i64 (bx (!cQ s) 8 0)),(110,[.bool ((l.length:Int) !=n),.int .i64 2],.int .i64 (bx ((l.length:Int) !=n) 2 0))]):=tF fun e he=>by
  simp only[List.mem_cons,List.not_mem_nil,or_false] at he;rcases he with rfl|rfl|rfl|rfl|rfl|rfl
  ·exact Ca hc
  ·exact E1 s hs
  ·exact Kv l hl
  ·exact Hu _ _ _ _
  ·exact yL _ _
  ·exact yL _ _
 refine eA hb Tryz.func41 (ord:=O0) (N:=N0) (by kernel_rfl) ((GU _ _ _ _ _ _ _ _ _ _).trans ?_);have n1:∀{a b:D} {x y:Int},x≠y→[a,D.int .i64 x]≠[b,D.int .i64 y]:=fun h e=>by simp at e;exact h e.2
 rw[fv,bm,bo,cM (by decide),fv,bm,bA,
  cM (by decide),cM (by decide),cM (by decide),cM (by decide),fv,bm,bo,
  cM (by decide),cM (by decide),cM (by decide),cM (by decide),xu (n1 (by decide)),fv,bm,bo,
  cM (by decide),cM (by decide),fv,bm,bo,
  cM (by decide),cM (by decide),cM (by decide),fv,bm,bo]
theorem Kx(hc:j5 n c P S)(s:ByteArray)(l:List da)(hl:l.length≤1000):ce 152 [.slc f n c,.agg [.str s,.slc g l.length (l.flatMap cq)]] (.int .i64 (mR n P S s l)):=by
 have hb:eU (lB [(83,[.slc f n c],.int .i64 (dK n P S)),(80,[.str s],.bool (cQ s)),(220,[.slc g l.length (l.flatMap cq)],.int .i64 (ep l))]):=tF fun e he=>by
  simp only[List.mem_cons,List.not_mem_nil,or_false] at he;rcases he with rfl|rfl|rfl
  ·exact Kw hc
  ·exact Ke s
  ·exact Ku l hl
 refine eA hb Tryz.func152 (ord:=O0) (N:=D1) (by kernel_rfl) ((D2 _ _ _ _ _ _ _ _ _ _).trans ?_);have h31:∀e,kp ((lB [(83,[.slc f n c],.int .i64 (dK n P S)),(80,[.str s],.bool (cQ s)),(220,[.slc g l.length (l.flatMap cq)],.int .i64 (ep l))])) LL C1 s g l.length (l.flatMap cq) e=some (.int .i64 (bx (e==0) (ep l) e)):=fun e=>by
  rw[xH _ _ _ _ _ _ _ _ (fun _=>rfl:∀t,C1 t=1),cM (by decide),cM (by decide),fv,bm,bo];cases e==0<;>rfl
 have h15:∀e,kq ((lB [(83,[.slc f n c],.int .i64 (dK n P S)),(80,[.str s],.bool (cQ s)),(220,[.slc g l.length (l.flatMap cq)],.int .i64 (ep l))])) LL C1 f n c s g l.length (l.flatMap cq) e=some (.int .i64 (bx (e==0) (bx ((l.length:Int) !=n) 2 (ep l)) e)):=fun e=>by
  rw[xI _ _ _ _ _ _ _ _ _ _ _ (fun _=>rfl:∀t,C1 t=1),h31,h31];cases he:e==0 with
  |true=>cases ((l.length:Int) !=n)<;>rfl
  |false=>rfl
 rw[fv,bm,bo,cM (by decide),fv,bm,bA,h15,h15];unfold mR El;cases hz:dK n P S==0 with
 |true=>
  have h0:dK n P S=0:=by simpa using hz
  rw[h0];cases cQ s<;>cases ((l.length:Int) !=n)<;>rfl
 |false=>
  have h0:(dK n P S !=0)=true:=by simpa using hz
  rw[h0];rfl
end
abbrev cY:=ByteArray×ByteArray×Int
abbrev ci:=ByteArray×ByteArray×Int×da
abbrev jz:=Int×Int
abbrev CrdV:=ByteArray×Bool×List da
abbrev KepV:=ByteArray×(Bool×List jz)×(Bool×List CrdV)
def br(l:List ByteArray):List D:=l.map D.str
def bJ(m:cY):List D:=[.str m.1,.str m.2.1,.int .i64 m.2.2]
def bD(m:ci):List D:=[.str m.1,.str m.2.1,.int .i64 m.2.2.1,.int .i64 m.2.2.2.1,.str m.2.2.2.2]
def bN(h:jz):List D:=[.int .i64 h.1,.int .i64 h.2]
def jq(c:CrdV):List D:=[.str c.1,.slc c.2.1 c.2.2.length (c.2.2.flatMap cq)]
def bM(k:KepV):List D:=[.str k.1,.slc k.2.1.1 k.2.1.2.length (k.2.1.2.flatMap bN),.slc k.2.2.1 k.2.2.2.length (k.2.2.2.flatMap jq)]
structure UV where
 (cf mf hf kf sf pf:Bool)
 cl:List ByteArray
 me:List cY
 ho:List jz
 mr:List ci
 sg:List ByteArray
 pa:List KepV
def j6(u:UV):D:= .agg [.slc u.cf u.cl.length (br u.cl),.slc u.mf u.me.length (u.me.flatMap bJ),.slc u.hf u.ho.length (u.ho.flatMap bN),.slc u.kf u.mr.length (u.mr.flatMap bD),.slc u.sf u.sg.length (br u.sg),.slc u.pf u.pa.length (u.pa.flatMap bM)]
def UV.Fit(u:UV):Prop:=u.cl.length≤100000∧u.me.length≤100000∧u.ho.length≤100000∧u.mr.length≤100000∧u.sg.length≤100000∧u.pa.length≤100000
def db(a b:ByteArray):Bool:=ByteArray.toList a==ByteArray.toList b
theorem qK(a b:ByteArray):db a b=db b a:=by
 unfold db;rw[Bool.eq_iff_iff,zd5,zd5];exact⟨Eq.symm,Eq.symm⟩
theorem sEq_iff{a b:ByteArray}:db a b=true↔a=b:=by
 unfold db;rw[zd5,ByteArray.toList_eq,ByteArray.toList_eq];constructor
 ·intro h;apply ByteArray.ext;exact Array.toList_inj.1 h
 ·intro h;rw[h]
def jA{α:Type}(p:α→Bool):List α→Nat→Int
 |[],_=> -1
 |x::r,i=>bx (p x) (i:Int) (jA p r (i+1))
def ix{α:Type}(p:α→Bool)(l:List α):Int:=jA p l 0
theorem sN{α:Type}(p:α→Bool):∀(l:List α) (i:Nat),(l.find? p=none∧jA p l i= -1)∨∃j x,j<l.length∧l[j]?=some x∧l.find? p=some x∧jA p l i=((i+j:Nat):Int)
 |[],i=> .inl ⟨rfl,rfl⟩
 |x::r,i=>by
  rw[show jA p (x::r) i=bx (p x) (i:Int) (jA p r (i+1)) from rfl];cases hp:p x with
  |true=>exact .inr ⟨0,x,by simp,rfl,by simp[hp],rfl⟩
  |false=>
   rw[bp];rcases sN p r (i+1) with⟨h1,h2⟩|⟨j,y,h1,h2,h3,h4⟩
   ·exact .inl ⟨by simp[hp,h1],h2⟩
   ·exact .inr ⟨j+1,y,by simp;exact h1,by simpa using h2,by simp[hp,h3],by rw[h4];congr 1;omega⟩
theorem jr{α:Type}(p:α→Bool)(l:List α):(l.find? p=none∧ix p l= -1)∨∃j x,j<l.length∧l[j]?=some x∧l.find? p=some x∧ix p l=(j:Int):=by
 rcases sN p l 0 with h|⟨j,x,h1,h2,h3,h4⟩
 ·exact .inl h
 ·exact .inr ⟨j,x,h1,h2,h3,by rw[show ix p l=jA p l 0 from rfl,h4,Nat.zero_add]⟩
theorem Cb{α:Type}(p:α→Bool)(l:List α):decide (ix p l≥0)=l.any p:=by
 rcases jr p l with⟨h1,h2⟩|⟨j,x,h1,h2,h3,h4⟩
 ·rw[h2];have:l.any p=false:=by
   cases h:l.any p with
   |false=>rfl
   |true=>
    obtain⟨x,hx,hp⟩:=List.any_eq_true.1 h;exact absurd hp (List.find?_eq_none.1 h1 x hx)
  rw[this];rfl
 ·rw[h4];have:l.any p=true:=List.any_eq_true.2 ⟨x,List.mem_of_find?_eq_some h3,List.find?_some h3⟩;rw[this];simp
theorem Hv{α:Type}(p:α→Bool)(l:List α):decide (ix p l<0)= !l.any p:=by
 rw[←Cb];by_cases h:ix p l<0
 ·rw[show decide (ix p l<0)=true by simpa using h];have:decide (ix p l≥0)=false:=by simp;omega
  rw[this];rfl
 ·rw[show decide (ix p l<0)=false by simpa using h];have:decide (ix p l≥0)=true:=by simp;omega
  rw[this];rfl
section
variable {γ:Type}(c:D→Option γ)
theorem HT(pre:List cY)(x:cY)(r:List cY):bn ((pre++x::r).flatMap bJ) (Int.toNat (pre.length:Int)*3+0) c=c (.str x.1):=dw pre x r bJ 3 (fun _=>rfl) 0 (by omega) c
theorem m1(pre:List cY)(x:cY)(r:List cY):bn ((pre++x::r).flatMap bJ) (Int.toNat (pre.length:Int)*3+1) c=c (.str x.2.1):=dw pre x r bJ 3 (fun _=>rfl) 1 (by omega) c
theorem m2(pre:List cY)(x:cY)(r:List cY):bn ((pre++x::r).flatMap bJ) (Int.toNat (pre.length:Int)*3+2) c=c (.int .i64 x.2.2):=dw pre x r bJ 3 (fun _=>rfl) 2 (by omega) c
theorem k0(pre:List ci)(x:ci)(r:List ci):bn ((pre++x::r).flatMap bD) (Int.toNat (pre.length:Int)*5+0) c=c (.str x.1):=dw pre x r bD 5 (fun _=>rfl) 0 (by omega) c
theorem k1(pre:List ci)(x:ci)(r:List ci):bn ((pre++x::r).flatMap bD) (Int.toNat (pre.length:Int)*5+1) c=c (.str x.2.1):=dw pre x r bD 5 (fun _=>rfl) 1 (by omega) c
theorem k2(pre:List ci)(x:ci)(r:List ci):bn ((pre++x::r).flatMap bD) (Int.toNat (pre.length:Int)*5+2) c=c (.int .i64 x.2.2.1):=dw pre x r bD 5 (fun _=>rfl) 2 (by omega) c
theorem k3(pre:List ci)(x:ci)(r:List ci):bn ((pre++x::r).flatMap bD) (Int.toNat (pre.length:Int)*5+3) c=c (.int .i64 x.2.2.2.1):=dw pre x r bD 5 (fun _=>rfl) 3 (by omega) c
theorem k4(pre:List ci)(x:ci)(r:List ci):bn ((pre++x::r).flatMap bD) (Int.toNat (pre.length:Int)*5+4) c=c (.str x.2.2.2.2):=dw pre x r bD 5 (fun _=>rfl) 4 (by omega) c
theorem p0(pre:List KepV)(x:KepV)(r:List KepV):bn ((pre++x::r).flatMap bM) (Int.toNat (pre.length:Int)*3+0) c=c (.str x.1):=dw pre x r bM 3 (fun _=>rfl) 0 (by omega) c
theorem t0(pre:List ByteArray)(x:ByteArray)(r:List ByteArray):bn (br (pre++x::r)) (Int.toNat (pre.length:Int)*1) c=c (.str x):=vB pre x r D.str c
end
section
variable {f0 f1 f2 f3 f4 f5:Bool}{b0 b1 b2 b3 b4 b5:Nat}{e0 e1 e2 e3 e4 e5:List D}
theorem Mo{call:CL}{n:Nat}(s:ByteArray):∀(r pre:List cY) (fuel:Nat),(pre++r).length=n→n≤100000→r.length<fuel→
  tP call LL C1 fuel s f0 b0 e0 f1 n ((pre++r).flatMap bJ) f2 b2 e2 f3 b3 e3 f4 b4 e4 f5 b5 e5 (pre.length:Int)=some (.int .i64 (jA (fun m=>db m.1 s) r pre.length)):=by
 intro r
 induction r with
 |nil=>
  intro pre fuel hn hB hf;cases fuel with
  |zero=>exact absurd hf (Nat.not_lt_zero _)
  |succ fuel=>
   subst hn;rw[sy,co,bp];rfl
 |cons x r ih=>
  intro pre fuel hn hB hf;cases fuel with
  |zero=>exact absurd hf (Nat.not_lt_zero _)
  |succ fuel=>
   have ih:=ih (pre++[x]) fuel (by rw[cJ];exact hn) hB (by simp at hf;omega);rw[cJ] at ih;subst hn;rw[sy,cD,bq,cB,bv,HT,bw,bZ pre x r (by omega),ih,show(pre++[x]).length=pre.length+1 by simp];show bx (db x.1 s) _ _=some (D.int .i64 (bx (db x.1 s) _ _));cases db x.1 s<;>rfl
theorem Ky{call:CL}{n:Nat}(s:ByteArray):∀(r pre:List KepV) (fuel:Nat),(pre++r).length=n→n≤100000→r.length<fuel→
  oY call LL C1 fuel s f0 b0 e0 f1 b1 e1 f2 b2 e2 f3 b3 e3 f4 b4 e4 f5 n ((pre++r).flatMap bM) (pre.length:Int)=some (.int .i64 (jA (fun k=>db k.1 s) r pre.length)):=by
 intro r
 induction r with
 |nil=>
  intro pre fuel hn hB hf;cases fuel with
  |zero=>exact absurd hf (Nat.not_lt_zero _)
  |succ fuel=>
   subst hn;rw[qr,co,bp];rfl
 |cons x r ih=>
  intro pre fuel hn hB hf;cases fuel with
  |zero=>exact absurd hf (Nat.not_lt_zero _)
  |succ fuel=>
   have ih:=ih (pre++[x]) fuel (by rw[cJ];exact hn) hB (by simp at hf;omega);rw[cJ] at ih;subst hn;rw[qr,cD,bq,cB,bv,p0,bw,bZ pre x r (by omega),ih,show(pre++[x]).length=pre.length+1 by simp];show bx (db x.1 s) _ _=some (D.int .i64 (bx (db x.1 s) _ _));cases db x.1 s<;>rfl
def iJ(p:ByteArray)(h:Int)(own:Bool)(m:ci):Bool:=db m.1 p&&(m.2.2.1==h&&(db m.2.1 m.1==own))
theorem Mp{call:CL}{n:Nat}(s:ByteArray)(h:Int)(own:Bool):∀(r pre:List ci) (fuel:Nat),(pre++r).length=n→n≤100000→r.length<fuel→
  nu call LL C1 fuel s h own f0 b0 e0 f1 b1 e1 f2 b2 e2 f3 n ((pre++r).flatMap bD) f4 b4 e4 f5 b5 e5 (pre.length:Int)=some (.int .i64 (jA (iJ s h own) r pre.length)):=by
 intro r
 induction r with
 |nil=>
  intro pre fuel hn hB hf;cases fuel with
  |zero=>exact absurd hf (Nat.not_lt_zero _)
  |succ fuel=>
   subst hn;rw[sB,co,bp];rfl
 |cons x r ih=>
  intro pre fuel hn hB hf;cases fuel with
  |zero=>exact absurd hf (Nat.not_lt_zero _)
  |succ fuel=>
   have ih:=ih (pre++[x]) fuel (by rw[cJ];exact hn) hB (by simp at hf;omega);rw[cJ] at ih;subst hn;rw[sB,cD,bq,cB,bv,k0,bw,k1,bw,k2,bo,k3,bo,k4,bw,bZ pre x r (by omega),ih,show(pre++[x]).length=pre.length+1 by simp];show bx (db x.1 s) (bx (x.2.2.1==h) (bx (db x.2.1 s==own) _ _) _) _=some (D.int .i64 (bx (iJ s h own x) _ _));unfold iJ;cases h1:db x.1 s with
   |false=>rfl
   |true=>
    rw[sEq_iff.1 h1];cases x.2.2.1==h<;>cases (db x.2.1 s==own)<;>rfl
theorem Em(l:List cY)(s:ByteArray)(hl:l.length≤100000):ce 23 [.agg [.slc f0 b0 e0,.slc f1 l.length (l.flatMap bJ),.slc f2 b2 e2,.slc f3 b3 e3,.slc f4 b4 e4,.slc f5 b5 e5],.str s] (.int .i64 (ix (fun m=>db m.1 s) l)):=
 eA cx Tryz.func23 (ord:=O0) (N:=Mb) (by kernel_rfl) ((GO _ _ _ _ _ _ _ _ _ _ _ _ _ _ _ _ _ _ _ _ _ _).trans (Mo s l [] LL rfl hl (by unfold LL;omega)))
theorem Kz(l:List KepV)(s:ByteArray)(hl:l.length≤100000):ce 151 [.agg [.slc f0 b0 e0,.slc f1 b1 e1,.slc f2 b2 e2,.slc f3 b3 e3,.slc f4 b4 e4,.slc f5 l.length (l.flatMap bM)],.str s] (.int .i64 (ix (fun m=>db m.1 s) l)):=
 eA cx Tryz.func151 (ord:=O0) (N:=G0) (by kernel_rfl) ((Ea _ _ _ _ _ _ _ _ _ _ _ _ _ _ _ _ _ _ _ _ _ _).trans (Ky s l [] LL rfl hl (by unfold LL;omega)))
theorem KA(l:List ci)(s:ByteArray)(h:Int)(own:Bool)(hl:l.length≤100000):ce 95 [.agg [.slc f0 b0 e0,.slc f1 b1 e1,.slc f2 b2 e2,.slc f3 l.length (l.flatMap bD),.slc f4 b4 e4,.slc f5 b5 e5],.str s,.int .i64 h,.bool own] (.int .i64 (ix (iJ s h own) l)):=
 eA cx Tryz.func95 (ord:=O0) (N:=Md) (by kernel_rfl) ((GY _ _ _ _ _ _ _ _ _ _ _ _ _ _ _ _ _ _ _ _ _ _ _ _).trans (Mp s h own l [] LL rfl hl (by unfold LL;omega)))
end
theorem KB(a b:ByteArray)(h:Int)(s:ByteArray):ce 222 [.agg [.str a,.str b,.int .i64 h],.snap [.str s] 0] (.bool (db a s)):=
 eA cx Tryz.func222 (ord:=O0) (N:=N0) (by kernel_rfl) ((D5 _ _ _ a b h s).trans rfl)
theorem KC(m:ci):ce 153 [.agg (bD m)] (.bool (db m.2.1 m.1)):=
 eA cx Tryz.func153 (ord:=O0) (N:=N0) (by kernel_rfl) ((DS _ _ _ m.1 m.2.1 m.2.2.1 m.2.2.2.1 m.2.2.2.2).trans rfl)
def fa153:Fam:=⟨153,ci,fun m=>[.agg (bD m)],fun m=> .bool (db m.2.1 m.1)⟩
theorem v6{m m':ci}(h:bD m=bD m'):m=m':=by
 obtain⟨a,b,c,d,e⟩:=m;obtain⟨a',b',c',d',e'⟩:=m';simp[bD] at h;simp[h]
theorem Cc{m m':cY}(h:bJ m=bJ m'):m=m':=by
 obtain⟨a,b,c⟩:=m;obtain⟨a',b',c'⟩:=m';simp[bJ] at h;simp[h]
theorem qL:fa153.Good:=⟨KC,fun i j h=>by
 have h:[D.agg (bD i)]=[D.agg (bD j)]:=h;simp only[zc1,and_true,D.agg.injEq] at h;rw[v6 h]⟩
theorem KD(m:ci)(s:ByteArray)(h:Int)(own:Bool):ce 276 [.agg (bD m),.snap [.str s] 0,.snap [.int .i64 h] 0,.snap [.bool own] 0] (.bool (iJ s h own m)):=by
 obtain⟨B,hB,hF⟩:=j2 [fa153] ⟨qL,trivial⟩ rfl;have e:B 153 [.agg [.str m.1,.str m.2.1,.int .i64 m.2.2.1,.int .i64 m.2.2.2.1,.str m.2.2.2.2]]=some (.bool (db m.2.1 m.1)):=hF.1 m;refine eA hB Tryz.func276 (ord:=O0) (N:=N0) (by kernel_rfl) ((D7 _ _ _ m.1 m.2.1 m.2.2.1 m.2.2.2.1 m.2.2.2.2 s h own).trans ?_);rw[e,bm,bA];show bx (db m.1 s) _ _=some (D.bool (db m.1 s&&_));cases db m.1 s<;>cases m.2.2.1==h<;>rfl
def E3(s:ByteArray)(h:Int)(own:Bool):Fam:=⟨276,ci,fun m=>[.agg (bD m),.snap [.str s] 0,.snap [.int .i64 h] 0,.snap [.bool own] 0],fun m=> .bool (iJ s h own m)⟩
theorem xN(s:ByteArray)(h:Int)(own:Bool):(E3 s h own).Good:=⟨fun m=>KD m s h own,fun i j e=>by
 have e:[D.agg (bD i),D.snap [D.str s] 0,D.snap [D.int .i64 h] 0,D.snap [D.bool own] 0]=[D.agg (bD j),D.snap [D.str s] 0,D.snap [D.int .i64 h] 0,D.snap [D.bool own] 0]:=e;simp only[zc1,and_true,D.agg.injEq] at e;rw[v6 e]⟩
def E4(s:ByteArray):Fam:=⟨222,cY,fun m=>[.agg (bJ m),.snap [.str s] 0],fun m=> .bool (db m.1 s)⟩
theorem xO(s:ByteArray):(E4 s).Good:=⟨fun m=>KB m.1 m.2.1 m.2.2 s,fun i j e=>by
 have e:[D.agg (bJ i),D.snap [D.str s] 0]=[D.agg (bJ j),D.snap [D.str s] 0]:=e;simp only[zc1,and_true,D.agg.injEq] at e;rw[Cc e]⟩
theorem KE{B:FuncId→List D→Option D}{f:Bool}{n:Nat}(s:ByteArray)(hF:∀m:cY,B 222 [.agg [.str m.1,.str m.2.1,.int .i64 m.2.2],.snap [.str s] 0]=some (.bool (db m.1 s))):∀(r pre:List cY) (fuel:Nat),(pre++r).length=n→n≤100000→r.length<fuel→
  oV B LL C1 fuel f n ((pre++r).flatMap bJ) s n (pre.length:Int)=some (.int .i64 (jA (fun m=>db m.1 s) r pre.length)):=by
 intro r
 induction r with
 |nil=>
  intro pre fuel hn hB hf;cases fuel with
  |zero=>exact absurd hf (Nat.not_lt_zero _)
  |succ fuel=>
   subst hn;rw[qo,co,bp];rfl
 |cons x r ih=>
  intro pre fuel hn hB hf;cases fuel with
  |zero=>exact absurd hf (Nat.not_lt_zero _)
  |succ fuel=>
   have ih:=ih (pre++[x]) fuel (by rw[cJ];exact hn) hB (by simp at hf;omega);rw[cJ] at ih;subst hn;rw[qo,cD,bq,cB,bv,HT,bw,m1,bw,m2,bo,hF x,bm,bA,bZ pre x r (by omega),ih,show(pre++[x]).length=pre.length+1 by simp];show bx (db x.1 s) _ _=some (D.int .i64 (bx (db x.1 s) _ _));cases db x.1 s<;>rfl
theorem KF{B:FuncId→List D→Option D}{f:Bool}{n:Nat}(s:ByteArray)(h:Int)(own:Bool)(hF:∀m:ci,B 276 [.agg [.str m.1,.str m.2.1,.int .i64 m.2.2.1,.int .i64 m.2.2.2.1,.str m.2.2.2.2],.snap [.str s] 0,.snap [.int .i64 h] 0,.snap [.bool own] 0]=some (.bool (iJ s h own m))):∀(r pre:List ci) (fuel:Nat),(pre++r).length=n→n≤100000→r.length<fuel→
  oW B LL C1 fuel f n ((pre++r).flatMap bD) s h own n (pre.length:Int)=some (.int .i64 (jA (iJ s h own) r pre.length)):=by
 intro r
 induction r with
 |nil=>
  intro pre fuel hn hB hf;cases fuel with
  |zero=>exact absurd hf (Nat.not_lt_zero _)
  |succ fuel=>
   subst hn;rw[qp,co,bp];rfl
 |cons x r ih=>
  intro pre fuel hn hB hf;cases fuel with
  |zero=>exact absurd hf (Nat.not_lt_zero _)
  |succ fuel=>
   have ih:=ih (pre++[x]) fuel (by rw[cJ];exact hn) hB (by simp at hf;omega);rw[cJ] at ih;subst hn;rw[qp,cD,bq,cB,bv,k0,bw,k1,bw,k2,bo,k3,bo,k4,bw,hF x,bm,bA,bZ pre x r (by omega),ih,show(pre++[x]).length=pre.length+1 by simp];show bx (iJ s h own x) _ _=some (D.int .i64 (bx (iJ s h own x) _ _));cases iJ s h own x<;>rfl
theorem KG{f:Bool}(l:List cY)(s:ByteArray)(hl:l.length≤100000):ce 221 [.slc f l.length (l.flatMap bJ),.fn (.func 222) [] [.snap [.str s] 0]] (.int .i64 (ix (fun m=>db m.1 s) l)):=by
 obtain⟨B,hB,hF⟩:=j2 [E4 s] ⟨xO s,trivial⟩ rfl;exact eA hB Tryz.func221 (ord:=O0) (N:=GW) (by kernel_rfl) ((D4 _ _ _ _ _ _ _).trans (KE s hF.1 l [] LL rfl hl (by unfold LL;omega)))
theorem KH{f:Bool}(l:List ci)(s:ByteArray)(h:Int)(own:Bool)(hl:l.length≤100000):ce 275 [.slc f l.length (l.flatMap bD),.fn (.func 276) [] [.snap [.str s] 0,.snap [.int .i64 h] 0,.snap [.bool own] 0]] (.int .i64 (ix (iJ s h own) l)):=by
 obtain⟨B,hB,hF⟩:=j2 [E3 s h own] ⟨xN s h own,trivial⟩ rfl;exact eA hB Tryz.func275 (ord:=O0) (N:=GX) (by kernel_rfl) ((D6 _ _ _ _ _ _ _ _ _).trans (KF s h own hF.1 l [] LL rfl hl (by unfold LL;omega)))
section
variable {f0 f1 f2 f3 f4 f5:Bool}{b0 b1 b2 b3 b4 b5:Nat}{e0 e1 e2 e3 e4 e5:List D}
theorem E5(l:List cY)(s:ByteArray)(hl:l.length≤100000):ce 154 [.agg [.slc f0 b0 e0,.slc f1 l.length (l.flatMap bJ),.slc f2 b2 e2,.slc f3 b3 e3,.slc f4 b4 e4,.slc f5 b5 e5],.str s] (.int .i64 (ix (fun m=>db m.1 s) l)):=by
 obtain⟨B,hB,hF⟩:=j2 [one 221 [.slc f1 l.length (l.flatMap bJ),.fn (.func 222) [] [.snap [.str s] 0]] (.int .i64 (ix (fun m=>db m.1 s) l))] ⟨bL (KG l s hl),trivial⟩ rfl;refine eA hB Tryz.func154 (ord:=O0) (N:=N0) (by kernel_rfl) ((DT _ _ _ _ _ _ _ _ _ _ _ _ _ _ _ _ _ _ _ _ _ _).trans ?_);rw[show B 221 [.slc f1 l.length (l.flatMap bJ),.fn (.func 222) [] [.snap [.str s] 0]]=_ from hF.1 (),bm];rfl
theorem KI(l:List ci)(s:ByteArray)(h:Int)(own:Bool)(hl:l.length≤100000):ce 224 [.agg [.slc f0 b0 e0,.slc f1 b1 e1,.slc f2 b2 e2,.slc f3 l.length (l.flatMap bD),.slc f4 b4 e4,.slc f5 b5 e5],.str s,.int .i64 h,.bool own] (.int .i64 (ix (iJ s h own) l)):=by
 obtain⟨B,hB,hF⟩:=j2 [one 275 [.slc f3 l.length (l.flatMap bD),.fn (.func 276) [] [.snap [.str s] 0,.snap [.int .i64 h] 0,.snap [.bool own] 0]] (.int .i64 (ix (iJ s h own) l))] ⟨bL (KH l s h own hl),trivial⟩ rfl;refine eA hB Tryz.func224 (ord:=O0) (N:=N0) (by kernel_rfl) ((D8 _ _ _ _ _ _ _ _ _ _ _ _ _ _ _ _ _ _ _ _ _ _ _ _).trans ?_);rw[show B 275 [.slc f3 l.length (l.flatMap bD),.fn (.func 276) [] [.snap [.str s] 0,.snap [.int .i64 h] 0,.snap [.bool own] 0]]=_ from hF.1 (),bm];rfl
def g8(l:List ci)(s:ByteArray)(h:Int)(own:Bool):da×Bool:=match l.find? (iJ s h own) with
 |some m=>(m.2.2.2,true)
 |none=>((0,ByteArray.mk #[45]),false)
theorem KJ(l:List ci)(s:ByteArray)(h:Int)(own:Bool)(hl:l.length≤100000):ce 156 [.agg [.slc f0 b0 e0,.slc f1 b1 e1,.slc f2 b2 e2,.slc f3 l.length (l.flatMap bD),.slc f4 b4 e4,.slc f5 b5 e5],.str s,.int .i64 h,.bool own] (.tup [.agg (cq (g8 l s h own).1),.bool (g8 l s h own).2]):=by
 obtain⟨B,hB,hF⟩:=j2 [one 224 [.agg [.slc f0 b0 e0,.slc f1 b1 e1,.slc f2 b2 e2,.slc f3 l.length (l.flatMap bD),.slc f4 b4 e4,.slc f5 b5 e5],.str s,.int .i64 h,.bool own] (.int .i64 (ix (iJ s h own) l))] ⟨bL (KI l s h own hl),trivial⟩ rfl;have e:B 224 [.agg [.slc f0 b0 e0,.slc f1 b1 e1,.slc f2 b2 e2,.slc f3 l.length (l.flatMap bD),.slc f4 b4 e4,.slc f5 b5 e5],.str s,.int .i64 h,.bool own]=some (.int .i64 (ix (iJ s h own) l)):=hF.1 ();refine eA hB Tryz.func156 (ord:=O0) (N:=N0) (by kernel_rfl) ((Ee _ _ _ _ _ _ _ _ _ _ _ _ _ _ _ _ _ _ _ _ _ _ _ _).trans ?_);rw[e,bm,bo];unfold g8;rcases jr (iJ s h own) l with⟨h1,h2⟩|⟨j,x,h1,h2,h3,h4⟩
 ·rw[h1,h2];rfl
 ·rw[h3,h4];obtain⟨pre,r,rfl,rfl⟩:∃pre r,l=pre++x::r∧pre.length=j:=by
   refine⟨l.take j,l.drop (j+1),?_,by simp;omega⟩;have:x=l[j]:=by
    have:=zc8 h1;rw[this] at h2;exact(Option.some.inj h2).symm
   rw[this,List.getElem_cons_drop,List.take_append_drop]
  have e1:decide ((pre.length:Int)<0)=false:=by simp
  rw[e1,bp,cB,bv];have q3:=k3 (γ:=D) (fun d=>bC IntKind.i64 d fun x_1=>bn ((pre++x::r).flatMap bD) (Int.toNat (pre.length:Int)*5+3+1) fun d_1=>bX d_1 fun s=>some (D.tup [D.agg [D.int IntKind.i64 x_1,D.str s],D.bool true])) pre x r;refine q3.trans ?_;rw[bo];have q4:=k4 (γ:=D) (fun d_1=>bX d_1 fun s=>some (D.tup [D.agg [D.int IntKind.i64 x.2.2.2.1,D.str s],D.bool true])) pre x r;exact q4
end
end Go.Pd
end
section
namespace Go.Pd
open Go Go.Proofs Go.RowKit
def eG{α:Type}(g:α→List D):List α→Ow
 |[]=> .nil
 |o::os=> .own (os.length+1) ((o::os).flatMap g)
def ew{α:Type}(g:α→List D):List α→D
 |[]=> .slc true 0 []
 |o::os=> .slc false (os.length+1) ((o::os).flatMap g)
theorem fx{α:Type}(g:α→List D)(acc:List α)(s:α):eG g (acc++[s])= .own (acc.length+1) (acc.flatMap g++g s):=by
 cases acc with
 |nil=>simp[eG]
 |cons o os=>
  show Ow.own ((os++[s]).length+1) (((o::os)++[s]).flatMap g)=_;rw[List.flatMap_append,show(os++[s]).length=os.length+1 by simp];simp
theorem dX{α:Type}(g:α→List D)(l:List α):ew g l= .slc l.isEmpty l.length (l.flatMap g):=by cases l<;>rfl
def iD(x:Int):List D:=[.int .i64 x]
theorem v7{i:Nat}(h:i≤1000000):decide ((i+1)*8≤cu∧i+1≤9223372036854775807)=true:=by
 simp only[zc3];rw[show cu=140737488355328 from rfl];omega
theorem xP{i:Nat}(h:i≤1000000):decide ((i+1)*24≤cu∧i+1≤9223372036854775807)=true:=by
 simp only[zc3];rw[show cu=140737488355328 from rfl];omega
section
variable {γ:Type}
theorem kK(a b:D)(k:List D→Option γ):gd (.tup [a,b]) 2 k=k [a,b]:=rfl
theorem mS(a b:D)(k:List D→Option γ):gy (.agg [a,b]) 2 k=k [a,b]:=rfl
theorem fa(a b:D)(k:D→Option γ):bn [a,b] 0 k=k a:=rfl
theorem fb(a b:D)(k:D→Option γ):bn [a,b] 1 k=k b:=rfl
theorem qM{α:Type}{l:List α}{j:Nat}{x:α}(h:l[j]?=some x):∃pre r,l=pre++x::r∧pre.length=j:=by
 obtain⟨h1,h2⟩:=zb7.1 h;exact⟨l.take j,l.drop (j+1),by rw[←h2,List.getElem_cons_drop,List.take_append_drop],by simp;omega⟩
theorem HU{l:List ci}{j:Nat}{x:ci}(h:l[j]?=some x)(c:D→Option γ):bn (l.flatMap bD) (Int.toNat (j:Int)*5+3+0) c=c (.int .i64 x.2.2.2.1):=by
 obtain⟨pre,r,rfl,rfl⟩:=qM h;exact k3 c pre x r
theorem HV{l:List ci}{j:Nat}{x:ci}(h:l[j]?=some x)(c:D→Option γ):bn (l.flatMap bD) (Int.toNat (j:Int)*5+3+1) c=c (.str x.2.2.2.2):=by
 obtain⟨pre,r,rfl,rfl⟩:=qM h;exact k4 c pre x r
end
def dL(l:List ci)(s:ByteArray):Nat→Nat→List da
 |0,_=>[]
 |m+1,i=>(g8 l s ((i+1:Nat):Int) false).1::dL l s m (i+1)
theorem sO(l:List ci)(s:ByteArray):∀(m i:Nat),(dL l s m i).length=m
 |0,_=>rfl
 |m+1,i=>by simp[dL,sO l s m (i+1)]
def cS(q:Nat→Bool):Nat→Nat→List Int
 |0,_=>[]
 |m+1,i=>match q i with
  |true=>((i+1:Nat):Int)::cS q m (i+1)
  |false=>cS q m (i+1)
theorem j7(q:Nat→Bool):∀(m i:Nat),(cS q m i).length≤m
 |0,_=>za8 _
 |m+1,i=>by
  unfold cS;have:=j7 q m (i+1);cases q i<;>simp<;>omega
theorem tY(q:Nat→Bool)(m i:Nat):cS q (m+1) i=match q i with
  |true=>((i+1:Nat):Int)::cS q m (i+1)
  |false=>cS q m (i+1):=rfl
def yP(a b:da):Bool:=a.1==b.1&&(db a.2 b.2&&true)
def eH(l:List ci)(s:ByteArray)(i:Nat):Bool:= !((g8 l s ((i+1:Nat):Int) false).2&&(g8 l s ((i+1:Nat):Int) true).2)
def eI(l:List ci)(s:ByteArray)(i:Nat):Bool:=((g8 l s ((i+1:Nat):Int) false).2&&(g8 l s ((i+1:Nat):Int) true).2)&& !yP (g8 l s ((i+1:Nat):Int) false).1 (g8 l s ((i+1:Nat):Int) true).1
theorem KL(a b:da)(c:Bool):ce 158 [.agg [.int .i64 a.1,.str a.2],.agg [.int .i64 b.1,.str b.2],.bool c] (.bool (!c)):=
 eA cx Tryz.func158 (ord:=O0) (N:=N0) (by kernel_rfl) (Ef _ _ _ a.1 a.2 b.1 b.2 c)
theorem KM(a b:da)(c:Bool):ce 159 [.agg [.int .i64 a.1,.str a.2],.agg [.int .i64 b.1,.str b.2],.bool c] (.bool (c&& !yP a b)):=
 eA cx Tryz.func159 (ord:=O0) (N:=N0) (by kernel_rfl) ((Eg _ _ _ a.1 a.2 b.1 b.2 c).trans (by cases c<;>rfl))
def fa158:Fam:=⟨158,da×da×Bool,fun x=>[.agg [.int .i64 x.1.1,.str x.1.2],.agg [.int .i64 x.2.1.1,.str x.2.1.2],.bool x.2.2],fun x=> .bool (!x.2.2)⟩
def fa159:Fam:=⟨159,da×da×Bool,fun x=>[.agg [.int .i64 x.1.1,.str x.1.2],.agg [.int .i64 x.2.1.1,.str x.2.1.2],.bool x.2.2],fun x=> .bool (x.2.2&& !yP x.1 x.2.1)⟩
theorem v8{x y:da×da×Bool}(h:[D.agg [.int .i64 x.1.1,.str x.1.2],D.agg [.int .i64 x.2.1.1,.str x.2.1.2],D.bool x.2.2]=[D.agg [.int .i64 y.1.1,.str y.1.2],D.agg [.int .i64 y.2.1.1,.str y.2.1.2],D.bool y.2.2]):x=y:=by
 obtain⟨⟨a,b⟩,⟨c,d⟩,e⟩:=x;obtain⟨⟨a',b'⟩,⟨c',d'⟩,e'⟩:=y;simp at h;simp[h]
theorem xQ:fa158.Good:=⟨fun x=>KL x.1 x.2.1 x.2.2,fun i j h=>by rw[v8 h]⟩
theorem xR:fa159.Good:=⟨fun x=>KM x.1 x.2.1 x.2.2,fun i j h=>by rw[v8 h]⟩
section
variable {f0 f1 f2 f3 f4 f5:Bool}{b0 b1 b2 b3 b4 b5:Nat}{e0 e1 e2 e3 e4 e5:List D}
def yQ(u:D)(l:List ci)(s:ByteArray):Fam:=⟨156,Int×Bool,fun x=>[u,.str s,.int .i64 x.1,.bool x.2],fun x=> .tup [.agg [.int .i64 (g8 l s x.1 x.2).1.1,.str (g8 l s x.1 x.2).1.2],.bool (g8 l s x.1 x.2).2]⟩
def En(u:D)(l:List ci)(s:ByteArray):Fam:=⟨95,Int×Bool,fun x=>[u,.str s,.int .i64 x.1,.bool x.2],fun x=> .int .i64 (ix (iJ s x.1 x.2) l)⟩
theorem wa{u:D}{s:ByteArray}{x y:Int×Bool}(h:[u,D.str s,D.int .i64 x.1,D.bool x.2]=[u,D.str s,D.int .i64 y.1,D.bool y.2]):x=y:=by
 obtain⟨a,b⟩:=x;obtain⟨a',b'⟩:=y;simp at h;simp[h]
theorem lN(l:List ci)(s:ByteArray)(hl:l.length≤100000):(yQ (.agg [.slc f0 b0 e0,.slc f1 b1 e1,.slc f2 b2 e2,.slc f3 l.length (l.flatMap bD),.slc f4 b4 e4,.slc f5 b5 e5]) l s).Good:=⟨fun x=>KJ l s x.1 x.2 hl,fun i j h=>by rw[wa h]⟩
theorem nz(l:List ci)(s:ByteArray)(hl:l.length≤100000):(En (.agg [.slc f0 b0 e0,.slc f1 b1 e1,.slc f2 b2 e2,.slc f3 l.length (l.flatMap bD),.slc f4 b4 e4,.slc f5 b5 e5]) l s).Good:=⟨fun x=>KA l s x.1 x.2 hl,fun i j h=>by rw[wa h]⟩
theorem KN{B:FuncId→List D→Option D}{n:Nat}(l:List ci)(s:ByteArray)(hn:n≤100000)
  (hF:∀x:Int×Bool,B 156 [.agg [.slc f0 b0 e0,.slc f1 b1 e1,.slc f2 n e2,.slc f3 b3 e3,.slc f4 b4 e4,.slc f5 b5 e5],.str s,.int .i64 x.1,.bool x.2]=some (.tup [.agg [.int .i64 (g8 l s x.1 x.2).1.1,.str (g8 l s x.1 x.2).1.2],.bool (g8 l s x.1 x.2).2])):
  ∀(m i fuel:Nat) (acc:List da),i+m=n→acc.length≤i→m<fuel→
  nv B LL C1 fuel s f0 b0 e0 f1 b1 e1 f2 n e2 f3 b3 e3 f4 b4 e4 f5 b5 e5 n (i:Int) (eG cq acc)=some (.agg [.str s,ew cq (acc++dL l s m i)])
 |0,i,fuel+1,acc,h,ha,_=>by
  have h1:decide ((i:Int)<n)=false:=by simp;omega
  rw[show acc++dL l s 0 i=acc from zb2 acc];cases acc with
  |nil=>
   rw[show eG cq []=Ow.nil from rfl,qs,h1,bp];rfl
  |cons o os=>
   rw[show eG cq (o::os)=Ow.own (os.length+1) ((o::os).flatMap cq) from rfl,qt,h1,bp];rfl
 |m+1,i,fuel+1,acc,h,ha,hf=>by
  have h1:decide ((i:Int)<n)=true:=by simp;omega
  have hw:IntKind.wrap .i64 ((i:Int)+1)=((i+1:Nat):Int):=by rw[dJ (by omega)];rfl
  have ih:=KN l s hn hF m (i+1) fuel (acc++[(g8 l s ((i+1:Nat):Int) false).1]) (by omega) (by simp;omega) (by omega);rw[fx,za6] at ih;have e:=hF (((i+1:Nat):Int),false);rw[show dL l s (m+1) i=[(g8 l s ((i+1:Nat):Int) false).1]++dL l s m (i+1) from rfl,←ih];cases acc with
  |nil=>
   rw[show eG cq []=Ow.nil from rfl,qs,h1,bq,hw,e,bm,kK,fa,mS,fa,bo,fb,bw,fb,bA];rfl
  |cons o os=>
   rw[show eG cq (o::os)=Ow.own (os.length+1) ((o::os).flatMap cq) from rfl,qt,h1,bq,hw,e,bm,kK,fa,mS,fa,bo,fb,bw,fb,bA,xP (by simp at ha;omega),bv];rfl
theorem Mq{n:Nat}(l:List ci)(s:ByteArray)(hn:n≤100000)(hl:l.length≤100000):ce 91 [.agg [.slc f0 b0 e0,.slc f1 b1 e1,.slc f2 n e2,.slc f3 l.length (l.flatMap bD),.slc f4 b4 e4,.slc f5 b5 e5],.str s] (.agg [.str s,ew cq (dL l s n 0)]):=by
 obtain⟨B,hB,hF⟩:=j2 [yQ (.agg [.slc f0 b0 e0,.slc f1 b1 e1,.slc f2 n e2,.slc f3 l.length (l.flatMap bD),.slc f4 b4 e4,.slc f5 b5 e5]) l s] ⟨lN l s hl,trivial⟩ rfl;exact eA hB Tryz.func91 (ord:=O0) (N:=Me) (by kernel_rfl) ((G1 _ _ _ _ _ _ _ _ _ _ _ _ _ _ _ _ _ _ _ _ _ _).trans (KN l s hn hF.1 n 0 LL [] (by omega) (za8 _) (by unfold LL;omega)))
theorem xS{B:FuncId→List D→Option D}{n:Nat}(l:List ci)(s:ByteArray)(hn:n≤100000)
  (hF:∀x:Int×Bool,B 156 [.agg [.slc f0 b0 e0,.slc f1 b1 e1,.slc f2 n e2,.slc f3 b3 e3,.slc f4 b4 e4,.slc f5 b5 e5],.str s,.int .i64 x.1,.bool x.2]=some (.tup [.agg [.int .i64 (g8 l s x.1 x.2).1.1,.str (g8 l s x.1 x.2).1.2],.bool (g8 l s x.1 x.2).2]))
  (hG:∀x:da×da×Bool,B 158 [.agg [.int .i64 x.1.1,.str x.1.2],.agg [.int .i64 x.2.1.1,.str x.2.1.2],.bool x.2.2]=some (.bool (!x.2.2))):
  ∀(m i fuel:Nat) (acc:List Int),i+m=n→acc.length≤i→m<fuel→
  dA B LL C1 fuel s f0 b0 e0 f1 b1 e1 f2 n e2 f3 b3 e3 f4 b4 e4 f5 b5 e5 (eG iD acc) n (i:Int)=some (ew iD (acc++cS (eH l s) m i))
 |0,i,fuel+1,acc,h,ha,_=>by
  have h1:decide ((i:Int)<n)=false:=by simp;omega
  rw[show acc++cS (eH l s) 0 i=acc from zb2 acc];cases acc with
  |nil=>
   rw[show eG iD []=Ow.nil from rfl,mC,h1,bp];rfl
  |cons o os=>
   rw[show eG iD (o::os)=Ow.own (os.length+1) ((o::os).flatMap iD) from rfl,mD,h1,bp];rfl
 |m+1,i,fuel+1,acc,h,ha,hf=>by
  have h1:decide ((i:Int)<n)=true:=by simp;omega
  have hw:IntKind.wrap .i64 ((i:Int)+1)=((i+1:Nat):Int):=by rw[dJ (by omega)];rfl
  have ih0:=xS l s hn hF hG m (i+1) fuel acc (by omega) (by omega) (by omega);have ih1:=xS l s hn hF hG m (i+1) fuel (acc++[((i+1:Nat):Int)]) (by omega) (by simp;omega) (by omega);rw[fx,za6] at ih1;have a:=hF (((i+1:Nat):Int),false);have b:=hF (((i+1:Nat):Int),true);have key:dA B LL C1 (fuel+1) s f0 b0 e0 f1 b1 e1 f2 n e2 f3 b3 e3 f4 b4 e4 f5 b5 e5 (eG iD acc) n (i:Int)=bx (eH l s i) (dA B LL C1 fuel s f0 b0 e0 f1 b1 e1 f2 n e2 f3 b3 e3 f4 b4 e4 f5 b5 e5 (.own (acc.length+1) (acc.flatMap iD++iD ((i+1:Nat):Int))) n ((i+1:Nat):Int)) (dA B LL C1 fuel s f0 b0 e0 f1 b1 e1 f2 n e2 f3 b3 e3 f4 b4 e4 f5 b5 e5 (eG iD acc) n ((i+1:Nat):Int)):=by
   unfold eH;have g1:=hG ((g8 l s ((i+1:Nat):Int) false).1,(g8 l s ((i+1:Nat):Int) true).1,(g8 l s ((i+1:Nat):Int) true).2);have g2:=hG ((g8 l s ((i+1:Nat):Int) false).1,(g8 l s ((i+1:Nat):Int) true).1,false);cases acc with
   |nil=>
    rw[show eG iD []=Ow.nil from rfl,mC,h1,bq,hw,a,bm,kK,fa,mS,fa,bo,fb,bw,fb,bA,b,bm,kK,fa,mS,fa,bo,fb,bw,fb,bA,g1,bm,bA,g2,bm,bA];cases (g8 l s ((i+1:Nat):Int) false).2<;>rfl
   |cons o os=>
    rw[show eG iD (o::os)=Ow.own (os.length+1) ((o::os).flatMap iD) from rfl,mD,h1,bq,hw,a,bm,kK,fa,mS,fa,bo,fb,bw,fb,bA,b,bm,kK,fa,mS,fa,bo,fb,bw,fb,bA,g1,bm,bA,g2,bm,bA,v7 (by simp at ha;omega),bv];cases (g8 l s ((i+1:Nat):Int) false).2<;>rfl
  rw[key,ih0,ih1,tY];cases eH l s i<;>rfl
theorem Hw{n:Nat}(l:List ci)(s:ByteArray)(hn:n≤100000)(hl:l.length≤100000):ce 157 [.agg [.slc f0 b0 e0,.slc f1 b1 e1,.slc f2 n e2,.slc f3 l.length (l.flatMap bD),.slc f4 b4 e4,.slc f5 b5 e5],.str s,.fn (.func 158) [] []] (ew iD (cS (eH l s) n 0)):=by
 obtain⟨B,hB,hF⟩:=j2 [yQ (.agg [.slc f0 b0 e0,.slc f1 b1 e1,.slc f2 n e2,.slc f3 l.length (l.flatMap bD),.slc f4 b4 e4,.slc f5 b5 e5]) l s,fa158] ⟨lN l s hl,xQ,trivial⟩ rfl;exact eA hB Tryz.func157 (ord:=O0) (N:=zE) (by kernel_rfl) ((B1 _ _ _ _ _ _ _ _ _ _ _ _ _ _ _ _ _ _ _ _ _ _).trans (xS l s hn hF.1 hF.2.1 n 0 LL [] (by omega) (za8 _) (by unfold LL;omega)))
theorem xT{B:FuncId→List D→Option D}{n:Nat}(l:List ci)(s:ByteArray)(hn:n≤100000)
  (hF:∀x:Int×Bool,B 156 [.agg [.slc f0 b0 e0,.slc f1 b1 e1,.slc f2 n e2,.slc f3 b3 e3,.slc f4 b4 e4,.slc f5 b5 e5],.str s,.int .i64 x.1,.bool x.2]=some (.tup [.agg [.int .i64 (g8 l s x.1 x.2).1.1,.str (g8 l s x.1 x.2).1.2],.bool (g8 l s x.1 x.2).2]))
  (hG:∀x:da×da×Bool,B 159 [.agg [.int .i64 x.1.1,.str x.1.2],.agg [.int .i64 x.2.1.1,.str x.2.1.2],.bool x.2.2]=some (.bool (x.2.2&& !yP x.1 x.2.1))):
  ∀(m i fuel:Nat) (acc:List Int),i+m=n→acc.length≤i→m<fuel→
  dB B LL C1 fuel s f0 b0 e0 f1 b1 e1 f2 n e2 f3 b3 e3 f4 b4 e4 f5 b5 e5 (eG iD acc) n (i:Int)=some (ew iD (acc++cS (eI l s) m i))
 |0,i,fuel+1,acc,h,ha,_=>by
  have h1:decide ((i:Int)<n)=false:=by simp;omega
  rw[show acc++cS (eI l s) 0 i=acc from zb2 acc];cases acc with
  |nil=>
   rw[show eG iD []=Ow.nil from rfl,mF,h1,bp];rfl
  |cons o os=>
   rw[show eG iD (o::os)=Ow.own (os.length+1) ((o::os).flatMap iD) from rfl,mG,h1,bp];rfl
 |m+1,i,fuel+1,acc,h,ha,hf=>by
  have h1:decide ((i:Int)<n)=true:=by simp;omega
  have hw:IntKind.wrap .i64 ((i:Int)+1)=((i+1:Nat):Int):=by rw[dJ (by omega)];rfl
  have ih0:=xT l s hn hF hG m (i+1) fuel acc (by omega) (by omega) (by omega);have ih1:=xT l s hn hF hG m (i+1) fuel (acc++[((i+1:Nat):Int)]) (by omega) (by simp;omega) (by omega);rw[fx,za6] at ih1;have a:=hF (((i+1:Nat):Int),false);have b:=hF (((i+1:Nat):Int),true);have key:dB B LL C1 (fuel+1) s f0 b0 e0 f1 b1 e1 f2 n e2 f3 b3 e3 f4 b4 e4 f5 b5 e5 (eG iD acc) n (i:Int)=bx (eI l s i) (dB B LL C1 fuel s f0 b0 e0 f1 b1 e1 f2 n e2 f3 b3 e3 f4 b4 e4 f5 b5 e5 (.own (acc.length+1) (acc.flatMap iD++iD ((i+1:Nat):Int))) n ((i+1:Nat):Int)) (dB B LL C1 fuel s f0 b0 e0 f1 b1 e1 f2 n e2 f3 b3 e3 f4 b4 e4 f5 b5 e5 (eG iD acc) n ((i+1:Nat):Int)):=by
   unfold eI;have g1:=hG ((g8 l s ((i+1:Nat):Int) false).1,(g8 l s ((i+1:Nat):Int) true).1,(g8 l s ((i+1:Nat):Int) true).2);have g2:=hG ((g8 l s ((i+1:Nat):Int) false).1,(g8 l s ((i+1:Nat):Int) true).1,false);cases acc with
   |nil=>
    rw[show eG iD []=Ow.nil from rfl,mF,h1,bq,hw,a,bm,kK,fa,mS,fa,bo,fb,bw,fb,bA,b,bm,kK,fa,mS,fa,bo,fb,bw,fb,bA,g1,bm,bA,g2,bm,bA];cases (g8 l s ((i+1:Nat):Int) false).2<;>rfl
   |cons o os=>
    rw[show eG iD (o::os)=Ow.own (os.length+1) ((o::os).flatMap iD) from rfl,mG,h1,bq,hw,a,bm,kK,fa,mS,fa,bo,fb,bw,fb,bA,b,bm,kK,fa,mS,fa,bo,fb,bw,fb,bA,g1,bm,bA,g2,bm,bA,v7 (by simp at ha;omega),bv];cases (g8 l s ((i+1:Nat):Int) false).2<;>rfl
  rw[key,ih0,ih1,tY];cases eI l s i<;>rfl
theorem Hx{n:Nat}(l:List ci)(s:ByteArray)(hn:n≤100000)(hl:l.length≤100000):ce 157 [.agg [.slc f0 b0 e0,.slc f1 b1 e1,.slc f2 n e2,.slc f3 l.length (l.flatMap bD),.slc f4 b4 e4,.slc f5 b5 e5],.str s,.fn (.func 159) [] []] (ew iD (cS (eI l s) n 0)):=by
 obtain⟨B,hB,hF⟩:=j2 [yQ (.agg [.slc f0 b0 e0,.slc f1 b1 e1,.slc f2 n e2,.slc f3 l.length (l.flatMap bD),.slc f4 b4 e4,.slc f5 b5 e5]) l s,fa159] ⟨lN l s hl,xR,trivial⟩ rfl;exact eA hB Tryz.func157 (ord:=O0) (N:=zE) (by kernel_rfl) ((B2 _ _ _ _ _ _ _ _ _ _ _ _ _ _ _ _ _ _ _ _ _ _).trans (xT l s hn hF.1 hF.2.1 n 0 LL [] (by omega) (za8 _) (by unfold LL;omega)))
theorem j8{l:List ci}{s:ByteArray}{h:Int}{own:Bool}(e:l.find? (iJ s h own)=none):g8 l s h own=((0,ByteArray.mk #[45]),false):=by unfold g8;rw[e]
theorem j9{l:List ci}{s:ByteArray}{h:Int}{own:Bool}{x:ci}(e:l.find? (iJ s h own)=some x):g8 l s h own=(x.2.2.2,true):=by unfold g8;rw[e]
theorem nB{α:Type}{l:List α}{j:Nat}(h:j<l.length):decide ((0:Int)≤(j:Int)∧(j:Int)<(l.length:Int))=true:=by simp;omega
theorem KO{B:FuncId→List D→Option D}{n:Nat}(l:List ci)(s:ByteArray)(hn:n≤100000)
  (hF:∀x:Int×Bool,B 95 [.agg [.slc f0 b0 e0,.slc f1 b1 e1,.slc f2 n e2,.slc f3 l.length (l.flatMap bD),.slc f4 b4 e4,.slc f5 b5 e5],.str s,.int .i64 x.1,.bool x.2]=some (.int .i64 (ix (iJ s x.1 x.2) l))):
  ∀(m i fuel:Nat) (acc:List da),i+m=n→acc.length≤i→m<fuel→
  j4 B LL C1 fuel s f0 b0 e0 f1 b1 e1 f2 n e2 f3 l.length (l.flatMap bD) f4 b4 e4 f5 b5 e5 ((i+1:Nat):Int) (eG cq acc)=some (.agg [.str s,ew cq (acc++dL l s m i)])
 |0,i,fuel+1,acc,h,ha,_=>by
  have h1:decide (((i+1:Nat):Int)≤n)=false:=by simp;omega
  rw[show acc++dL l s 0 i=acc from zb2 acc];cases acc with
  |nil=>
   rw[show eG cq []=Ow.nil from rfl,lJ,h1,bp];rfl
  |cons o os=>
   rw[show eG cq (o::os)=Ow.own (os.length+1) ((o::os).flatMap cq) from rfl,lK,h1,bp];rfl
 |m+1,i,fuel+1,acc,h,ha,hf=>by
  have h1:decide (((i+1:Nat):Int)≤n)=true:=by simp;omega
  have hw:IntKind.wrap .i64 (((i+1:Nat):Int)+1)=((i+1+1:Nat):Int):=by rw[dJ (by omega)];rfl
  have ih:=KO l s hn hF m (i+1) fuel (acc++[(g8 l s ((i+1:Nat):Int) false).1]) (by omega) (by simp;omega) (by omega);rw[fx,za6] at ih;have e:=hF (((i+1:Nat):Int),false);rw[show dL l s (m+1) i=[(g8 l s ((i+1:Nat):Int) false).1]++dL l s m (i+1) from rfl,←ih];rcases jr (iJ s ((i+1:Nat):Int) false) l with⟨h2,h3⟩|⟨j,x,h2,h3,h4,h5⟩
  ·rw[h3] at e;rw[j8 h2];cases acc with
   |nil=>
    rw[show eG cq []=Ow.nil from rfl,lJ,h1,bq,hw,e,bm,bo];rfl
   |cons o os=>
    rw[show eG cq (o::os)=Ow.own (os.length+1) ((o::os).flatMap cq) from rfl,lK,h1,bq,hw,e,bm,bo,xP (by simp at ha;omega),bv];rfl
  ·rw[h5] at e;rw[j9 h4];have hp:decide ((j:Int)≥0)=true:=by simp
   cases acc with
   |nil=>
    rw[show eG cq []=Ow.nil from rfl,lJ,h1,bq,hw,e,bm,bo,hp,bq,nB h2,bv,HU h3,bo,HV h3,bw];rfl
   |cons o os=>
    rw[show eG cq (o::os)=Ow.own (os.length+1) ((o::os).flatMap cq) from rfl,lK,h1,bq,hw,e,bm,bo,hp,bq,nB h2,bv,HU h3,bo,HV h3,bw,xP (by simp at ha;omega),bv];rfl
theorem Mr{n:Nat}(l:List ci)(s:ByteArray)(hn:n≤100000)(hl:l.length≤100000):ce 24 [.agg [.slc f0 b0 e0,.slc f1 b1 e1,.slc f2 n e2,.slc f3 l.length (l.flatMap bD),.slc f4 b4 e4,.slc f5 b5 e5],.str s] (.agg [.str s,ew cq (dL l s n 0)]):=by
 obtain⟨B,hB,hF⟩:=j2 [En (.agg [.slc f0 b0 e0,.slc f1 b1 e1,.slc f2 n e2,.slc f3 l.length (l.flatMap bD),.slc f4 b4 e4,.slc f5 b5 e5]) l s] ⟨nz l s hl,trivial⟩ rfl;exact eA hB Tryz.func24 (ord:=O0) (N:=Mf) (by kernel_rfl) ((G6 _ _ _ _ _ _ _ _ _ _ _ _ _ _ _ _ _ _ _ _ _ _).trans (KO l s hn hF.1 n 0 LL [] (by omega) (za8 _) (by unfold LL;omega)))
theorem Hy{B:FuncId→List D→Option D}{n:Nat}(l:List ci)(s:ByteArray)(hn:n≤100000)
  (hF:∀x:Int×Bool,B 95 [.agg [.slc f0 b0 e0,.slc f1 b1 e1,.slc f2 n e2,.slc f3 l.length (l.flatMap bD),.slc f4 b4 e4,.slc f5 b5 e5],.str s,.int .i64 x.1,.bool x.2]=some (.int .i64 (ix (iJ s x.1 x.2) l))):
  ∀(m i fuel:Nat) (acc:List Int),i+m=n→acc.length≤i→m<fuel→
  fM B LL C1 fuel s f0 b0 e0 f1 b1 e1 f2 n e2 f3 l.length (l.flatMap bD) f4 b4 e4 f5 b5 e5 (eG iD acc) ((i+1:Nat):Int)=some (ew iD (acc++cS (eH l s) m i))
 |0,i,fuel+1,acc,h,ha,_=>by
  have h1:decide (((i+1:Nat):Int)≤n)=false:=by simp;omega
  rw[show acc++cS (eH l s) 0 i=acc from zb2 acc];cases acc with
  |nil=>
   rw[show eG iD []=Ow.nil from rfl,jj,h1,bp];rfl
  |cons o os=>
   rw[show eG iD (o::os)=Ow.own (os.length+1) ((o::os).flatMap iD) from rfl,jl,h1,bp];rfl
 |m+1,i,fuel+1,acc,h,ha,hf=>by
  have h1:decide (((i+1:Nat):Int)≤n)=true:=by simp;omega
  have hw:IntKind.wrap .i64 (((i+1:Nat):Int)+1)=((i+1+1:Nat):Int):=by rw[dJ (by omega)];rfl
  have ih0:=Hy l s hn hF m (i+1) fuel acc (by omega) (by omega) (by omega);have ih1:=Hy l s hn hF m (i+1) fuel (acc++[((i+1:Nat):Int)]) (by omega) (by simp;omega) (by omega);rw[fx,za6] at ih1;have a:=hF (((i+1:Nat):Int),false);have b:=hF (((i+1:Nat):Int),true);have key:fM B LL C1 (fuel+1) s f0 b0 e0 f1 b1 e1 f2 n e2 f3 l.length (l.flatMap bD) f4 b4 e4 f5 b5 e5 (eG iD acc) ((i+1:Nat):Int)=bx (eH l s i) (fM B LL C1 fuel s f0 b0 e0 f1 b1 e1 f2 n e2 f3 l.length (l.flatMap bD) f4 b4 e4 f5 b5 e5 (.own (acc.length+1) (acc.flatMap iD++iD ((i+1:Nat):Int))) ((i+1+1:Nat):Int)) (fM B LL C1 fuel s f0 b0 e0 f1 b1 e1 f2 n e2 f3 l.length (l.flatMap bD) f4 b4 e4 f5 b5 e5 (eG iD acc) ((i+1+1:Nat):Int)):=by
   unfold eH;rcases jr (iJ s ((i+1:Nat):Int) false) l with⟨h2,h3⟩|⟨j,x,h2,h3,h4,h5⟩
   ·rw[h3] at a;rw[j8 h2];cases acc with
    |nil=>
     rw[show eG iD []=Ow.nil from rfl,jj,h1,bq,hw,a,bm,bo];rfl
    |cons o os=>
     rw[show eG iD (o::os)=Ow.own (os.length+1) ((o::os).flatMap iD) from rfl,jl,h1,bq,hw,a,bm,bo,v7 (by simp at ha;omega),bv];rfl
   ·rw[h5] at a;rw[j9 h4];have hp:decide ((j:Int)<0)=false:=by simp
    rcases jr (iJ s ((i+1:Nat):Int) true) l with⟨g2,g3⟩|⟨k,y,g2,g3,g4,g5⟩
    ·rw[g3] at b;rw[j8 g2];cases acc with
     |nil=>
      rw[show eG iD []=Ow.nil from rfl,jj,h1,bq,hw,a,bm,bo,hp,bp,b,bm,bo];rfl
     |cons o os=>
      rw[show eG iD (o::os)=Ow.own (os.length+1) ((o::os).flatMap iD) from rfl,jl,h1,bq,hw,a,bm,bo,hp,bp,b,bm,bo,v7 (by simp at ha;omega),bv];rfl
    ·rw[g5] at b;rw[j9 g4];have hq:decide ((k:Int)<0)=false:=by simp
     cases acc with
     |nil=>
      rw[show eG iD []=Ow.nil from rfl,jj,h1,bq,hw,a,bm,bo,hp,bp,b,bm,bo,hq,bp];rfl
     |cons o os=>
      rw[show eG iD (o::os)=Ow.own (os.length+1) ((o::os).flatMap iD) from rfl,jl,h1,bq,hw,a,bm,bo,hp,bp,b,bm,bo,hq,bp];rfl
  rw[key,ih0,ih1,tY];cases eH l s i<;>rfl
theorem KP{n:Nat}(l:List ci)(s:ByteArray)(hn:n≤100000)(hl:l.length≤100000):ce 27 [.agg [.slc f0 b0 e0,.slc f1 b1 e1,.slc f2 n e2,.slc f3 l.length (l.flatMap bD),.slc f4 b4 e4,.slc f5 b5 e5],.str s] (ew iD (cS (eH l s) n 0)):=by
 obtain⟨B,hB,hF⟩:=j2 [En (.agg [.slc f0 b0 e0,.slc f1 b1 e1,.slc f2 n e2,.slc f3 l.length (l.flatMap bD),.slc f4 b4 e4,.slc f5 b5 e5]) l s] ⟨nz l s hl,trivial⟩ rfl;exact eA hB Tryz.func27 (ord:=O0) (N:=Mg) (by kernel_rfl) ((G7 _ _ _ _ _ _ _ _ _ _ _ _ _ _ _ _ _ _ _ _ _ _).trans (Hy l s hn hF.1 n 0 LL [] (by omega) (za8 _) (by unfold LL;omega)))
theorem Hz{B:FuncId→List D→Option D}{n:Nat}(l:List ci)(s:ByteArray)(hn:n≤100000)
  (hF:∀x:Int×Bool,B 95 [.agg [.slc f0 b0 e0,.slc f1 b1 e1,.slc f2 n e2,.slc f3 l.length (l.flatMap bD),.slc f4 b4 e4,.slc f5 b5 e5],.str s,.int .i64 x.1,.bool x.2]=some (.int .i64 (ix (iJ s x.1 x.2) l))):
  ∀(m i fuel:Nat) (acc:List Int),i+m=n→acc.length≤i→m<fuel→
  eV B LL C1 fuel s f0 b0 e0 f1 b1 e1 f2 n e2 f3 l.length (l.flatMap bD) f4 b4 e4 f5 b5 e5 (eG iD acc) ((i+1:Nat):Int)=some (ew iD (acc++cS (eI l s) m i))
 |0,i,fuel+1,acc,h,ha,_=>by
  have h1:decide (((i+1:Nat):Int)≤n)=false:=by simp;omega
  rw[show acc++cS (eI l s) 0 i=acc from zb2 acc];cases acc with
  |nil=>
   rw[show eG iD []=Ow.nil from rfl,jm,h1,bp];rfl
  |cons o os=>
   rw[show eG iD (o::os)=Ow.own (os.length+1) ((o::os).flatMap iD) from rfl,jo,h1,bp];rfl
 |m+1,i,fuel+1,acc,h,ha,hf=>by
  have h1:decide (((i+1:Nat):Int)≤n)=true:=by simp;omega
  have hw:IntKind.wrap .i64 (((i+1:Nat):Int)+1)=((i+1+1:Nat):Int):=by rw[dJ (by omega)];rfl
  have ih0:=Hz l s hn hF m (i+1) fuel acc (by omega) (by omega) (by omega);have ih1:=Hz l s hn hF m (i+1) fuel (acc++[((i+1:Nat):Int)]) (by omega) (by simp;omega) (by omega);rw[fx,za6] at ih1;have a:=hF (((i+1:Nat):Int),false);have b:=hF (((i+1:Nat):Int),true);have key:eV B LL C1 (fuel+1) s f0 b0 e0 f1 b1 e1 f2 n e2 f3 l.length (l.flatMap bD) f4 b4 e4 f5 b5 e5 (eG iD acc) ((i+1:Nat):Int)=bx (eI l s i) (eV B LL C1 fuel s f0 b0 e0 f1 b1 e1 f2 n e2 f3 l.length (l.flatMap bD) f4 b4 e4 f5 b5 e5 (.own (acc.length+1) (acc.flatMap iD++iD ((i+1:Nat):Int))) ((i+1+1:Nat):Int)) (eV B LL C1 fuel s f0 b0 e0 f1 b1 e1 f2 n e2 f3 l.length (l.flatMap bD) f4 b4 e4 f5 b5 e5 (eG iD acc) ((i+1+1:Nat):Int)):=by
   unfold eI;rcases jr (iJ s ((i+1:Nat):Int) false) l with⟨h2,h3⟩|⟨j,x,h2,h3,h4,h5⟩
   ·rw[h3] at a;rw[j8 h2];cases acc with
    |nil=>
     rw[show eG iD []=Ow.nil from rfl,jm,h1,bq,hw,a,bm,bo,b,bm,bo];rfl
    |cons o os=>
     rw[show eG iD (o::os)=Ow.own (os.length+1) ((o::os).flatMap iD) from rfl,jo,h1,bq,hw,a,bm,bo,b,bm,bo];rfl
   ·rw[h5] at a;rw[j9 h4];have hp:decide ((j:Int)≥0)=true:=by simp
    rcases jr (iJ s ((i+1:Nat):Int) true) l with⟨g2,g3⟩|⟨k,y,g2,g3,g4,g5⟩
    ·rw[g3] at b;rw[j8 g2];cases acc with
     |nil=>
      rw[show eG iD []=Ow.nil from rfl,jm,h1,bq,hw,a,bm,bo,b,bm,bo,hp,bq];rfl
     |cons o os=>
      rw[show eG iD (o::os)=Ow.own (os.length+1) ((o::os).flatMap iD) from rfl,jo,h1,bq,hw,a,bm,bo,b,bm,bo,hp,bq];rfl
    ·rw[g5] at b;rw[j9 g4];have hq:decide ((k:Int)≥0)=true:=by simp
     cases acc with
     |nil=>
      rw[show eG iD []=Ow.nil from rfl,jm,h1,bq,hw,a,bm,bo,b,bm,bo,hp,bq,hq,bq,nB h2,bv,HU h3,bo,HV h3,bw,nB g2,bv,HU g3,bo,HV g3,bw];rfl
     |cons o os=>
      rw[show eG iD (o::os)=Ow.own (os.length+1) ((o::os).flatMap iD) from rfl,jo,h1,bq,hw,a,bm,bo,b,bm,bo,hp,bq,hq,bq,nB h2,bv,HU h3,bo,HV h3,bw,nB g2,bv,HU g3,bo,HV g3,bw,v7 (by simp at ha;omega),bv];rfl
  rw[key,ih0,ih1,tY];cases eI l s i<;>rfl
theorem KQ{n:Nat}(l:List ci)(s:ByteArray)(hn:n≤100000)(hl:l.length≤100000):ce 28 [.agg [.slc f0 b0 e0,.slc f1 b1 e1,.slc f2 n e2,.slc f3 l.length (l.flatMap bD),.slc f4 b4 e4,.slc f5 b5 e5],.str s] (ew iD (cS (eI l s) n 0)):=by
 obtain⟨B,hB,hF⟩:=j2 [En (.agg [.slc f0 b0 e0,.slc f1 b1 e1,.slc f2 n e2,.slc f3 l.length (l.flatMap bD),.slc f4 b4 e4,.slc f5 b5 e5]) l s] ⟨nz l s hl,trivial⟩ rfl;exact eA hB Tryz.func28 (ord:=O0) (N:=Mh) (by kernel_rfl) ((G8 _ _ _ _ _ _ _ _ _ _ _ _ _ _ _ _ _ _ _ _ _ _).trans (Hz l s hn hF.1 n 0 LL [] (by omega) (za8 _) (by unfold LL;omega)))
end
def dM:List Int→Int
 |[]=>0
 |x::r=>bx (x !=0) x (dM r)
theorem Ms{call:CL}{f:Bool}{n:Nat}:∀(r pre:List Int) (fuel:Nat),(pre++r).length=n→n≤100000→r.length<fuel→
  tQ call LL C1 fuel f n (np (pre++r)) n (pre.length:Int)=some (.int .i64 (dM r)):=by
 intro r
 induction r with
 |nil=>
  intro pre fuel hn hB hf;cases fuel with
  |zero=>exact absurd hf (Nat.not_lt_zero _)
  |succ fuel=>
   subst hn;rw[sA,co,bp];rfl
 |cons x r ih=>
  intro pre fuel hn hB hf;cases fuel with
  |zero=>exact absurd hf (Nat.not_lt_zero _)
  |succ fuel=>
   have ih:=ih (pre++[x]) fuel (by rw[cJ];exact hn) hB (by simp at hf;omega);rw[cJ] at ih;subst hn;rw[sA,cD,bq,cB,bv,nq,bo,bZ pre x r (by omega),ih];show bx (x !=0) _ _=some (D.int .i64 (bx (x !=0) _ _));cases x !=0<;>rfl
theorem Mt(l:List Int)(hl:l.length≤100):ce 87 [.slc true l.length (np l)] (.int .i64 (dM l)):=
 eA cx Tryz.func87 (ord:=O0) (N:=Mc) (by kernel_rfl) ((GP _ _ _ _ _ _).trans (Ms l [] LL rfl (by omega) (by unfold LL;omega)))
theorem wb:∀{l m:List Int},np l=np m→l=m
 |[],[],_=>rfl
 |[],_::_,h=>by cases h
 |_::_,[],h=>by cases h
 |x::l,y::m,h=>by
  simp only[np,List.map_cons,zc1,D.int.injEq,true_and] at h;rw[h.1,wb (l:=l) (m:=m) h.2]
def fa87:Fam:=⟨87,{l:List Int//l.length≤100},fun l=>[.slc true l.1.length (np l.1)],fun l=> .int .i64 (dM l.1)⟩
theorem iG:fa87.Good:=⟨fun l=>Mt l.1 l.2,fun i j h=>by
 have h:[D.slc true i.1.length (np i.1)]=[D.slc true j.1.length (np j.1)]:=h;simp only[zc1,and_true,D.slc.injEq,true_and] at h;rw[show i=j from Subtype.ext (wb h.2)]⟩
theorem KR(b:Bool)(e:Int):ce 119 [.bool b,.int .i64 e] (.int .i64 (bx b e 0)):=
 eA cx Tryz.func119 (ord:=O0) (N:=N0) (by kernel_rfl) ((DP _ _ _ b e).trans (by cases b<;>rfl))
def fa119:Fam:=⟨119,Bool×Int,fun x=>[.bool x.1,.int .i64 x.2],fun x=> .int .i64 (bx x.1 x.2 0)⟩
theorem fN:fa119.Good:=⟨fun x=>KR x.1 x.2,fun i j h=>by
 obtain⟨a,b⟩:=i;obtain⟨a',b'⟩:=j;have h:[D.bool a,D.int .i64 b]=[D.bool a',D.int .i64 b']:=h;simp at h;simp[h]⟩
def oy(n a b:Int):Bool:=decide (n<a)||decide (n>b)
theorem KS(n a b:Int):ce 118 [.int .i64 n,.int .i64 a,.int .i64 b] (.bool (oy n a b)):=
 eA cx Tryz.func118 (ord:=O0) (N:=N0) (by kernel_rfl) ((DO _ _ _ n a b).trans (by unfold oy;cases decide (n<a)<;>rfl))
def fa118:Fam:=⟨118,Int×Int×Int,fun x=>[.int .i64 x.1,.int .i64 x.2.1,.int .i64 x.2.2],fun x=> .bool (oy x.1 x.2.1 x.2.2)⟩
theorem lO:fa118.Good:=⟨fun x=>KS x.1 x.2.1 x.2.2,fun i j h=>by
 obtain⟨a,b,c⟩:=i;obtain⟨a',b',c'⟩:=j;have h:[D.int .i64 a,D.int .i64 b,D.int .i64 c]=[D.int .i64 a',D.int .i64 b',D.int .i64 c']:=h;simp at h;simp[h]⟩
theorem wc{x y:da}(h:[D.agg [.int .i64 x.1,.str x.2]]=[D.agg [.int .i64 y.1,.str y.2]]):x=y:=by
 obtain⟨a,b⟩:=x;obtain⟨a',b'⟩:=y;simp at h;simp[h]
theorem KT(x:da):ce 218 [.agg [.int .i64 x.1,.str x.2]] (.bool (gG x.2||lg x.2)):=
 eA cx Tryz.func218 (ord:=O0) (N:=N0) (by kernel_rfl) ((DX _ _ _ x.1 x.2).trans (by show bx (gG x.2) _ (some (D.bool (lg x.2)))=_;cases gG x.2<;>rfl))
theorem KU(x:da):ce 147 [.agg [.int .i64 x.1,.str x.2]] (.int .i64 (dS x)):=by
 obtain⟨B,hB,hF⟩:=j2 [one 218 [.agg [.int .i64 x.1,.str x.2]] (.bool (gG x.2||lg x.2)),fa118,fa119] ⟨bL (KT x),lO,fN,trivial⟩ rfl;have e1:B 218 [.agg [.int .i64 x.1,.str x.2]]=some (.bool (gG x.2||lg x.2)):=hF.1 ();have e2:B 118 [.int .i64 x.1,.int .i64 1,.int .i64 99]=some (.bool (oy x.1 1 99)):=hF.2.1 (x.1,1,99);have e3:∀(b:Bool) (e:Int),B 119 [.bool b,.int .i64 e]=some (.int .i64 (bx b e 0)):=fun b e=>hF.2.2.1 (b,e);refine eA hB Tryz.func147 (ord:=O0) (N:=N0) (by kernel_rfl) ((DR _ _ _ x.1 x.2).trans ?_);rw[e1,bm,bA,e2,bm,bA,e3,bm,bo,e3,bm,bo];show bx (gG x.2||lg x.2) _ (bx (sL x.2) _ (bx (sK x.2) _ _))=some (D.int .i64 (bx (gG x.2||lg x.2) (bx (oy x.1 1 99) 3 0) (bx (sL x.2||sK x.2) _ _)));cases (gG x.2||lg x.2)<;>cases sL x.2<;>cases sK x.2<;>rfl
def fa147:Fam:=⟨147,da,fun x=>[.agg [.int .i64 x.1,.str x.2]],fun x=> .int .i64 (dS x)⟩
theorem xU:fa147.Good:=⟨KU,fun i j h=>by rw[wc h]⟩
def fa145:Fam:=⟨145,da,fun x=>[.agg [.int .i64 x.1,.str x.2]],fun x=> .int .i64 (dS x)⟩
theorem xV:fa145.Good:=⟨E2,fun i j h=>by rw[wc h]⟩
abbrev Lr:={s:ByteArray//s.size≤1000}
def fa111:Fam:=⟨111,Lr,fun s=>[.str s.1],fun s=> .bool (cQ s.1)⟩
theorem qN:fa111.Good:=⟨fun s=>E1 s.1 (by have:=s.2;omega),fun i j h=>by
 have h:[D.str i.1]=[D.str j.1]:=h;simp only[zc1,and_true,D.str.injEq] at h;rw[show i=j from Subtype.ext h]⟩
def fa80:Fam:=⟨80,ByteArray,fun s=>[.str s],fun s=> .bool (cQ s)⟩
theorem nC:fa80.Good:=⟨Ke,fun i j h=>by
 have h:[D.str i]=[D.str j]:=h;simp only[zc1,and_true] at h;rw[show i=j from D.str.inj h]⟩
def d4(l:List ByteArray)(s:ByteArray):Bool:=l.any fun x=>db x s
theorem Mv{call:CL}{f:Bool}{n:Nat}(s:ByteArray):∀(r pre:List ByteArray) (fuel:Nat),(pre++r).length=n→n≤100000→r.length<fuel→
  tO call LL C1 fuel f n (br (pre++r)) s (pre.length:Int)=some (.bool (d4 r s)):=by
 intro r
 induction r with
 |nil=>
  intro pre fuel hn hB hf;cases fuel with
  |zero=>exact absurd hf (Nat.not_lt_zero _)
  |succ fuel=>
   subst hn;rw[sx,co,bp];rfl
 |cons x r ih=>
  intro pre fuel hn hB hf;cases fuel with
  |zero=>exact absurd hf (Nat.not_lt_zero _)
  |succ fuel=>
   have ih:=ih (pre++[x]) fuel (by rw[cJ];exact hn) hB (by simp at hf;omega);rw[cJ] at ih;subst hn;rw[sx,cD,bq,cB,bv,t0,bw,bZ pre x r (by omega),ih];show bx (db x s) _ _=some (D.bool (db x s||d4 r s));cases db x s<;>rfl
theorem Mw{f:Bool}(l:List ByteArray)(s:ByteArray)(hl:l.length≤100000):ce 81 [.slc f l.length (br l),.str s] (.bool (d4 l s)):=
 eA cx Tryz.func81 (ord:=O0) (N:=Ma) (by kernel_rfl) ((GN _ _ _ _ _ _ _).trans (Mv s l [] LL rfl hl (by unfold LL;omega)))
theorem KV{call:CL}{f:Bool}{n:Nat}(s:ByteArray):∀(r pre:List ByteArray) (fuel:Nat),(pre++r).length=n→n≤100000→r.length<fuel→
  oU call LL C1 fuel f n (br (pre++r)) s n (pre.length:Int)=some (.int .i64 (jA (fun x=>db x s) r pre.length)):=by
 intro r
 induction r with
 |nil=>
  intro pre fuel hn hB hf;cases fuel with
  |zero=>exact absurd hf (Nat.not_lt_zero _)
  |succ fuel=>
   subst hn;rw[qn,co,bp];rfl
 |cons x r ih=>
  intro pre fuel hn hB hf;cases fuel with
  |zero=>exact absurd hf (Nat.not_lt_zero _)
  |succ fuel=>
   have ih:=ih (pre++[x]) fuel (by rw[cJ];exact hn) hB (by simp at hf;omega);rw[cJ] at ih;subst hn;rw[qn,cD,bq,cB,bv,t0,bw,bZ pre x r (by omega),ih,show(pre++[x]).length=pre.length+1 by simp];show bx (db s x) _ _=some (D.int .i64 (bx (db x s) _ _));rw[qK s x];cases db x s<;>rfl
theorem KW{f:Bool}(l:List ByteArray)(s:ByteArray)(hl:l.length≤100000):ce 223 [.slc f l.length (br l),.str s] (.int .i64 (ix (fun x=>db x s) l)):=
 eA cx Tryz.func223 (ord:=O0) (N:=GV) (by kernel_rfl) ((D3 _ _ _ _ _ _ _).trans (KV s l [] LL rfl hl (by unfold LL;omega)))
theorem KX{f:Bool}(l:List ByteArray)(s:ByteArray)(hl:l.length≤100000):ce 155 [.slc f l.length (br l),.str s] (.bool (d4 l s)):=by
 obtain⟨B,hB,hF⟩:=j2 [one 223 [.slc f l.length (br l),.str s] (.int .i64 (ix (fun x=>db x s) l))] ⟨bL (KW l s hl),trivial⟩ rfl;have e:B 223 [.slc f l.length (br l),.str s]=some (.int .i64 (ix (fun x=>db x s) l)):=hF.1 ();refine eA hB Tryz.func155 (ord:=O0) (N:=N0) (by kernel_rfl) ((DU _ _ _ _ _ _ _).trans ?_);rw[e,bm,bo,Cb];rfl
theorem sP:∀{l m:List ByteArray},br l=br m→l=m
 |[],[],_=>rfl
 |[],_::_,h=>by cases h
 |_::_,[],h=>by cases h
 |x::l,y::m,h=>by
  simp only[br,List.map_cons,zc1,D.str.injEq] at h;rw[h.1,sP (l:=l) (m:=m) h.2]
abbrev zJ:=Bool×{l:List ByteArray//l.length≤100000}×ByteArray
theorem yR{x y:zJ}(h:[D.slc x.1 x.2.1.1.length (br x.2.1.1),D.str x.2.2]=[D.slc y.1 y.2.1.1.length (br y.2.1.1),D.str y.2.2]):x=y:=by
 obtain⟨a,⟨b,hb⟩,c⟩:=x;obtain⟨a',⟨b',hb'⟩,c'⟩:=y;simp only[zc1,and_true,D.slc.injEq,D.str.injEq] at h;obtain⟨⟨h1,_,h2⟩,h3⟩:=h;obtain rfl:=sP h2;subst h1 h3;rfl
def fa81:Fam:=⟨81,zJ,fun x=>[.slc x.1 x.2.1.1.length (br x.2.1.1),.str x.2.2],fun x=> .bool (d4 x.2.1.1 x.2.2)⟩
theorem sQ:fa81.Good:=⟨fun x=>Mw x.2.1.1 x.2.2 x.2.1.2,fun i j h=>by rw[yR h]⟩
def fa155:Fam:=⟨155,zJ,fun x=>[.slc x.1 x.2.1.1.length (br x.2.1.1),.str x.2.2],fun x=> .bool (d4 x.2.1.1 x.2.2)⟩
theorem xW:fa155.Good:=⟨fun x=>KX x.2.1.1 x.2.2 x.2.1.2,fun i j h=>by rw[yR h]⟩
theorem nD(pre:List ByteArray)(x:ByteArray)(r:List ByteArray)(f:Bool):D.slc (f&&decide ((pre.length:Int)=((pre++x::r).length:Int))) (Int.toNat ((pre.length:Int)-(0:Int))) (List.take (Int.toNat ((pre.length:Int)-(0:Int))*1) (br (pre++x::r)))= .slc false pre.length (br pre):=by
 have h1:decide ((pre.length:Int)=((pre++x::r).length:Int))=false:=by simp;omega
 rw[h1,Bool.and_false,Int.sub_zero,za1,Nat.mul_one];unfold br;rw[List.map_append,List.take_left' (by simp)]
theorem tZ{α:Type}(pre:List α)(x:α)(r:List α):decide ((0:Int)≤(0:Int)∧(0:Int)≤(pre.length:Int)∧(pre.length:Int)≤((pre++x::r).length:Int))=true:=by simp;omega
section
variable {f0 f1 f2 f3 f4 f5:Bool}{b0 b1 b2 b3 b4 b5:Nat}{e0 e1 e2 e3 e4 e5:List D}
theorem KY{n:Nat}(l:List ci)(s:ByteArray)(hn:n≤100000)(hl:l.length≤100000):ce 92 [.agg [.slc f0 b0 e0,.slc f1 b1 e1,.slc f2 n e2,.slc f3 l.length (l.flatMap bD),.slc f4 b4 e4,.slc f5 b5 e5],.str s] (ew iD (cS (eH l s) n 0)):=by
 obtain⟨B,hB,hF⟩:=j2 [one 157 [.agg [.slc f0 b0 e0,.slc f1 b1 e1,.slc f2 n e2,.slc f3 l.length (l.flatMap bD),.slc f4 b4 e4,.slc f5 b5 e5],.str s,.fn (.func 158) [] []] (ew iD (cS (eH l s) n 0))] ⟨bL (Hw l s hn hl),trivial⟩ rfl;have e:B 157 [.agg [.slc f0 b0 e0,.slc f1 b1 e1,.slc f2 n e2,.slc f3 l.length (l.flatMap bD),.slc f4 b4 e4,.slc f5 b5 e5],.str s,.fn (.func 158) [] []]=some (ew iD (cS (eH l s) n 0)):=hF.1 ();refine eA hB Tryz.func92 (ord:=O0) (N:=N0) (by kernel_rfl) ((G2 _ _ _ _ _ _ _ _ _ _ _ _ _ _ _ _ _ _ _ _ _ _).trans ?_);rw[e,bm,dX,bH]
theorem KZ{n:Nat}(l:List ci)(s:ByteArray)(hn:n≤100000)(hl:l.length≤100000):ce 93 [.agg [.slc f0 b0 e0,.slc f1 b1 e1,.slc f2 n e2,.slc f3 l.length (l.flatMap bD),.slc f4 b4 e4,.slc f5 b5 e5],.str s] (ew iD (cS (eI l s) n 0)):=by
 obtain⟨B,hB,hF⟩:=j2 [one 157 [.agg [.slc f0 b0 e0,.slc f1 b1 e1,.slc f2 n e2,.slc f3 l.length (l.flatMap bD),.slc f4 b4 e4,.slc f5 b5 e5],.str s,.fn (.func 159) [] []] (ew iD (cS (eI l s) n 0))] ⟨bL (Hx l s hn hl),trivial⟩ rfl;have e:B 157 [.agg [.slc f0 b0 e0,.slc f1 b1 e1,.slc f2 n e2,.slc f3 l.length (l.flatMap bD),.slc f4 b4 e4,.slc f5 b5 e5],.str s,.fn (.func 159) [] []]=some (ew iD (cS (eI l s) n 0)):=hF.1 ();refine eA hB Tryz.func93 (ord:=O0) (N:=N0) (by kernel_rfl) ((G3 _ _ _ _ _ _ _ _ _ _ _ _ _ _ _ _ _ _ _ _ _ _).trans ?_);rw[e,bm,dX,bH]
def gI(l:List ci)(n:Nat)(s:ByteArray):Int:=dM [bx ((n:Int)==0) 12 0,bx (decide (((cS (eH l s) n 0).length:Int)>0)) 7 0,bx (decide (((cS (eI l s) n 0).length:Int)>0)) 29 0]
theorem K0{n:Nat}(l:List ci)(s:ByteArray)(hn:n≤100000)(hl:l.length≤100000):ce 94 [.agg [.slc f0 b0 e0,.slc f1 b1 e1,.slc f2 n e2,.slc f3 l.length (l.flatMap bD),.slc f4 b4 e4,.slc f5 b5 e5],.str s] (.int .i64 (gI l n s)):=by
 obtain⟨B,hB,hF⟩:=j2 [one 92 [.agg [.slc f0 b0 e0,.slc f1 b1 e1,.slc f2 n e2,.slc f3 l.length (l.flatMap bD),.slc f4 b4 e4,.slc f5 b5 e5],.str s] (ew iD (cS (eH l s) n 0)),one 93 [.agg [.slc f0 b0 e0,.slc f1 b1 e1,.slc f2 n e2,.slc f3 l.length (l.flatMap bD),.slc f4 b4 e4,.slc f5 b5 e5],.str s] (ew iD (cS (eI l s) n 0)),fa119,fa87] ⟨bL (KY l s hn hl),bL (KZ l s hn hl),fN,iG,trivial⟩ rfl;have a:B 92 [.agg [.slc f0 b0 e0,.slc f1 b1 e1,.slc f2 n e2,.slc f3 l.length (l.flatMap bD),.slc f4 b4 e4,.slc f5 b5 e5],.str s]=some (ew iD (cS (eH l s) n 0)):=hF.1 ();have b:B 93 [.agg [.slc f0 b0 e0,.slc f1 b1 e1,.slc f2 n e2,.slc f3 l.length (l.flatMap bD),.slc f4 b4 e4,.slc f5 b5 e5],.str s]=some (ew iD (cS (eI l s) n 0)):=hF.2.1 ();have e3:∀(b:Bool) (e:Int),B 119 [.bool b,.int .i64 e]=some (.int .i64 (bx b e 0)):=fun b e=>hF.2.2.1 (b,e);have e4:∀x y z:Int,B 87 [.slc true 3 [.int .i64 x,.int .i64 y,.int .i64 z]]=some (.int .i64 (dM [x,y,z])):=fun x y z=>hF.2.2.2.1 ⟨[x,y,z],by simp⟩;refine eA hB Tryz.func94 (ord:=O0) (N:=N0) (by kernel_rfl) ((G4 _ _ _ _ _ _ _ _ _ _ _ _ _ _ _ _ _ _ _ _ _ _).trans ?_);rw[e3,bm,bo,a,bm,dX,bH,e3,bm,bo,b,bm,dX,bH,e3,bm,bo,e4,bm,bo];rfl
theorem K1{n:Nat}(l:List ci)(s:ByteArray)(hn:n≤100000)(hl:l.length≤100000):ce 29 [.agg [.slc f0 b0 e0,.slc f1 b1 e1,.slc f2 n e2,.slc f3 l.length (l.flatMap bD),.slc f4 b4 e4,.slc f5 b5 e5],.str s] (.int .i64 (gI l n s)):=by
 obtain⟨B,hB,hF⟩:=j2 [one 27 [.agg [.slc f0 b0 e0,.slc f1 b1 e1,.slc f2 n e2,.slc f3 l.length (l.flatMap bD),.slc f4 b4 e4,.slc f5 b5 e5],.str s] (ew iD (cS (eH l s) n 0)),one 28 [.agg [.slc f0 b0 e0,.slc f1 b1 e1,.slc f2 n e2,.slc f3 l.length (l.flatMap bD),.slc f4 b4 e4,.slc f5 b5 e5],.str s] (ew iD (cS (eI l s) n 0))] ⟨bL (KP l s hn hl),bL (KQ l s hn hl),trivial⟩ rfl;have a:B 27 [.agg [.slc f0 b0 e0,.slc f1 b1 e1,.slc f2 n e2,.slc f3 l.length (l.flatMap bD),.slc f4 b4 e4,.slc f5 b5 e5],.str s]=some (ew iD (cS (eH l s) n 0)):=hF.1 ();have b:B 28 [.agg [.slc f0 b0 e0,.slc f1 b1 e1,.slc f2 n e2,.slc f3 l.length (l.flatMap bD),.slc f4 b4 e4,.slc f5 b5 e5],.str s]=some (ew iD (cS (eI l s) n 0)):=hF.2.1 ();refine eA hB Tryz.func29 (ord:=O0) (N:=N0) (by kernel_rfl) ((G9 _ _ _ _ _ _ _ _ _ _ _ _ _ _ _ _ _ _ _ _ _ _).trans ?_);rw[a,bm,dX,bH,b,bm,dX,bH];unfold gI dM;cases (n:Int)==0 with
 |true=>rfl
 |false=>
  cases decide (((cS (eH l s) n 0).length:Int)>0) with
  |true=>rfl
  |false=>cases decide (((cS (eI l s) n 0).length:Int)>0)<;>rfl
end
end Go.Pd
end
