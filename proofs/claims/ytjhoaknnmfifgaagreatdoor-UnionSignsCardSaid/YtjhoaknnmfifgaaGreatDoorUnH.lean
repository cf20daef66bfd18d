import Derived.Test.YtjhoaknnmfifgaaGreatDoorUnG
import Derived.Laws.RangeString
import Derived.Laws.RangeAny
import Derived.Laws.StructEq
section
namespace Go.Pd
open Go Go.Proofs Go.RowKit
def gP(s:ByteArray):Bool:=ByteArray.toList s==ByteArray.toList (ByteArray.mk #[])
def s3(s:ByteArray):Bool:=ByteArray.toList s==ByteArray.toList (ByteArray.mk #[45])
def s4(s:ByteArray):Bool:=ByteArray.toList s==ByteArray.toList (ByteArray.mk #[120])
abbrev cv:=Int×ByteArray
def ci(x:cv):List D:=[.int .i64 x.1,.str x.2]
section
variable {γ:Type}(c:D→Option γ)
theorem n0(pre:List cv)(x:cv)(r:List cv):bn ((pre++x::r).flatMap ci) (Int.toNat (pre.length:Int)*2+0) c=c (.int .i64 x.1):=dE pre x r ci 2 (fun _=>rfl) 0 (by omega) c
theorem n1(pre:List cv)(x:cv)(r:List cv):bn ((pre++x::r).flatMap ci) (Int.toNat (pre.length:Int)*2+1) c=c (.str x.2):=dE pre x r ci 2 (fun _=>rfl) 1 (by omega) c
end
theorem y7(b:Bool)(e:Int):co 110 [.bool b,.int .i64 e] (.int .i64 (bx b e 0)):=
 eM cN Tryz.func110 (ord:=O0) (N:=N0) (by kernel_rfl) ((Ef _ _ _ b e).trans (by cases b<;>rfl))
def wn(x y:Int):Int:=bx (x !=0) x y
theorem KJ(x y:Int):co 108 [.slc true 2 [.int .i64 x,.int .i64 y]] (.int .i64 (wn x y)):=by
 refine eM cN Tryz.func108 (ord:=O0) (N:=Ee) (by kernel_rfl) ((y4 _ _ _ _ _ _).trans ?_);rw[show LL=(4611686018427387901+1)+1+1 from rfl,eF,eF,eF];have h1:IntKind.wrap .i64 ((0:Int)+1)=1:=cW (by omega);have h2:IntKind.wrap .i64 ((1:Int)+1)=2:=cW (by omega);simp only[h1,h2];unfold wn;cases hx:(x !=0) with
 |true=>simp[bn,hx]
 |false=>
  cases hy:(y !=0) with
  |true=>simp[bn,hx,hy]
  |false=>
   have:y=0:=by simpa using hy
   simp[bn,hx,this]
def fZ(c:Int):Bool:=(decide (c≥97)&&decide (c≤122))||(decide (c≥65)&&decide (c≤90))
def lU(s:ByteArray)(i:Nat):Bool:=fZ (cV s i)||(i !=0&&((decide (cV s i≥48)&&decide (cV s i≤57))||cV s i==95))
def gQ(s:ByteArray):Nat→Nat→Bool
 |0,_=>true
 |m+1,i=>lU s i&&gQ s m (i+1)
def cI(s:ByteArray):Bool:=bx (decide ((s.size:Int)<1)) false (bx (decide ((s.size:Int)>24)) false (gQ s s.size 0))
theorem MQ{call:CL}{s:ByteArray}(hs:s.size≤24):∀(m i fuel:Nat),i+m=s.size→m<fuel→ub call LL C1 fuel s i=some (.bool (gQ s m i)):=by
 intro m
 induction m with
 |zero=>
  intro i fuel hi hf;cases fuel with
  |zero=>exact absurd hf (Nat.not_lt_zero _)
  |succ fuel=>
   have h1:decide ((i:Int)<(s.size:Int))=false:=by simp;omega
   rw[sQ,h1,bo];rfl
 |succ m ih=>
  intro i fuel hi hf;cases fuel with
  |zero=>exact absurd hf (Nat.not_lt_zero _)
  |succ fuel=>
   have h1:decide ((i:Int)<(s.size:Int))=true:=by simp;omega
   have h2:decide ((0:Int)≤i∧Int.toNat (i:Int)<s.size)=true:=by simp;omega
   have hw:IntKind.wrap .i64 ((i:Int)+1)=((i+1:Nat):Int):=by rw[cW (by omega)];rfl
   have ih:=ih (i+1) fuel (by omega) (by omega);have h467:js call LL C1 fuel s i=some (.bool (gQ s m (i+1))):=by
    rw[xW _ _ _ _ _ _ (fun _=>rfl:∀t,C1 t=1),hw,ih]
   have h37:∀(c:Int) (b:Bool),gj call LL C1 fuel s i c b=some (.bool ((b||(i !=0&&((decide (c≥48)&&decide (c≤57))||c==95)))&&gQ s m (i+1))):=fun c b=>by
    rw[wh _ _ _ _ _ _ _ _ (fun _=>rfl:∀t,C1 t=1),h467];have hz:((i:Int)==0)= !(i !=0):=by
     cases i<;>rfl
    rw[hz];generalize (i !=0)=q1;generalize decide (c≥48)=q2;generalize decide (c≤57)=q3;generalize (c==95)=q4;cases b<;>cases q1<;>cases q2<;>cases q3<;>cases q4<;>rfl
   rw[sQ,h1,br,h2,bv,h37,h37,h37,show Int.toNat (i:Int)=i by simp];show _=some (D.bool (lU s i&&gQ s m (i+1)));unfold lU fZ;generalize (i !=0&&((decide (cV s i≥48)&&decide (cV s i≤57))||cV s i==95))=q0;generalize decide (cV s i≥97)=q1;generalize decide (cV s i≤122)=q2;generalize decide (cV s i≥65)=q3;generalize decide (cV s i≤90)=q4;cases q1<;>cases q2<;>cases q3<;>cases q4<;>rfl
theorem KL(s:ByteArray):co 80 [.str s] (.bool (cI s)):=by
 refine eM cN Tryz.func80 (ord:=O0) (N:=Iz) (by kernel_rfl) ((Hh _ _ _ s).trans ?_);unfold cI;cases decide ((s.size:Int)<1) with
 |true=>rfl
 |false=>
  rw[bo,bo];cases h2:decide ((s.size:Int)>24) with
  |true=>rfl
  |false=>
   simp only[decide_eq_false_iff_not] at h2;rw[bo,bo,Cm _ _ _ _ (fun _=>rfl:∀t,C1 t=1)];exact MQ (by omega) s.size 0 LL (by omega) (by unfold LL;omega)
theorem KM(c:Int):co 167 [.int .i32 c] (.bool (fZ c)):=by
 refine eM cN Tryz.func167 (ord:=O0) (N:=N0) (by kernel_rfl) ((Eo _ _ _ c).trans ?_);unfold fZ;cases decide (c≥97)<;>cases decide (c≤122)<;>cases decide (c≥65)<;>cases decide (c≤90)<;>rfl
def EL:FuncId→List D→Option D:=fun k ds=>match k,ds with
 |167,[.int .i32 c]=>some (.bool (fZ c))
 |_,_=>none
theorem EM:fc EL:=by
 intro k ds r h;unfold EL at h;split at h
 ·cases h;exact KM _
 ·cases h
theorem KN(c:Int):EL 167 [.int .i32 c]=some (.bool (fZ c)):=rfl
theorem x5{s:ByteArray}{i:Nat}(h:i<s.size):cV s i=(s[i]'h).toNat:=by
 unfold cV;have:s[i]?=some s[i]:=by simp[h]
 rw[this]
theorem KO{s:ByteArray}:∀(m i fuel:Nat),i+m=s.size→m<fuel→kB EL LL C1 fuel s i=some (.bool (gQ s m i&&(!(ByteArray.toList s==ByteArray.toList (ByteArray.mk #[]))&&decide ((s.size:Int)≤24)))):=by
 intro m
 induction m with
 |zero=>
  intro i fuel hi hf;cases fuel with
  |zero=>exact absurd hf (Nat.not_lt_zero _)
  |succ fuel=>
   have h1:decide (i<s.size)=false:=by simp;omega
   rw[qy,h1,bo];show _=some (D.bool (true&&_));cases (ByteArray.toList s==ByteArray.toList (ByteArray.mk #[]))<;>rfl
 |succ m ih=>
  intro i fuel hi hf;cases fuel with
  |zero=>exact absurd hf (Nat.not_lt_zero _)
  |succ fuel=>
   have hlt:i<s.size:=by omega
   have h1:decide (i<s.size)=true:=by simpa using hlt
   have hz:((i:Int)==0)= !(i !=0):=by cases i<;>rfl
   have hb:=x5 hlt;rw[qy,h1,br,KN,bm,bA,hz];show _=some (D.bool ((lU s i&&gQ s m (i+1))&&_));by_cases ha:(s[i]'hlt).toNat<128
   ·have hd:=decode_ascii s i hlt ha;rw[hd];dsimp only;rw[ih (i+1) fuel (by omega) (by omega)];unfold lU;rw[hb];have e1:(((s[i]'hlt).toNat:Int) !=95)= !(((s[i]'hlt).toNat:Int)==95):=rfl;have e2:decide (((s[i]'hlt).toNat:Int)≥48)= !decide (((s[i]'hlt).toNat:Int)<48):=by
     by_cases h:((s[i]'hlt).toNat:Int)<48
     ·rw[show decide (((s[i]'hlt).toNat:Int)<48)=true by simpa using h];simp;omega
     ·rw[show decide (((s[i]'hlt).toNat:Int)<48)=false by simpa using h];simp;omega
    have e3:decide (((s[i]'hlt).toNat:Int)≤57)= !decide (((s[i]'hlt).toNat:Int)>57):=by
     by_cases h:((s[i]'hlt).toNat:Int)>57
     ·rw[show decide (((s[i]'hlt).toNat:Int)>57)=true by simpa using h];simp;omega
     ·rw[show decide (((s[i]'hlt).toNat:Int)>57)=false by simpa using h];simp;omega
    rw[e1,e2,e3];generalize fZ ((s[i]'hlt).toNat:Int)=q1;generalize (i !=0)=q2;generalize decide (((s[i]'hlt).toNat:Int)<48)=q3;generalize decide (((s[i]'hlt).toNat:Int)>57)=q4;generalize (((s[i]'hlt).toNat:Int)==95)=q5;generalize gQ s m (i+1)=q6;cases q1<;>cases q2<;>cases q3<;>cases q4<;>cases q5<;>cases q6<;>rfl
   ·obtain⟨hd,_⟩:=decode_high s i hlt (by omega);generalize Utf8.decode s i=dd at hd;have l1:fZ (dd.1:Int)=false:=by
     unfold fZ;simp;omega
    have l2:((dd.1:Int) !=95)=true:=by simp;omega
    have l3:decide ((dd.1:Int)<48)=false:=by simp;omega
    have l4:decide ((dd.1:Int)>57)=true:=by simp;omega
    have n1:lU s i=false:=by
     unfold lU fZ;rw[hb];simp;omega
    rw[l1,l2,l3,l4,n1];cases (i !=0)<;>rfl
theorem Ct(s:ByteArray):(gQ s s.size 0&&(!(ByteArray.toList s==ByteArray.toList (ByteArray.mk #[]))&&decide ((s.size:Int)≤24)))=cI s:=by
 unfold cI;have h0:(ByteArray.toList s==ByteArray.toList (ByteArray.mk #[]))=decide ((s.size:Int)<1):=by
  rw[ByteArray.toList_eq,ByteArray.toList_eq];have hsz:s.data.toList.length=s.size:=by rw[Array.length_toList];rfl
  by_cases h:(s.size:Int)<1
  ·rw[show decide ((s.size:Int)<1)=true by simpa using h];have:s.data.toList=[]:=List.eq_nil_of_length_eq_zero (by omega);rw[this];rfl
  ·rw[show decide ((s.size:Int)<1)=false by simpa using h];cases hl:s.data.toList with
   |nil=>rw[hl] at hsz;simp at hsz;omega
   |cons x l=>rfl
 rw[h0];have h2:decide ((s.size:Int)≤24)= !decide ((s.size:Int)>24):=by
  by_cases h:(s.size:Int)>24
  ·rw[show decide ((s.size:Int)>24)=true by simpa using h];simp;omega
  ·rw[show decide ((s.size:Int)>24)=false by simpa using h];simp;omega
 rw[h2];cases decide ((s.size:Int)<1)<;>cases decide ((s.size:Int)>24)<;>cases gQ s s.size 0<;>rfl
theorem FA(s:ByteArray)(hs:s.size<4611686018427387904):co 111 [.str s] (.bool (cI s)):=by
 refine eM EM Tryz.func111 (ord:=O0) (N:=Hn) (by kernel_rfl) ((Eg _ _ _ s).trans ?_);rw[←Ct];exact KO s.size 0 LL (by omega) (by unfold LL;omega)
theorem KP(x:Int):co 284 [.int .i64 x] (.bool (decide (x≥1)&&decide (x≤99))):=
 eM cN Tryz.func284 (ord:=O0) (N:=N0) (by kernel_rfl) ((EF _ _ _ x).trans (by cases decide (x≥1)<;>rfl))
theorem KQ(x:Int):co 285 [.int .i64 x] (.bool (x==0)):=
 eM cN Tryz.func285 (ord:=O0) (N:=N0) (by kernel_rfl) ((EG _ _ _ x).trans rfl)
theorem KR:co 231 [] BK:=
 eM cN Tryz.func231 (ord:=O0) (N:=N0) (by kernel_rfl) ((EH _ _ _).trans rfl)
def m6(base:FuncId→List D→Option D):FuncId→List D→Option D:=fun k ds=>match DP k ds with
 |some r=>some r
 |none=>base k ds
theorem Cu{base:FuncId→List D→Option D}(hb:fc base):fc (m6 base):=by
 intro k ds r h;unfold m6 at h;split at h
 ·rename_i d hd;cases h;unfold DP at hd;split at hd
  ·cases hd;exact KR
  ·cases hd
 ·exact hb _ _ _ h
theorem Ad{base:FuncId→List D→Option D}:∀k ds r,DP k ds=some r→m6 base k ds=some r:=fun k ds r h=>by
 unfold m6;rw[h]
theorem NW{base:FuncId→List D→Option D}(hb:fc base){f:FuncId}{fn:Func}(hf:Tryz.prog.funcs[f]?=some fn){ord:iB}{N:bN}(hok:j3 Tryz.prog ord fn=true){ds:List D}{r:D}
  (he:bX (Mp (m6 base) LL C1) ord N .canon fn ds=some r):co f ds r:=
 qd (Te:=Mp (m6 base) LL C1) lQ ⟨AL (Cu hb),(fun _ _ h=>nomatch h),(fun _ _ _ h=>nomatch h),(fun _ _ hi=>nomatch hi)⟩ Ad rfl (fun _ _ _ h=>by cases h) hf (by simp) hok he
def lv(s:ByteArray):Bool:=ByteArray.toList s==ByteArray.toList (ByteArray.mk #[99])
def dY(x:cv):Int:=bx (gP x.2||lv x.2) (bx (decide (x.1<1)||decide (x.1>99)) 3 0) (bx (s4 x.2||s3 x.2) (bx (x.1 !=0) 3 0) 13)
theorem FB(x:cv):co 145 [.agg [.int .i64 x.1,.str x.2]] (.int .i64 (dY x)):=by
 refine eM cN Tryz.func145 (ord:=O0) (N:=N0) (by kernel_rfl) ((Ej _ _ _ x.1 x.2).trans ?_);unfold dY gP lv s4 s3;generalize (ByteArray.toList x.2==ByteArray.toList (ByteArray.mk #[]))=q1;generalize (ByteArray.toList x.2==ByteArray.toList (ByteArray.mk #[99]))=q2;generalize (ByteArray.toList x.2==ByteArray.toList (ByteArray.mk #[120]))=q3;generalize (ByteArray.toList x.2==ByteArray.toList (ByteArray.mk #[45]))=q4;generalize decide (x.1<1)=q5;generalize decide (x.1>99)=q6;generalize (x.1 !=0)=q7;cases q1<;>cases q2<;>cases q3<;>cases q4<;>cases q5<;>cases q6<;>cases q7<;>rfl
def Cv:FuncId→List D→Option D:=fun k ds=>match k,ds with
 |284,[.int .i64 x]=>some (.bool (decide (x≥1)&&decide (x≤99)))
 |285,[.int .i64 x]=>some (.bool (x==0))
 |110,[.bool b,.int .i64 e]=>some (.int .i64 (bx b e 0))
 |_,_=>none
theorem EN:fc Cv:=by
 intro k ds r h;unfold Cv at h;split at h
 ·cases h;exact KP _
 ·cases h;exact KQ _
 ·cases h;exact y7 _ _
 ·cases h
theorem KS(x:Int):m6 Cv 284 [.int .i64 x]=some (.bool (decide (x≥1)&&decide (x≤99))):=rfl
theorem KT(x:Int):m6 Cv 285 [.int .i64 x]=some (.bool (x==0)):=rfl
theorem KU(b:Bool)(e:Int):m6 Cv 110 [.bool b,.int .i64 e]=some (.int .i64 (bx b e 0)):=rfl
theorem KV(x:cv):co 168 [.agg [.int .i64 x.1,.str x.2]] (.int .i64 (dY x)):=by
 refine NW EN Tryz.func168 (ord:=KD) (N:=N0) (by kernel_rfl) ((Ep _ _ _ x.1 x.2).trans ?_);simp only[KS,KT,KU,bm,bA,bp];unfold dY gP lv s4 s3;have e1:decide (x.1≥1)= !decide (x.1<1):=by
  by_cases h:x.1<1
  ·rw[show decide (x.1<1)=true by simpa using h];simp;omega
  ·rw[show decide (x.1<1)=false by simpa using h];simp;omega
 have e2:decide (x.1≤99)= !decide (x.1>99):=by
  by_cases h:x.1>99
  ·rw[show decide (x.1>99)=true by simpa using h];simp;omega
  ·rw[show decide (x.1>99)=false by simpa using h];simp;omega
 have e3:(x.1 !=0)= !(x.1==0):=rfl;rw[e1,e2,e3];generalize (ByteArray.toList x.2==ByteArray.toList (ByteArray.mk #[]))=q1;generalize (ByteArray.toList x.2==ByteArray.toList (ByteArray.mk #[99]))=q2;generalize (ByteArray.toList x.2==ByteArray.toList (ByteArray.mk #[120]))=q3;generalize (ByteArray.toList x.2==ByteArray.toList (ByteArray.mk #[45]))=q4;generalize decide (x.1<1)=q5;generalize decide (x.1>99)=q6;generalize (x.1==0)=q7;cases q1<;>cases q2<;>cases q3<;>cases q4<;>cases q5<;>cases q6<;>cases q7<;>rfl
def eG:List cv→Int
 |[]=>0
 |x::r=>bx (dY x !=0) (dY x) (eG r)
def Ae:FuncId→List D→Option D:=fun k ds=>match k,ds with
 |145,[.agg [.int .i64 x,.str s]]=>some (.int .i64 (dY (x,s)))
 |168,[.agg [.int .i64 x,.str s]]=>some (.int .i64 (dY (x,s)))
 |_,_=>none
theorem y8:fc Ae:=by
 intro k ds r h;unfold Ae at h;split at h
 ·rename_i x s;cases h;exact FB (x,s)
 ·rename_i x s;cases h;exact KV (x,s)
 ·cases h
theorem KW(x:Int)(s:ByteArray):Ae 145 [.agg [.int .i64 x,.str s]]=some (.int .i64 (dY (x,s))):=rfl
theorem KX(x:Int)(s:ByteArray):Ae 168 [.agg [.int .i64 x,.str s]]=some (.int .i64 (dY (x,s))):=rfl
theorem KY{f:Bool}{n:Nat}:∀(r pre:List cv) (fuel:Nat),(pre++r).length=n→n≤1000→r.length<fuel→pp Ae LL C1 fuel f n ((pre++r).flatMap ci) (pre.length:Int)=some (.int .i64 (eG r)):=by
 intro r
 induction r with
 |nil=>
  intro pre fuel hn hB hf;cases fuel with
  |zero=>exact absurd hf (Nat.not_lt_zero _)
  |succ fuel=>
   subst hn;rw[qz,ct,bo];rfl
 |cons x r ih=>
  intro pre fuel hn hB hf;cases fuel with
  |zero=>exact absurd hf (Nat.not_lt_zero _)
  |succ fuel=>
   have ih:=ih (pre++[x]) fuel (by rw[cR];exact hn) hB (by simp at hf;omega);rw[cR] at ih;subst hn;rw[qz,cJ,br,cE,bv,n0,bp,n1,bu,KW,bm,bp,ch pre x r (by omega),ih,show eG (x::r)=bx (dY x !=0) (dY x) (eG r) from rfl];show bx (dY x !=0) (some (D.int .i64 (dY x))) _=_;cases dY x !=0<;>rfl
theorem KZ{f:Bool}{n:Nat}:∀(r pre:List cv) (fuel:Nat),(pre++r).length=n→n≤1000→r.length<fuel→pq Ae LL C1 fuel f n ((pre++r).flatMap ci) n (pre.length:Int)=some (.int .i64 (eG r)):=by
 intro r
 induction r with
 |nil=>
  intro pre fuel hn hB hf;cases fuel with
  |zero=>exact absurd hf (Nat.not_lt_zero _)
  |succ fuel=>
   subst hn;rw[qA,ct,bo];rfl
 |cons x r ih=>
  intro pre fuel hn hB hf;cases fuel with
  |zero=>exact absurd hf (Nat.not_lt_zero _)
  |succ fuel=>
   have ih:=ih (pre++[x]) fuel (by rw[cR];exact hn) hB (by simp at hf;omega);rw[cR] at ih;subst hn;rw[qA,cJ,br,cE,bv,n0,bp,n1,bu,KX,bm,bp,ch pre x r (by omega),ih,show eG (x::r)=bx (dY x !=0) (dY x) (eG r) from rfl];show bx (dY x !=0) (some (D.int .i64 (dY x))) _=_;cases dY x !=0<;>rfl
theorem K0{f:Bool}(l:List cv)(hl:l.length≤1000):co 220 [.slc f l.length (l.flatMap ci)] (.int .i64 (eG l)):=by
 refine eM y8 Tryz.func220 (ord:=O0) (N:=Ho) (by kernel_rfl) ((Es _ _ _ _ _ _).trans ?_);exact KY (f:=f) l [] LL rfl hl (by unfold LL;omega)
theorem K1{f:Bool}(l:List cv)(hl:l.length≤1000):co 112 [.slc f l.length (l.flatMap ci)] (.int .i64 (eG l)):=by
 refine eM y8 Tryz.func112 (ord:=O0) (N:=Hp) (by kernel_rfl) ((Et _ _ _ _ _ _).trans ?_);exact KZ (f:=f) l [] LL rfl hl (by unfold LL;omega)
def ko(n:Nat)(c:List D)(P S:Nat→Int):Prop:=∀i,i<n→c[i*2+0]?=some (.int .i64 (P i))∧c[i*2+1]?=some (.int .i64 (S i))
def HV(n:Nat)(P S:Nat→Int)(i:Nat):Bool:=decide (P i<3)||decide (P i>6)||decide (S i<1)||decide (S i>n)
def nM(S:Nat→Int)(i:Nat):Nat→Nat→Bool
 |0,_=>false
 |m+1,k=>bx (S k==S i) true (nM S i m (k+1))
def py(n:Nat)(P S:Nat→Int)(i:Nat):Int:=bx (HV n P S i) 3 (bx (nM S i i 0) 9 0)
def kL(n:Nat)(P S:Nat→Int):Nat→Nat→Int
 |0,_=>0
 |m+1,i=>bx (py n P S i !=0) (py n P S i) (kL n P S m (i+1))
def dQ(n:Nat)(P S:Nat→Int):Int:=bx ((n:Int)==0) 12 (bx (decide ((n:Int)>36)) 5 (kL n P S n 0))
theorem y9{call:CL}{f:Bool}{n:Nat}{c:List D}{P:Nat→Int}{S:Nat→Int}(hc:ko n c P S)(hn:n≤36)(fu:Nat)(i:Nat)(hi:i<n):∀(m k fuel:Nat),k+m=i→m<fuel→kC call LL C1 fu fuel f n c i k=bx (nM S i m k) (some (.int .i64 9)) (mM call LL C1 fu f n c ((i+1:Nat):Int))
 |0,k,fuel+1,h,_=>by
  rw[mN];have h1:decide ((k:Int)<i)=false:=by simp;omega
  rw[h1,bo,cW (x:=(i:Int)+1) (by omega)];rfl
 |m+1,k,fuel+1,h,hf=>by
  rw[mN];have h1:decide ((k:Int)<i)=true:=by simp;omega
  have h2:decide ((0:Int)≤k∧(k:Int)<n)=true:=by simp;omega
  have h3:decide ((0:Int)≤i∧(i:Int)<n)=true:=by simp;omega
  rw[h1,h2,h3,br,bv,cU (by simpa using (hc k (by omega)).2),bp,bv,cU (by simpa using (hc i hi).2),bp,cW (by omega)];have:=y9 (call:=call) (f:=f) (n:=n) (c:=c) (P:=P) (S:=S) hc hn fu i hi m (k+1) fuel (by omega) (by omega);rw[show((k:Int)+1)=((k+1:Nat):Int) from rfl,this];rw[show nM S i (m+1) k=bx (S k==S i) true (nM S i m (k+1)) from rfl];cases S k==S i<;>rfl
theorem za{call:CL}{f:Bool}{n:Nat}{c:List D}{P:Nat→Int}{S:Nat→Int}(hc:ko n c P S)(hn:n≤36):∀(m i fuel:Nat),i+m=n→m<fuel→mM call LL C1 fuel f n c i=some (.int .i64 (kL n P S m i))
 |0,i,fuel+1,h,_=>by
  rw[qC];have h1:decide ((i:Int)<n)=false:=by simp;omega
  rw[h1];rfl
 |m+1,i,fuel+1,h,hf=>by
  have hi:i<n:=by omega
  rw[qC];have h1:decide ((i:Int)<n)=true:=by simp;omega
  have h2:decide ((0:Int)≤i∧(i:Int)<n)=true:=by simp;omega
  have hp:=(hc i hi).1;have hs:=(hc i hi).2;have e1:Int.toNat (i:Int)=i:=by simp
  rw[wk _ _ _ _ _ _ _ _ (fun _=>rfl:∀t,C1 t=1)];have hin:=y9 (call:=call) (f:=f) hc hn fuel i hi i 0 LL (by omega) (by unfold LL;omega);rw[show((0:Nat):Int)=0 from rfl] at hin;rw[hin,za (call:=call) (f:=f) (n:=n) (c:=c) (P:=P) (S:=S) hc hn m (i+1) fuel (by omega) (by omega)];simp only[h1,h2,e1,br,bv,cU hp,cU hs,bp];simp only[kL,py,HV];generalize decide (P i<3)=q1;generalize decide (P i>6)=q2;generalize decide (S i<1)=q3;generalize decide (S i>(n:Int))=q4;generalize nM S i i 0=q5;cases q1<;>cases q2<;>cases q3<;>cases q4<;>cases q5<;>rfl
theorem K2{f:Bool}{n:Nat}{c:List D}{P S:Nat→Int}(hc:ko n c P S):co 83 [.slc f n c] (.int .i64 (dQ n P S)):=by
 refine eM cN Tryz.func83 (ord:=O0) (N:=KE) (by kernel_rfl) ((Hq _ _ _ _ _ _).trans ?_);unfold dQ;cases hn0:((n:Int)==0) with
 |true=>rw[br,br]
 |false=>
  cases hn:decide ((n:Int)>36) with
  |true=>rw[bo,br,bo,br]
  |false=>
   simp at hn;have:=za (call:=fun _ _=>none) (f:=f) hc (by omega) n 0 LL (by omega) (by unfold LL;omega);rw[show((0:Nat):Int)=0 from rfl] at this;rw[bo,bo,bo,bo];exact this
def ul:FuncId→List D→Option D:=fun k ds=>match k,ds with
 |110,[.bool b,.int .i64 e]=>some (.int .i64 (bx b e 0))
 |108,[.slc true 2 [.int .i64 x,.int .i64 y]]=>some (.int .i64 (wn x y))
 |_,_=>none
theorem EO:fc ul:=by
 intro k ds r h;unfold ul at h;split at h
 ·cases h;exact y7 _ _
 ·cases h;exact KJ _ _
 ·cases h
def lw(S:Nat→Int):Nat→List D
 |0=>[]
 |i+1=>lw S i++[.int .i64 (S i)]
def eH:Nat→List D
 |0=>[]
 |i+1=>eH i++[.bool true]
theorem fj:∀(i j:Nat),j<i→(eH i)[j]?=some (.bool true)
 |i+1,j,h=>by
  have hl:∀i,(eH i).length=i:=fun i=>by induction i with
   |zero=>rfl
   |succ i ih=>simp[eH,ih]
  unfold eH;by_cases hj:j<i
  ·rw[zb5 (by rw[hl];exact hj)];exact fj i j hj
  ·have:j=i:=by omega
   subst this;rw[zb4 (by rw[hl];omega),hl];simp
theorem s5(S:Nat→Int):∀i,(lw S i).length=i
 |0=>rfl
 |i+1=>by simp[lw,s5 S i]
theorem qW(x:Int):∀(l:List Int) (i:Nat),(cF (.int .i64 x) (l.map (D.int .i64)) i=some none∧∀y∈l,y≠x)∨∃j,cF (.int .i64 x) (l.map (D.int .i64)) i=some (some (i+j))∧j<l.length∧∃y∈l,y=x
 |[],i=> .inl ⟨rfl,by simp⟩
 |y::l,i=>by
  have hk:fp (.int .i64 x) (.int .i64 y)=some (x==y):=by simp[fp]
  simp only[List.map_cons,cF,hk];cases hxy:(x==y) with
  |true=>
   have:x=y:=by simpa using hxy
   subst this;exact .inr ⟨0,rfl,by simp,x,by simp,rfl⟩
  |false=>
   have hne:x≠y:=by simpa using hxy
   rcases qW x l (i+1) with⟨h1,h2⟩|⟨j,h1,h2,z,h3,h4⟩
   ·exact .inl ⟨h1,fun z hz=>by rcases List.mem_cons.1 hz with rfl|hz;exact fun e=>hne e.symm;exact h2 z hz⟩
   ·exact .inr ⟨j+1,by rw[show i+(j+1)=i+1+j by omega];exact h1,by simp;exact h2,z,za4 _ h3,h4⟩
def oF(S:Nat→Int):Nat→List Int
 |0=>[]
 |i+1=>oF S i++[S i]
theorem qX(S:Nat→Int):∀i,lw S i=(oF S i).map (D.int .i64)
 |0=>rfl
 |i+1=>by simp[lw,oF,qX S i]
theorem nN(S:Nat→Int):∀(i:Nat) (y:Int),y∈oF S i↔∃k,k<i∧S k=y
 |0,y=>by simp[oF]
 |i+1,y=>by
  simp only[oF,za8,zc7,nN S i y];constructor
  ·rintro (⟨k,h1,h2⟩|rfl)
   ·exact⟨k,by omega,h2⟩
   ·exact⟨i,by omega,rfl⟩
  ·rintro ⟨k,h1,h2⟩
   by_cases hk:k<i
   ·exact .inl ⟨k,hk,h2⟩
   ·have:k=i:=by omega
    subst this;exact .inr h2.symm
theorem qY(S:Nat→Int)(i:Nat):∀(m k:Nat),nM S i m k=true↔∃j,k≤j∧j<k+m∧S j=S i
 |0,k=>by simp[nM];intro j h1 h2;omega
 |m+1,k=>by
  rw[show nM S i (m+1) k=bx (S k==S i) true (nM S i m (k+1)) from rfl,F8];by_cases h:S k=S i
  ·simp only[h,BEq.rfl,if_true,true_iff];exact⟨k,by omega,by omega,h⟩
  ·have:(S k==S i)=false:=by simpa using h
   rw[this];simp only[Bool.false_eq_true,if_false,qY S i m (k+1)];constructor
   ·rintro ⟨j,h1,h2,h3⟩;exact⟨j,by omega,by omega,h3⟩
   ·rintro ⟨j,h1,h2,h3⟩
    have:j≠k:=fun e=>h (e▸h3);exact⟨j,by omega,by omega,h3⟩
theorem Af(S:Nat→Int)(i:Nat):(cF (.int .i64 (S i)) (lw S i) 0=some none∧nM S i i 0=false)∨∃j,cF (.int .i64 (S i)) (lw S i) 0=some (some j)∧j<i∧nM S i i 0=true:=by
 rw[qX];have hl:(oF S i).length=i:=by have:=s5 S i;rw[qX] at this;simpa using this
 rcases qW (S i) (oF S i) 0 with⟨h1,h2⟩|⟨j,h1,h2,y,h3,h4⟩
 ·refine .inl ⟨h1,?_⟩;cases hd:nM S i i 0 with
  |false=>rfl
  |true=>
   obtain⟨j,_,hj,hs⟩:=(qY S i i 0).1 hd;exact absurd hs (h2 _ ((nN S i _).2 ⟨j,by omega,rfl⟩))
 ·refine .inr ⟨j,by simpa using h1,by omega,?_⟩;obtain⟨k,hk,hs⟩:=(nN S i y).1 h3;exact(qY S i i 0).2 ⟨k,by omega,by omega,by rw[hs,h4]⟩
theorem wo{f:Bool}{n:Nat}{c:List D}{P:Nat→Int}{S:Nat→Int}(hc:ko n c P S)(hn:n≤36):∀(m i fuel:Nat),i+m=n→m<fuel→kn ul LL C1 fuel f n c n i (lw S i) (eH i)=some (.int .i64 (kL n P S m i))
 |0,i,fuel+1,h,_=>by
  rw[oy];have h1:decide ((i:Int)<n)=false:=by simp;omega
  rw[h1];rfl
 |m+1,i,fuel+1,h,hf=>by
  have hi:i<n:=by omega
  rw[oy];have h1:decide ((i:Int)<n)=true:=by simp;omega
  have h2:decide ((0:Int)≤i∧(i:Int)<n)=true:=by simp;omega
  have hp:=(hc i hi).1;have hs:=(hc i hi).2;have e1:Int.toNat (i:Int)=i:=by simp
  have c110:∀(b:Bool) (e:Int),ul 110 [.bool b,.int .i64 e]=some (.int .i64 (bx b e 0)):=fun _ _=>rfl;have c108:∀(x y:Int),ul 108 [.slc true 2 [.int .i64 x,.int .i64 y]]=some (.int .i64 (wn x y)):=fun _ _=>rfl;have ih:=wo (f:=f) (n:=n) (c:=c) (P:=P) (S:=S) hc hn m (i+1) fuel (by omega) (by omega);have hu:fp (.int .i64 (S i)) (.int .i64 (S i))=some true:=by simp[fp]
  have hw:IntKind.wrap .i64 ((i:Int)+1)=((i+1:Nat):Int):=by rw[cW (by omega)];rfl
  have k31:∀(ve vx vx1:Int) (ks vs:List D),dF ul LL C1 fuel f n c n i ks vs ve vx vx1=bx (ve !=0) (some (.int .i64 ve)) (kQ (ji (.int .i64 vx1) (.bool true) ks vs) fun ks vs=>kn ul LL C1 fuel f n c n ((i+1:Nat):Int) ks vs):=fun ve vx vx1 ks vs=>by
   rw[rF _ _ _ _ _ _ _ _ _ _ _ _ _ _ (fun _=>rfl:∀t,C1 t=1),rE _ _ _ _ _ _ _ _ _ _ _ _ _ (fun _=>rfl:∀t,C1 t=1),hw]
  simp only[h1,h2,e1,br,bv,cU hp,cU hs,bp,c110,c108,bm,k31];simp only[kL,py,HV];rcases Af S i with⟨f1,f2⟩|⟨j,f1,f2,f3⟩
  ·rw[f1,f2];have hup:ji (.int .i64 (S i)) (.bool true) (lw S i) (eH i)=some (lw S (i+1),eH (i+1)):=by
    unfold ji;rw[f1];rfl
   simp only[f9,hup,kQ,ih,wn];generalize decide (P i<3)=q1;generalize decide (P i>6)=q2;generalize decide (S i<1)=q3;generalize decide (S i>(n:Int))=q4;cases q1<;>cases q2<;>cases q3<;>cases q4<;>rfl
  ·rw[f1,f3];simp only[f9,cU (fj i j f2),bA,wn];generalize decide (P i<3)=q1;generalize decide (P i>6)=q2;generalize decide (S i<1)=q3;generalize decide (S i>(n:Int))=q4;cases q1<;>cases q2<;>cases q3<;>cases q4<;>rfl
theorem Cw{f:Bool}{n:Nat}{c:List D}{P S:Nat→Int}(hc:ko n c P S):co 109 [.slc f n c] (.int .i64 (dQ n P S)):=by
 refine eM EO Tryz.func109 (ord:=O0) (N:=Cn) (by kernel_rfl) ((Eu _ _ _ _ _ _).trans ?_);have c110:∀(b:Bool) (e:Int),ul 110 [.bool b,.int .i64 e]=some (.int .i64 (bx b e 0)):=fun _ _=>rfl;have c108:∀(x y:Int),ul 108 [.slc true 2 [.int .i64 x,.int .i64 y]]=some (.int .i64 (wn x y)):=fun _ _=>rfl;simp only[c110,c108,bm,bp];unfold dQ;cases hn0:((n:Int)==0) with
 |true=>
  simp only[br];rfl
 |false=>
  cases hn:decide ((n:Int)>36) with
  |true=>
   simp only[br,bo];rfl
  |false=>
   simp at hn;have:=wo (f:=f) hc (by omega) n 0 LL (by omega) (by unfold LL;omega);rw[show((0:Nat):Int)=0 from rfl] at this;rw[show(wn (bx false (12:Int) 0) (bx false (5:Int) 0) !=0)=false from rfl,bo,bo,bo];exact this
def EP(x y z w:Int):Int:=bx (x !=0) x (bx (y !=0) y (bx (z !=0) z w))
theorem HW(x y z w:Int):co 108 [.slc true 4 [.int .i64 x,.int .i64 y,.int .i64 z,.int .i64 w]] (.int .i64 (EP x y z w)):=by
 refine eM cN Tryz.func108 (ord:=O0) (N:=Ee) (by kernel_rfl) ((y4 _ _ _ _ _ _).trans ?_);rw[show LL=(4611686018427387899+1)+1+1+1+1 from rfl,eF,eF,eF,eF,eF];have h1:IntKind.wrap .i64 ((0:Int)+1)=1:=cW (by omega);have h2:IntKind.wrap .i64 ((1:Int)+1)=2:=cW (by omega);have h3:IntKind.wrap .i64 ((2:Int)+1)=3:=cW (by omega);have h4:IntKind.wrap .i64 ((3:Int)+1)=4:=cW (by omega);simp only[h1,h2,h3,h4];unfold EP;cases hx:(x !=0) with
 |true=>simp[bn,hx]
 |false=>
  cases hy:(y !=0) with
  |true=>simp[bn,hx,hy]
  |false=>
   cases hz:(z !=0) with
   |true=>simp[bn,hx,hy,hz]
   |false=>
    cases hw:(w !=0) with
    |true=>simp[bn,hx,hy,hz,hw]
    |false=>
     have:w=0:=by simpa using hw
     simp[bn,hx,hy,hz,this]
section
variable {f g:Bool}{n:Nat}{c:List D}{P S:Nat→Int}
def jy(n:Nat)(P S:Nat→Int)(s:ByteArray)(l:List cv):Int:=EP (dQ n P S) (bx (!cI s) 8 0) (bx ((l.length:Int) !=n) 2 0) (eG l)
theorem K3(hc:ko n c P S)(s:ByteArray)(l:List cv)(hs:s.size<4611686018427387904)(hl:l.length≤1000):co 41 [.slc f n c,.agg [.str s,.slc g l.length (l.flatMap ci)]] (.int .i64 (jy n P S s l)):=by
 have hb:fc (lL [(109,[.slc f n c],.int .i64 (dQ n P S)),(111,[.str s],.bool (cI s)),(112,[.slc g l.length (l.flatMap ci)],.int .i64 (eG l)),
   (108,[.slc true 4 [.int .i64 (dQ n P S),.int .i64 (bx (!cI s) 8 0),.int .i64 (bx ((l.length:Int) !=n) 2 0),.int .i64 (eG l)]],.int .i64 (jy n P S s l)),
   (110,[.bool (!cI s),.int .i64 8],.int .i64 (bx (!cI s) 8 0)),(110,[.bool ((l.length:Int) !=n),.int .i64 2],.int .i64 (bx ((l.length:Int) !=n) 2 0))]):=tW fun e he=>by
  simp only[List.mem_cons,List.not_mem_nil,or_false] at he;rcases he with rfl|rfl|rfl|rfl|rfl|rfl
  ·exact Cw hc
  ·exact FA s hs
  ·exact K1 l hl
  ·exact HW _ _ _ _
  ·exact y7 _ _
  ·exact y7 _ _
 refine eM hb Tryz.func41 (ord:=O0) (N:=N0) (by kernel_rfl) ((Hr _ _ _ _ _ _ _ _ _ _).trans ?_);have n1:∀{a b:D} {x y:Int},x≠y→[a,D.int .i64 x]≠[b,D.int .i64 y]:=fun h e=>by simp at e;exact h e.2
 rw[fE,bm,bp,cQ (by decide),fE,bm,bA,
  cQ (by decide),cQ (by decide),cQ (by decide),cQ (by decide),fE,bm,bp,
  cQ (by decide),cQ (by decide),cQ (by decide),cQ (by decide),xK (n1 (by decide)),fE,bm,bp,
  cQ (by decide),cQ (by decide),fE,bm,bp,
  cQ (by decide),cQ (by decide),cQ (by decide),fE,bm,bp]
theorem K4(hc:ko n c P S)(s:ByteArray)(l:List cv)(hl:l.length≤1000):co 152 [.slc f n c,.agg [.str s,.slc g l.length (l.flatMap ci)]] (.int .i64 (jy n P S s l)):=by
 have hb:fc (lL [(83,[.slc f n c],.int .i64 (dQ n P S)),(80,[.str s],.bool (cI s)),(220,[.slc g l.length (l.flatMap ci)],.int .i64 (eG l))]):=tW fun e he=>by
  simp only[List.mem_cons,List.not_mem_nil,or_false] at he;rcases he with rfl|rfl|rfl
  ·exact K2 hc
  ·exact KL s
  ·exact K0 l hl
 refine eM hb Tryz.func152 (ord:=O0) (N:=Ev) (by kernel_rfl) ((Ew _ _ _ _ _ _ _ _ _ _).trans ?_);have h31:∀e,kD ((lL [(83,[.slc f n c],.int .i64 (dQ n P S)),(80,[.str s],.bool (cI s)),(220,[.slc g l.length (l.flatMap ci)],.int .i64 (eG l))])) LL C1 s g l.length (l.flatMap ci) e=some (.int .i64 (bx (e==0) (eG l) e)):=fun e=>by
  rw[xX _ _ _ _ _ _ _ _ (fun _=>rfl:∀t,C1 t=1),cQ (by decide),cQ (by decide),fE,bm,bp];cases e==0<;>rfl
 have h15:∀e,kE ((lL [(83,[.slc f n c],.int .i64 (dQ n P S)),(80,[.str s],.bool (cI s)),(220,[.slc g l.length (l.flatMap ci)],.int .i64 (eG l))])) LL C1 f n c s g l.length (l.flatMap ci) e=some (.int .i64 (bx (e==0) (bx ((l.length:Int) !=n) 2 (eG l)) e)):=fun e=>by
  rw[xY _ _ _ _ _ _ _ _ _ _ _ (fun _=>rfl:∀t,C1 t=1),h31,h31];cases he:e==0 with
  |true=>cases ((l.length:Int) !=n)<;>rfl
  |false=>rfl
 rw[fE,bm,bp,cQ (by decide),fE,bm,bA,h15,h15];unfold jy EP;cases hz:dQ n P S==0 with
 |true=>
  have h0:dQ n P S=0:=by simpa using hz
  rw[h0];cases cI s<;>cases ((l.length:Int) !=n)<;>rfl
 |false=>
  have h0:(dQ n P S !=0)=true:=by simpa using hz
  rw[h0];rfl
end
abbrev c6:=ByteArray×ByteArray×Int
abbrev ce:=ByteArray×ByteArray×Int×cv
abbrev jL:=Int×Int
abbrev CrdV:=ByteArray×Bool×List cv
abbrev KepV:=ByteArray×(Bool×List jL)×(Bool×List CrdV)
def bq(l:List ByteArray):List D:=l.map D.str
def bH(m:c6):List D:=[.str m.1,.str m.2.1,.int .i64 m.2.2]
def bB(m:ce):List D:=[.str m.1,.str m.2.1,.int .i64 m.2.2.1,.int .i64 m.2.2.2.1,.str m.2.2.2.2]
def bL(h:jL):List D:=[.int .i64 h.1,.int .i64 h.2]
def jz(c:CrdV):List D:=[.str c.1,.slc c.2.1 c.2.2.length (c.2.2.flatMap ci)]
def bK(k:KepV):List D:=[.str k.1,.slc k.2.1.1 k.2.1.2.length (k.2.1.2.flatMap bL),.slc k.2.2.1 k.2.2.2.length (k.2.2.2.flatMap jz)]
structure UV where
 (cf mf hf kf sf pf:Bool)
 cl:List ByteArray
 me:List c6
 ho:List jL
 mr:List ce
 sg:List ByteArray
 pa:List KepV
def jM(u:UV):D:= .agg [.slc u.cf u.cl.length (bq u.cl),.slc u.mf u.me.length (u.me.flatMap bH),.slc u.hf u.ho.length (u.ho.flatMap bL),.slc u.kf u.mr.length (u.mr.flatMap bB),.slc u.sf u.sg.length (bq u.sg),.slc u.pf u.pa.length (u.pa.flatMap bK)]
def UV.Fit(u:UV):Prop:=u.cl.length≤100000∧u.me.length≤100000∧u.ho.length≤100000∧u.mr.length≤100000∧u.sg.length≤100000∧u.pa.length≤100000
def de(a b:ByteArray):Bool:=ByteArray.toList a==ByteArray.toList b
theorem m7(a b:ByteArray):de a b=de b a:=by
 unfold de;rw[Bool.eq_iff_iff,zd5,zd5];exact⟨Eq.symm,Eq.symm⟩
theorem sEq_iff{a b:ByteArray}:de a b=true↔a=b:=by
 unfold de;rw[zd5,ByteArray.toList_eq,ByteArray.toList_eq];constructor
 ·intro h;apply ByteArray.ext;exact Array.toList_inj.1 h
 ·intro h;rw[h]
def jN{α:Type}(p:α→Bool):List α→Nat→Int
 |[],_=> -1
 |x::r,i=>bx (p x) (i:Int) (jN p r (i+1))
def ix{α:Type}(p:α→Bool)(l:List α):Int:=jN p l 0
theorem s6{α:Type}(p:α→Bool):∀(l:List α) (i:Nat),(l.find? p=none∧jN p l i= -1)∨∃j x,j<l.length∧l[j]?=some x∧l.find? p=some x∧jN p l i=((i+j:Nat):Int)
 |[],i=> .inl ⟨rfl,rfl⟩
 |x::r,i=>by
  rw[show jN p (x::r) i=bx (p x) (i:Int) (jN p r (i+1)) from rfl];cases hp:p x with
  |true=>exact .inr ⟨0,x,by simp,rfl,by simp[hp],rfl⟩
  |false=>
   rw[bo];rcases s6 p r (i+1) with⟨h1,h2⟩|⟨j,y,h1,h2,h3,h4⟩
   ·exact .inl ⟨by simp[hp,h1],h2⟩
   ·exact .inr ⟨j+1,y,by simp;exact h1,by simpa using h2,by simp[hp,h3],by rw[h4];congr 1;omega⟩
theorem kM{α:Type}(p:α→Bool)(l:List α):(l.find? p=none∧ix p l= -1)∨∃j x,j<l.length∧l[j]?=some x∧l.find? p=some x∧ix p l=(j:Int):=by
 rcases s6 p l 0 with h|⟨j,x,h1,h2,h3,h4⟩
 ·exact .inl h
 ·exact .inr ⟨j,x,h1,h2,h3,by rw[show ix p l=jN p l 0 from rfl,h4,Nat.zero_add]⟩
theorem Cx{α:Type}(p:α→Bool)(l:List α):decide (ix p l≥0)=l.any p:=by
 rcases kM p l with⟨h1,h2⟩|⟨j,x,h1,h2,h3,h4⟩
 ·rw[h2];have:l.any p=false:=by
   cases h:l.any p with
   |false=>rfl
   |true=>
    obtain⟨x,hx,hp⟩:=List.any_eq_true.1 h;exact absurd hp (List.find?_eq_none.1 h1 x hx)
  rw[this];rfl
 ·rw[h4];have:l.any p=true:=List.any_eq_true.2 ⟨x,List.mem_of_find?_eq_some h3,List.find?_some h3⟩;rw[this];simp
theorem HX{α:Type}(p:α→Bool)(l:List α):decide (ix p l<0)= !l.any p:=by
 rw[←Cx];by_cases h:ix p l<0
 ·rw[show decide (ix p l<0)=true by simpa using h];have:decide (ix p l≥0)=false:=by simp;omega
  rw[this];rfl
 ·rw[show decide (ix p l<0)=false by simpa using h];have:decide (ix p l≥0)=true:=by simp;omega
  rw[this];rfl
section
variable {γ:Type}(c:D→Option γ)
theorem HY(pre:List c6)(x:c6)(r:List c6):bn ((pre++x::r).flatMap bH) (Int.toNat (pre.length:Int)*3+0) c=c (.str x.1):=dE pre x r bH 3 (fun _=>rfl) 0 (by omega) c
theorem m1(pre:List c6)(x:c6)(r:List c6):bn ((pre++x::r).flatMap bH) (Int.toNat (pre.length:Int)*3+1) c=c (.str x.2.1):=dE pre x r bH 3 (fun _=>rfl) 1 (by omega) c
theorem m2(pre:List c6)(x:c6)(r:List c6):bn ((pre++x::r).flatMap bH) (Int.toNat (pre.length:Int)*3+2) c=c (.int .i64 x.2.2):=dE pre x r bH 3 (fun _=>rfl) 2 (by omega) c
theorem k0(pre:List ce)(x:ce)(r:List ce):bn ((pre++x::r).flatMap bB) (Int.toNat (pre.length:Int)*5+0) c=c (.str x.1):=dE pre x r bB 5 (fun _=>rfl) 0 (by omega) c
theorem k1(pre:List ce)(x:ce)(r:List ce):bn ((pre++x::r).flatMap bB) (Int.toNat (pre.length:Int)*5+1) c=c (.str x.2.1):=dE pre x r bB 5 (fun _=>rfl) 1 (by omega) c
theorem k2(pre:List ce)(x:ce)(r:List ce):bn ((pre++x::r).flatMap bB) (Int.toNat (pre.length:Int)*5+2) c=c (.int .i64 x.2.2.1):=dE pre x r bB 5 (fun _=>rfl) 2 (by omega) c
theorem k3(pre:List ce)(x:ce)(r:List ce):bn ((pre++x::r).flatMap bB) (Int.toNat (pre.length:Int)*5+3) c=c (.int .i64 x.2.2.2.1):=dE pre x r bB 5 (fun _=>rfl) 3 (by omega) c
theorem k4(pre:List ce)(x:ce)(r:List ce):bn ((pre++x::r).flatMap bB) (Int.toNat (pre.length:Int)*5+4) c=c (.str x.2.2.2.2):=dE pre x r bB 5 (fun _=>rfl) 4 (by omega) c
theorem p0(pre:List KepV)(x:KepV)(r:List KepV):bn ((pre++x::r).flatMap bK) (Int.toNat (pre.length:Int)*3+0) c=c (.str x.1):=dE pre x r bK 3 (fun _=>rfl) 0 (by omega) c
theorem t0(pre:List ByteArray)(x:ByteArray)(r:List ByteArray):bn (bq (pre++x::r)) (Int.toNat (pre.length:Int)*1) c=c (.str x):=vR pre x r D.str c
end
section
variable {f0 f1 f2 f3 f4 f5:Bool}{b0 b1 b2 b3 b4 b5:Nat}{e0 e1 e2 e3 e4 e5:List D}
theorem MR{call:CL}{n:Nat}(s:ByteArray):∀(r pre:List c6) (fuel:Nat),(pre++r).length=n→n≤100000→r.length<fuel→
  ud call LL C1 fuel s f0 b0 e0 f1 n ((pre++r).flatMap bH) f2 b2 e2 f3 b3 e3 f4 b4 e4 f5 b5 e5 (pre.length:Int)=some (.int .i64 (jN (fun m=>de m.1 s) r pre.length)):=by
 intro r
 induction r with
 |nil=>
  intro pre fuel hn hB hf;cases fuel with
  |zero=>exact absurd hf (Nat.not_lt_zero _)
  |succ fuel=>
   subst hn;rw[sS,ct,bo];rfl
 |cons x r ih=>
  intro pre fuel hn hB hf;cases fuel with
  |zero=>exact absurd hf (Nat.not_lt_zero _)
  |succ fuel=>
   have ih:=ih (pre++[x]) fuel (by rw[cR];exact hn) hB (by simp at hf;omega);rw[cR] at ih;subst hn;rw[sS,cJ,br,cE,bv,HY,bu,ch pre x r (by omega),ih,show(pre++[x]).length=pre.length+1 by simp];show bx (de x.1 s) _ _=some (D.int .i64 (bx (de x.1 s) _ _));cases de x.1 s<;>rfl
theorem K5{call:CL}{n:Nat}(s:ByteArray):∀(r pre:List KepV) (fuel:Nat),(pre++r).length=n→n≤100000→r.length<fuel→
  px call LL C1 fuel s f0 b0 e0 f1 b1 e1 f2 b2 e2 f3 b3 e3 f4 b4 e4 f5 n ((pre++r).flatMap bK) (pre.length:Int)=some (.int .i64 (jN (fun k=>de k.1 s) r pre.length)):=by
 intro r
 induction r with
 |nil=>
  intro pre fuel hn hB hf;cases fuel with
  |zero=>exact absurd hf (Nat.not_lt_zero _)
  |succ fuel=>
   subst hn;rw[qH,ct,bo];rfl
 |cons x r ih=>
  intro pre fuel hn hB hf;cases fuel with
  |zero=>exact absurd hf (Nat.not_lt_zero _)
  |succ fuel=>
   have ih:=ih (pre++[x]) fuel (by rw[cR];exact hn) hB (by simp at hf;omega);rw[cR] at ih;subst hn;rw[qH,cJ,br,cE,bv,p0,bu,ch pre x r (by omega),ih,show(pre++[x]).length=pre.length+1 by simp];show bx (de x.1 s) _ _=some (D.int .i64 (bx (de x.1 s) _ _));cases de x.1 s<;>rfl
def gR(p:ByteArray)(h:Int)(own:Bool)(m:ce):Bool:=de m.1 p&&(m.2.2.1==h&&(de m.2.1 m.1==own))
theorem MS{call:CL}{n:Nat}(s:ByteArray)(h:Int)(own:Bool):∀(r pre:List ce) (fuel:Nat),(pre++r).length=n→n≤100000→r.length<fuel→
  nK call LL C1 fuel s h own f0 b0 e0 f1 b1 e1 f2 b2 e2 f3 n ((pre++r).flatMap bB) f4 b4 e4 f5 b5 e5 (pre.length:Int)=some (.int .i64 (jN (gR s h own) r pre.length)):=by
 intro r
 induction r with
 |nil=>
  intro pre fuel hn hB hf;cases fuel with
  |zero=>exact absurd hf (Nat.not_lt_zero _)
  |succ fuel=>
   subst hn;rw[sU,ct,bo];rfl
 |cons x r ih=>
  intro pre fuel hn hB hf;cases fuel with
  |zero=>exact absurd hf (Nat.not_lt_zero _)
  |succ fuel=>
   have ih:=ih (pre++[x]) fuel (by rw[cR];exact hn) hB (by simp at hf;omega);rw[cR] at ih;subst hn;rw[sU,cJ,br,cE,bv,k0,bu,k1,bu,k2,bp,k3,bp,k4,bu,ch pre x r (by omega),ih,show(pre++[x]).length=pre.length+1 by simp];show bx (de x.1 s) (bx (x.2.2.1==h) (bx (de x.2.1 s==own) _ _) _) _=some (D.int .i64 (bx (gR s h own x) _ _));unfold gR;cases h1:de x.1 s with
   |false=>rfl
   |true=>
    rw[sEq_iff.1 h1];cases x.2.2.1==h<;>cases (de x.2.1 s==own)<;>rfl
theorem HZ(l:List c6)(s:ByteArray)(hl:l.length≤100000):co 23 [.agg [.slc f0 b0 e0,.slc f1 l.length (l.flatMap bH),.slc f2 b2 e2,.slc f3 b3 e3,.slc f4 b4 e4,.slc f5 b5 e5],.str s] (.int .i64 (ix (fun m=>de m.1 s) l)):=
 eM cN Tryz.func23 (ord:=O0) (N:=MI) (by kernel_rfl) ((Hl _ _ _ _ _ _ _ _ _ _ _ _ _ _ _ _ _ _ _ _ _ _).trans (MR s l [] LL rfl hl (by unfold LL;omega)))
theorem K6(l:List KepV)(s:ByteArray)(hl:l.length≤100000):co 151 [.agg [.slc f0 b0 e0,.slc f1 b1 e1,.slc f2 b2 e2,.slc f3 b3 e3,.slc f4 b4 e4,.slc f5 l.length (l.flatMap bK)],.str s] (.int .i64 (ix (fun m=>de m.1 s) l)):=
 eM cN Tryz.func151 (ord:=O0) (N:=Hx) (by kernel_rfl) ((EE _ _ _ _ _ _ _ _ _ _ _ _ _ _ _ _ _ _ _ _ _ _).trans (K5 s l [] LL rfl hl (by unfold LL;omega)))
theorem K7(l:List ce)(s:ByteArray)(h:Int)(own:Bool)(hl:l.length≤100000):co 95 [.agg [.slc f0 b0 e0,.slc f1 b1 e1,.slc f2 b2 e2,.slc f3 l.length (l.flatMap bB),.slc f4 b4 e4,.slc f5 b5 e5],.str s,.int .i64 h,.bool own] (.int .i64 (ix (gR s h own) l)):=
 eM cN Tryz.func95 (ord:=O0) (N:=MK) (by kernel_rfl) ((Hv _ _ _ _ _ _ _ _ _ _ _ _ _ _ _ _ _ _ _ _ _ _ _ _).trans (MS s h own l [] LL rfl hl (by unfold LL;omega)))
end
theorem K8(a b:ByteArray)(h:Int)(s:ByteArray):co 222 [.agg [.str a,.str b,.int .i64 h],.snap [.str s] 0] (.bool (de a s)):=
 eM cN Tryz.func222 (ord:=O0) (N:=N0) (by kernel_rfl) ((Ez _ _ _ a b h s).trans rfl)
theorem K9(m:ce):co 153 [.agg (bB m)] (.bool (de m.2.1 m.1)):=
 eM cN Tryz.func153 (ord:=O0) (N:=N0) (by kernel_rfl) ((El _ _ _ m.1 m.2.1 m.2.2.1 m.2.2.2.1 m.2.2.2.2).trans rfl)
def fa153:Fam:=⟨153,ce,fun m=>[.agg (bB m)],fun m=> .bool (de m.2.1 m.1)⟩
theorem wq{m m':ce}(h:bB m=bB m'):m=m':=by
 obtain⟨a,b,c,d,e⟩:=m;obtain⟨a',b',c',d',e'⟩:=m';simp[bB] at h;simp[h]
theorem Cy{m m':c6}(h:bH m=bH m'):m=m':=by
 obtain⟨a,b,c⟩:=m;obtain⟨a',b',c'⟩:=m';simp[bH] at h;simp[h]
theorem qZ:fa153.Good:=⟨K9,fun i j h=>by
 have h:[D.agg (bB i)]=[D.agg (bB j)]:=h;simp only[zc1,and_true,D.agg.injEq] at h;rw[wq h]⟩
theorem La(m:ce)(s:ByteArray)(h:Int)(own:Bool):co 276 [.agg (bB m),.snap [.str s] 0,.snap [.int .i64 h] 0,.snap [.bool own] 0] (.bool (gR s h own m)):=by
 obtain⟨B,hB,hF⟩:=jK [fa153] ⟨qZ,trivial⟩ rfl;have e:B 153 [.agg [.str m.1,.str m.2.1,.int .i64 m.2.2.1,.int .i64 m.2.2.2.1,.str m.2.2.2.2]]=some (.bool (de m.2.1 m.1)):=hF.1 m;refine eM hB Tryz.func276 (ord:=O0) (N:=N0) (by kernel_rfl) ((EB _ _ _ m.1 m.2.1 m.2.2.1 m.2.2.2.1 m.2.2.2.2 s h own).trans ?_);rw[e,bm,bA];show bx (de m.1 s) _ _=some (D.bool (de m.1 s&&_));cases de m.1 s<;>cases m.2.2.1==h<;>rfl
def FC(s:ByteArray)(h:Int)(own:Bool):Fam:=⟨276,ce,fun m=>[.agg (bB m),.snap [.str s] 0,.snap [.int .i64 h] 0,.snap [.bool own] 0],fun m=> .bool (gR s h own m)⟩
theorem x6(s:ByteArray)(h:Int)(own:Bool):(FC s h own).Good:=⟨fun m=>La m s h own,fun i j e=>by
 have e:[D.agg (bB i),D.snap [D.str s] 0,D.snap [D.int .i64 h] 0,D.snap [D.bool own] 0]=[D.agg (bB j),D.snap [D.str s] 0,D.snap [D.int .i64 h] 0,D.snap [D.bool own] 0]:=e;simp only[zc1,and_true,D.agg.injEq] at e;rw[wq e]⟩
def FD(s:ByteArray):Fam:=⟨222,c6,fun m=>[.agg (bH m),.snap [.str s] 0],fun m=> .bool (de m.1 s)⟩
theorem x7(s:ByteArray):(FD s).Good:=⟨fun m=>K8 m.1 m.2.1 m.2.2 s,fun i j e=>by
 have e:[D.agg (bH i),D.snap [D.str s] 0]=[D.agg (bH j),D.snap [D.str s] 0]:=e;simp only[zc1,and_true,D.agg.injEq] at e;rw[Cy e]⟩
theorem Lb{B:FuncId→List D→Option D}{f:Bool}{n:Nat}(s:ByteArray)(hF:∀m:c6,B 222 [.agg [.str m.1,.str m.2.1,.int .i64 m.2.2],.snap [.str s] 0]=some (.bool (de m.1 s))):∀(r pre:List c6) (fuel:Nat),(pre++r).length=n→n≤100000→r.length<fuel→
  pu B LL C1 fuel f n ((pre++r).flatMap bH) s n (pre.length:Int)=some (.int .i64 (jN (fun m=>de m.1 s) r pre.length)):=by
 intro r
 induction r with
 |nil=>
  intro pre fuel hn hB hf;cases fuel with
  |zero=>exact absurd hf (Nat.not_lt_zero _)
  |succ fuel=>
   subst hn;rw[qE,ct,bo];rfl
 |cons x r ih=>
  intro pre fuel hn hB hf;cases fuel with
  |zero=>exact absurd hf (Nat.not_lt_zero _)
  |succ fuel=>
   have ih:=ih (pre++[x]) fuel (by rw[cR];exact hn) hB (by simp at hf;omega);rw[cR] at ih;subst hn;rw[qE,cJ,br,cE,bv,HY,bu,m1,bu,m2,bp,hF x,bm,bA,ch pre x r (by omega),ih,show(pre++[x]).length=pre.length+1 by simp];show bx (de x.1 s) _ _=some (D.int .i64 (bx (de x.1 s) _ _));cases de x.1 s<;>rfl
theorem Lc{B:FuncId→List D→Option D}{f:Bool}{n:Nat}(s:ByteArray)(h:Int)(own:Bool)(hF:∀m:ce,B 276 [.agg [.str m.1,.str m.2.1,.int .i64 m.2.2.1,.int .i64 m.2.2.2.1,.str m.2.2.2.2],.snap [.str s] 0,.snap [.int .i64 h] 0,.snap [.bool own] 0]=some (.bool (gR s h own m))):∀(r pre:List ce) (fuel:Nat),(pre++r).length=n→n≤100000→r.length<fuel→
  pv B LL C1 fuel f n ((pre++r).flatMap bB) s h own n (pre.length:Int)=some (.int .i64 (jN (gR s h own) r pre.length)):=by
 intro r
 induction r with
 |nil=>
  intro pre fuel hn hB hf;cases fuel with
  |zero=>exact absurd hf (Nat.not_lt_zero _)
  |succ fuel=>
   subst hn;rw[qF,ct,bo];rfl
 |cons x r ih=>
  intro pre fuel hn hB hf;cases fuel with
  |zero=>exact absurd hf (Nat.not_lt_zero _)
  |succ fuel=>
   have ih:=ih (pre++[x]) fuel (by rw[cR];exact hn) hB (by simp at hf;omega);rw[cR] at ih;subst hn;rw[qF,cJ,br,cE,bv,k0,bu,k1,bu,k2,bp,k3,bp,k4,bu,hF x,bm,bA,ch pre x r (by omega),ih,show(pre++[x]).length=pre.length+1 by simp];show bx (gR s h own x) _ _=some (D.int .i64 (bx (gR s h own x) _ _));cases gR s h own x<;>rfl
theorem Ld{f:Bool}(l:List c6)(s:ByteArray)(hl:l.length≤100000):co 221 [.slc f l.length (l.flatMap bH),.fn (.func 222) [] [.snap [.str s] 0]] (.int .i64 (ix (fun m=>de m.1 s) l)):=by
 obtain⟨B,hB,hF⟩:=jK [FD s] ⟨x7 s,trivial⟩ rfl;exact eM hB Tryz.func221 (ord:=O0) (N:=Ht) (by kernel_rfl) ((Ey _ _ _ _ _ _ _).trans (Lb s hF.1 l [] LL rfl hl (by unfold LL;omega)))
theorem Le{f:Bool}(l:List ce)(s:ByteArray)(h:Int)(own:Bool)(hl:l.length≤100000):co 275 [.slc f l.length (l.flatMap bB),.fn (.func 276) [] [.snap [.str s] 0,.snap [.int .i64 h] 0,.snap [.bool own] 0]] (.int .i64 (ix (gR s h own) l)):=by
 obtain⟨B,hB,hF⟩:=jK [FC s h own] ⟨x6 s h own,trivial⟩ rfl;exact eM hB Tryz.func275 (ord:=O0) (N:=Hu) (by kernel_rfl) ((EA _ _ _ _ _ _ _ _ _).trans (Lc s h own hF.1 l [] LL rfl hl (by unfold LL;omega)))
section
variable {f0 f1 f2 f3 f4 f5:Bool}{b0 b1 b2 b3 b4 b5:Nat}{e0 e1 e2 e3 e4 e5:List D}
theorem FE(l:List c6)(s:ByteArray)(hl:l.length≤100000):co 154 [.agg [.slc f0 b0 e0,.slc f1 l.length (l.flatMap bH),.slc f2 b2 e2,.slc f3 b3 e3,.slc f4 b4 e4,.slc f5 b5 e5],.str s] (.int .i64 (ix (fun m=>de m.1 s) l)):=by
 obtain⟨B,hB,hF⟩:=jK [one 221 [.slc f1 l.length (l.flatMap bH),.fn (.func 222) [] [.snap [.str s] 0]] (.int .i64 (ix (fun m=>de m.1 s) l))] ⟨bO (Ld l s hl),trivial⟩ rfl;refine eM hB Tryz.func154 (ord:=O0) (N:=N0) (by kernel_rfl) ((Em _ _ _ _ _ _ _ _ _ _ _ _ _ _ _ _ _ _ _ _ _ _).trans ?_);rw[show B 221 [.slc f1 l.length (l.flatMap bH),.fn (.func 222) [] [.snap [.str s] 0]]=_ from hF.1 (),bm];rfl
theorem Lf(l:List ce)(s:ByteArray)(h:Int)(own:Bool)(hl:l.length≤100000):co 224 [.agg [.slc f0 b0 e0,.slc f1 b1 e1,.slc f2 b2 e2,.slc f3 l.length (l.flatMap bB),.slc f4 b4 e4,.slc f5 b5 e5],.str s,.int .i64 h,.bool own] (.int .i64 (ix (gR s h own) l)):=by
 obtain⟨B,hB,hF⟩:=jK [one 275 [.slc f3 l.length (l.flatMap bB),.fn (.func 276) [] [.snap [.str s] 0,.snap [.int .i64 h] 0,.snap [.bool own] 0]] (.int .i64 (ix (gR s h own) l))] ⟨bO (Le l s h own hl),trivial⟩ rfl;refine eM hB Tryz.func224 (ord:=O0) (N:=N0) (by kernel_rfl) ((EC _ _ _ _ _ _ _ _ _ _ _ _ _ _ _ _ _ _ _ _ _ _ _ _).trans ?_);rw[show B 275 [.slc f3 l.length (l.flatMap bB),.fn (.func 276) [] [.snap [.str s] 0,.snap [.int .i64 h] 0,.snap [.bool own] 0]]=_ from hF.1 (),bm];rfl
def fH(l:List ce)(s:ByteArray)(h:Int)(own:Bool):cv×Bool:=match l.find? (gR s h own) with
 |some m=>(m.2.2.2,true)
 |none=>((0,ByteArray.mk #[45]),false)
theorem Lg(l:List ce)(s:ByteArray)(h:Int)(own:Bool)(hl:l.length≤100000):co 156 [.agg [.slc f0 b0 e0,.slc f1 b1 e1,.slc f2 b2 e2,.slc f3 l.length (l.flatMap bB),.slc f4 b4 e4,.slc f5 b5 e5],.str s,.int .i64 h,.bool own] (.tup [.agg (ci (fH l s h own).1),.bool (fH l s h own).2]):=by
 obtain⟨B,hB,hF⟩:=jK [one 224 [.agg [.slc f0 b0 e0,.slc f1 b1 e1,.slc f2 b2 e2,.slc f3 l.length (l.flatMap bB),.slc f4 b4 e4,.slc f5 b5 e5],.str s,.int .i64 h,.bool own] (.int .i64 (ix (gR s h own) l))] ⟨bO (Lf l s h own hl),trivial⟩ rfl;have e:B 224 [.agg [.slc f0 b0 e0,.slc f1 b1 e1,.slc f2 b2 e2,.slc f3 l.length (l.flatMap bB),.slc f4 b4 e4,.slc f5 b5 e5],.str s,.int .i64 h,.bool own]=some (.int .i64 (ix (gR s h own) l)):=hF.1 ();refine eM hB Tryz.func156 (ord:=O0) (N:=N0) (by kernel_rfl) ((EI _ _ _ _ _ _ _ _ _ _ _ _ _ _ _ _ _ _ _ _ _ _ _ _).trans ?_);rw[e,bm,bp];unfold fH;rcases kM (gR s h own) l with⟨h1,h2⟩|⟨j,x,h1,h2,h3,h4⟩
 ·rw[h1,h2];rfl
 ·rw[h3,h4];obtain⟨pre,r,rfl,rfl⟩:∃pre r,l=pre++x::r∧pre.length=j:=by
   refine⟨l.take j,l.drop (j+1),?_,by simp;omega⟩;have:x=l[j]:=by
    have:=zc8 h1;rw[this] at h2;exact(Option.some.inj h2).symm
   rw[this,List.getElem_cons_drop,List.take_append_drop]
  have e1:decide ((pre.length:Int)<0)=false:=by simp
  rw[e1,bo,cE,bv];have q3:=k3 (γ:=D) (fun d=>bD IntKind.i64 d fun x_1=>bn ((pre++x::r).flatMap bB) (Int.toNat (pre.length:Int)*5+3+1) fun d_1=>bP d_1 fun s=>some (D.tup [D.agg [D.int IntKind.i64 x_1,D.str s],D.bool true])) pre x r;refine q3.trans ?_;rw[bp];have q4:=k4 (γ:=D) (fun d_1=>bP d_1 fun s=>some (D.tup [D.agg [D.int IntKind.i64 x.2.2.2.1,D.str s],D.bool true])) pre x r;exact q4
end
end Go.Pd
end
section
namespace Go.Pd
open Go Go.Proofs Go.RowKit
def du{α:Type}(g:α→List D):List α→Ow
 |[]=> .nil
 |o::os=> .own (os.length+1) ((o::os).flatMap g)
def eR{α:Type}(g:α→List D):List α→D
 |[]=> .slc true 0 []
 |o::os=> .slc false (os.length+1) ((o::os).flatMap g)
theorem fG{α:Type}(g:α→List D)(acc:List α)(s:α):du g (acc++[s])= .own (acc.length+1) (acc.flatMap g++g s):=by
 cases acc with
 |nil=>simp[du]
 |cons o os=>
  show Ow.own ((os++[s]).length+1) (((o::os)++[s]).flatMap g)=_;rw[List.flatMap_append,show(os++[s]).length=os.length+1 by simp];simp
theorem d7{α:Type}(g:α→List D)(l:List α):eR g l= .slc l.isEmpty l.length (l.flatMap g):=by cases l<;>rfl
def iD(x:Int):List D:=[.int .i64 x]
theorem wt{i:Nat}(h:i≤1000000):decide ((i+1)*8≤cu∧i+1≤9223372036854775807)=true:=by
 simp only[zc3];rw[show cu=140737488355328 from rfl];omega
theorem x8{i:Nat}(h:i≤1000000):decide ((i+1)*24≤cu∧i+1≤9223372036854775807)=true:=by
 simp only[zc3];rw[show cu=140737488355328 from rfl];omega
section
variable {γ:Type}
theorem nO(a b:D)(k:List D→Option γ):gm (.tup [a,b]) 2 k=k [a,b]:=rfl
theorem oL(a b:D)(k:List D→Option γ):gW (.agg [a,b]) 2 k=k [a,b]:=rfl
theorem gp(a b:D)(k:D→Option γ):bn [a,b] 0 k=k a:=rfl
theorem gq(a b:D)(k:D→Option γ):bn [a,b] 1 k=k b:=rfl
theorem kp{α:Type}{l:List α}{j:Nat}{x:α}(h:l[j]?=some x):∃pre r,l=pre++x::r∧pre.length=j:=by
 obtain⟨h1,h2⟩:=zb7.1 h;exact⟨l.take j,l.drop (j+1),by rw[←h2,List.getElem_cons_drop,List.take_append_drop],by simp;omega⟩
theorem LW{l:List ce}{j:Nat}{x:ce}(h:l[j]?=some x)(c:D→Option γ):bn (l.flatMap bB) (Int.toNat (j:Int)*5+3+0) c=c (.int .i64 x.2.2.2.1):=by
 obtain⟨pre,r,rfl,rfl⟩:=kp h;exact k3 c pre x r
theorem LX{l:List ce}{j:Nat}{x:ce}(h:l[j]?=some x)(c:D→Option γ):bn (l.flatMap bB) (Int.toNat (j:Int)*5+3+1) c=c (.str x.2.2.2.2):=by
 obtain⟨pre,r,rfl,rfl⟩:=kp h;exact k4 c pre x r
end
def dS(l:List ce)(s:ByteArray):Nat→Nat→List cv
 |0,_=>[]
 |m+1,i=>(fH l s ((i+1:Nat):Int) false).1::dS l s m (i+1)
theorem nP(l:List ce)(s:ByteArray):∀(m i:Nat),(dS l s m i).length=m
 |0,_=>rfl
 |m+1,i=>by simp[dS,nP l s m (i+1)]
def c7(q:Nat→Bool):Nat→Nat→List Int
 |0,_=>[]
 |m+1,i=>match q i with
  |true=>((i+1:Nat):Int)::c7 q m (i+1)
  |false=>c7 q m (i+1)
theorem nQ(q:Nat→Bool)(m i:Nat):c7 q (m+1) i=match q i with
  |true=>((i+1:Nat):Int)::c7 q m (i+1)
  |false=>c7 q m (i+1):=rfl
def iQ(a b:cv):Bool:=a.1==b.1&&(de a.2 b.2&&true)
def eS(l:List ce)(s:ByteArray)(i:Nat):Bool:= !((fH l s ((i+1:Nat):Int) false).2&&(fH l s ((i+1:Nat):Int) true).2)
def eT(l:List ce)(s:ByteArray)(i:Nat):Bool:=((fH l s ((i+1:Nat):Int) false).2&&(fH l s ((i+1:Nat):Int) true).2)&& !iQ (fH l s ((i+1:Nat):Int) false).1 (fH l s ((i+1:Nat):Int) true).1
theorem Lh(a b:cv)(c:Bool):co 158 [.agg [.int .i64 a.1,.str a.2],.agg [.int .i64 b.1,.str b.2],.bool c] (.bool (!c)):=
 eM cN Tryz.func158 (ord:=O0) (N:=N0) (by kernel_rfl) (EJ _ _ _ a.1 a.2 b.1 b.2 c)
theorem Li(a b:cv)(c:Bool):co 159 [.agg [.int .i64 a.1,.str a.2],.agg [.int .i64 b.1,.str b.2],.bool c] (.bool (c&& !iQ a b)):=
 eM cN Tryz.func159 (ord:=O0) (N:=N0) (by kernel_rfl) ((EK _ _ _ a.1 a.2 b.1 b.2 c).trans (by cases c<;>rfl))
def fa158:Fam:=⟨158,cv×cv×Bool,fun x=>[.agg [.int .i64 x.1.1,.str x.1.2],.agg [.int .i64 x.2.1.1,.str x.2.1.2],.bool x.2.2],fun x=> .bool (!x.2.2)⟩
def fa159:Fam:=⟨159,cv×cv×Bool,fun x=>[.agg [.int .i64 x.1.1,.str x.1.2],.agg [.int .i64 x.2.1.1,.str x.2.1.2],.bool x.2.2],fun x=> .bool (x.2.2&& !iQ x.1 x.2.1)⟩
theorem wu{x y:cv×cv×Bool}(h:[D.agg [.int .i64 x.1.1,.str x.1.2],D.agg [.int .i64 x.2.1.1,.str x.2.1.2],D.bool x.2.2]=[D.agg [.int .i64 y.1.1,.str y.1.2],D.agg [.int .i64 y.2.1.1,.str y.2.1.2],D.bool y.2.2]):x=y:=by
 obtain⟨⟨a,b⟩,⟨c,d⟩,e⟩:=x;obtain⟨⟨a',b'⟩,⟨c',d'⟩,e'⟩:=y;simp at h;simp[h]
theorem x9:fa158.Good:=⟨fun x=>Lh x.1 x.2.1 x.2.2,fun i j h=>by rw[wu h]⟩
theorem ya:fa159.Good:=⟨fun x=>Li x.1 x.2.1 x.2.2,fun i j h=>by rw[wu h]⟩
section
variable {f0 f1 f2 f3 f4 f5:Bool}{b0 b1 b2 b3 b4 b5:Nat}{e0 e1 e2 e3 e4 e5:List D}
def zb(u:D)(l:List ce)(s:ByteArray):Fam:=⟨156,Int×Bool,fun x=>[u,.str s,.int .i64 x.1,.bool x.2],fun x=> .tup [.agg [.int .i64 (fH l s x.1 x.2).1.1,.str (fH l s x.1 x.2).1.2],.bool (fH l s x.1 x.2).2]⟩
def H0(u:D)(l:List ce)(s:ByteArray):Fam:=⟨95,Int×Bool,fun x=>[u,.str s,.int .i64 x.1,.bool x.2],fun x=> .int .i64 (ix (gR s x.1 x.2) l)⟩
theorem wv{u:D}{s:ByteArray}{x y:Int×Bool}(h:[u,D.str s,D.int .i64 x.1,D.bool x.2]=[u,D.str s,D.int .i64 y.1,D.bool y.2]):x=y:=by
 obtain⟨a,b⟩:=x;obtain⟨a',b'⟩:=y;simp at h;simp[h]
theorem lV(l:List ce)(s:ByteArray)(hl:l.length≤100000):(zb (.agg [.slc f0 b0 e0,.slc f1 b1 e1,.slc f2 b2 e2,.slc f3 l.length (l.flatMap bB),.slc f4 b4 e4,.slc f5 b5 e5]) l s).Good:=⟨fun x=>Lg l s x.1 x.2 hl,fun i j h=>by rw[wv h]⟩
theorem s7(l:List ce)(s:ByteArray)(hl:l.length≤100000):(H0 (.agg [.slc f0 b0 e0,.slc f1 b1 e1,.slc f2 b2 e2,.slc f3 l.length (l.flatMap bB),.slc f4 b4 e4,.slc f5 b5 e5]) l s).Good:=⟨fun x=>K7 l s x.1 x.2 hl,fun i j h=>by rw[wv h]⟩
theorem Lj{B:FuncId→List D→Option D}{n:Nat}(l:List ce)(s:ByteArray)(hn:n≤100000)
  (hF:∀x:Int×Bool,B 156 [.agg [.slc f0 b0 e0,.slc f1 b1 e1,.slc f2 n e2,.slc f3 b3 e3,.slc f4 b4 e4,.slc f5 b5 e5],.str s,.int .i64 x.1,.bool x.2]=some (.tup [.agg [.int .i64 (fH l s x.1 x.2).1.1,.str (fH l s x.1 x.2).1.2],.bool (fH l s x.1 x.2).2])):
  ∀(m i fuel:Nat) (acc:List cv),i+m=n→acc.length≤i→m<fuel→
  nL B LL C1 fuel s f0 b0 e0 f1 b1 e1 f2 n e2 f3 b3 e3 f4 b4 e4 f5 b5 e5 n (i:Int) (du ci acc)=some (.agg [.str s,eR ci (acc++dS l s m i)])
 |0,i,fuel+1,acc,h,ha,_=>by
  have h1:decide ((i:Int)<n)=false:=by simp;omega
  rw[show acc++dS l s 0 i=acc from zb2 acc];cases acc with
  |nil=>
   rw[show du ci []=Ow.nil from rfl,qI,h1,bo];rfl
  |cons o os=>
   rw[show du ci (o::os)=Ow.own (os.length+1) ((o::os).flatMap ci) from rfl,qJ,h1,bo];rfl
 |m+1,i,fuel+1,acc,h,ha,hf=>by
  have h1:decide ((i:Int)<n)=true:=by simp;omega
  have hw:IntKind.wrap .i64 ((i:Int)+1)=((i+1:Nat):Int):=by rw[cW (by omega)];rfl
  have ih:=Lj l s hn hF m (i+1) fuel (acc++[(fH l s ((i+1:Nat):Int) false).1]) (by omega) (by simp;omega) (by omega);rw[fG,za7] at ih;have e:=hF (((i+1:Nat):Int),false);rw[show dS l s (m+1) i=[(fH l s ((i+1:Nat):Int) false).1]++dS l s m (i+1) from rfl,←ih];cases acc with
  |nil=>
   rw[show du ci []=Ow.nil from rfl,qI,h1,br,hw,e,bm,nO,gp,oL,gp,bp,gq,bu,gq,bA];rfl
  |cons o os=>
   rw[show du ci (o::os)=Ow.own (os.length+1) ((o::os).flatMap ci) from rfl,qJ,h1,br,hw,e,bm,nO,gp,oL,gp,bp,gq,bu,gq,bA,x8 (by simp at ha;omega),bv];rfl
theorem MT{n:Nat}(l:List ce)(s:ByteArray)(hn:n≤100000)(hl:l.length≤100000):co 91 [.agg [.slc f0 b0 e0,.slc f1 b1 e1,.slc f2 n e2,.slc f3 l.length (l.flatMap bB),.slc f4 b4 e4,.slc f5 b5 e5],.str s] (.agg [.str s,eR ci (dS l s n 0)]):=by
 obtain⟨B,hB,hF⟩:=jK [zb (.agg [.slc f0 b0 e0,.slc f1 b1 e1,.slc f2 n e2,.slc f3 l.length (l.flatMap bB),.slc f4 b4 e4,.slc f5 b5 e5]) l s] ⟨lV l s hl,trivial⟩ rfl;exact eM hB Tryz.func91 (ord:=O0) (N:=ML) (by kernel_rfl) ((Hy _ _ _ _ _ _ _ _ _ _ _ _ _ _ _ _ _ _ _ _ _ _).trans (Lj l s hn hF.1 n 0 LL [] (by omega) (za9 _) (by unfold LL;omega)))
theorem yb{B:FuncId→List D→Option D}{n:Nat}(l:List ce)(s:ByteArray)(hn:n≤100000)
  (hF:∀x:Int×Bool,B 156 [.agg [.slc f0 b0 e0,.slc f1 b1 e1,.slc f2 n e2,.slc f3 b3 e3,.slc f4 b4 e4,.slc f5 b5 e5],.str s,.int .i64 x.1,.bool x.2]=some (.tup [.agg [.int .i64 (fH l s x.1 x.2).1.1,.str (fH l s x.1 x.2).1.2],.bool (fH l s x.1 x.2).2]))
  (hG:∀x:cv×cv×Bool,B 158 [.agg [.int .i64 x.1.1,.str x.1.2],.agg [.int .i64 x.2.1.1,.str x.2.1.2],.bool x.2.2]=some (.bool (!x.2.2))):
  ∀(m i fuel:Nat) (acc:List Int),i+m=n→acc.length≤i→m<fuel→
  dG B LL C1 fuel s f0 b0 e0 f1 b1 e1 f2 n e2 f3 b3 e3 f4 b4 e4 f5 b5 e5 (du iD acc) n (i:Int)=some (eR iD (acc++c7 (eS l s) m i))
 |0,i,fuel+1,acc,h,ha,_=>by
  have h1:decide ((i:Int)<n)=false:=by simp;omega
  rw[show acc++c7 (eS l s) 0 i=acc from zb2 acc];cases acc with
  |nil=>
   rw[show du iD []=Ow.nil from rfl,mO,h1,bo];rfl
  |cons o os=>
   rw[show du iD (o::os)=Ow.own (os.length+1) ((o::os).flatMap iD) from rfl,mP,h1,bo];rfl
 |m+1,i,fuel+1,acc,h,ha,hf=>by
  have h1:decide ((i:Int)<n)=true:=by simp;omega
  have hw:IntKind.wrap .i64 ((i:Int)+1)=((i+1:Nat):Int):=by rw[cW (by omega)];rfl
  have ih0:=yb l s hn hF hG m (i+1) fuel acc (by omega) (by omega) (by omega);have ih1:=yb l s hn hF hG m (i+1) fuel (acc++[((i+1:Nat):Int)]) (by omega) (by simp;omega) (by omega);rw[fG,za7] at ih1;have a:=hF (((i+1:Nat):Int),false);have b:=hF (((i+1:Nat):Int),true);have key:dG B LL C1 (fuel+1) s f0 b0 e0 f1 b1 e1 f2 n e2 f3 b3 e3 f4 b4 e4 f5 b5 e5 (du iD acc) n (i:Int)=bx (eS l s i) (dG B LL C1 fuel s f0 b0 e0 f1 b1 e1 f2 n e2 f3 b3 e3 f4 b4 e4 f5 b5 e5 (.own (acc.length+1) (acc.flatMap iD++iD ((i+1:Nat):Int))) n ((i+1:Nat):Int)) (dG B LL C1 fuel s f0 b0 e0 f1 b1 e1 f2 n e2 f3 b3 e3 f4 b4 e4 f5 b5 e5 (du iD acc) n ((i+1:Nat):Int)):=by
   unfold eS;have g1:=hG ((fH l s ((i+1:Nat):Int) false).1,(fH l s ((i+1:Nat):Int) true).1,(fH l s ((i+1:Nat):Int) true).2);have g2:=hG ((fH l s ((i+1:Nat):Int) false).1,(fH l s ((i+1:Nat):Int) true).1,false);cases acc with
   |nil=>
    rw[show du iD []=Ow.nil from rfl,mO,h1,br,hw,a,bm,nO,gp,oL,gp,bp,gq,bu,gq,bA,b,bm,nO,gp,oL,gp,bp,gq,bu,gq,bA,g1,bm,bA,g2,bm,bA];cases (fH l s ((i+1:Nat):Int) false).2<;>rfl
   |cons o os=>
    rw[show du iD (o::os)=Ow.own (os.length+1) ((o::os).flatMap iD) from rfl,mP,h1,br,hw,a,bm,nO,gp,oL,gp,bp,gq,bu,gq,bA,b,bm,nO,gp,oL,gp,bp,gq,bu,gq,bA,g1,bm,bA,g2,bm,bA,wt (by simp at ha;omega),bv];cases (fH l s ((i+1:Nat):Int) false).2<;>rfl
  rw[key,ih0,ih1,nQ];cases eS l s i<;>rfl
theorem H4{n:Nat}(l:List ce)(s:ByteArray)(hn:n≤100000)(hl:l.length≤100000):co 157 [.agg [.slc f0 b0 e0,.slc f1 b1 e1,.slc f2 n e2,.slc f3 l.length (l.flatMap bB),.slc f4 b4 e4,.slc f5 b5 e5],.str s,.fn (.func 158) [] []] (eR iD (c7 (eS l s) n 0)):=by
 obtain⟨B,hB,hF⟩:=jK [zb (.agg [.slc f0 b0 e0,.slc f1 b1 e1,.slc f2 n e2,.slc f3 l.length (l.flatMap bB),.slc f4 b4 e4,.slc f5 b5 e5]) l s,fa158] ⟨lV l s hl,x9,trivial⟩ rfl;exact eM hB Tryz.func157 (ord:=O0) (N:=Ab) (by kernel_rfl) ((Co _ _ _ _ _ _ _ _ _ _ _ _ _ _ _ _ _ _ _ _ _ _).trans (yb l s hn hF.1 hF.2.1 n 0 LL [] (by omega) (za9 _) (by unfold LL;omega)))
theorem yc{B:FuncId→List D→Option D}{n:Nat}(l:List ce)(s:ByteArray)(hn:n≤100000)
  (hF:∀x:Int×Bool,B 156 [.agg [.slc f0 b0 e0,.slc f1 b1 e1,.slc f2 n e2,.slc f3 b3 e3,.slc f4 b4 e4,.slc f5 b5 e5],.str s,.int .i64 x.1,.bool x.2]=some (.tup [.agg [.int .i64 (fH l s x.1 x.2).1.1,.str (fH l s x.1 x.2).1.2],.bool (fH l s x.1 x.2).2]))
  (hG:∀x:cv×cv×Bool,B 159 [.agg [.int .i64 x.1.1,.str x.1.2],.agg [.int .i64 x.2.1.1,.str x.2.1.2],.bool x.2.2]=some (.bool (x.2.2&& !iQ x.1 x.2.1))):
  ∀(m i fuel:Nat) (acc:List Int),i+m=n→acc.length≤i→m<fuel→
  dH B LL C1 fuel s f0 b0 e0 f1 b1 e1 f2 n e2 f3 b3 e3 f4 b4 e4 f5 b5 e5 (du iD acc) n (i:Int)=some (eR iD (acc++c7 (eT l s) m i))
 |0,i,fuel+1,acc,h,ha,_=>by
  have h1:decide ((i:Int)<n)=false:=by simp;omega
  rw[show acc++c7 (eT l s) 0 i=acc from zb2 acc];cases acc with
  |nil=>
   rw[show du iD []=Ow.nil from rfl,mQ,h1,bo];rfl
  |cons o os=>
   rw[show du iD (o::os)=Ow.own (os.length+1) ((o::os).flatMap iD) from rfl,mR,h1,bo];rfl
 |m+1,i,fuel+1,acc,h,ha,hf=>by
  have h1:decide ((i:Int)<n)=true:=by simp;omega
  have hw:IntKind.wrap .i64 ((i:Int)+1)=((i+1:Nat):Int):=by rw[cW (by omega)];rfl
  have ih0:=yc l s hn hF hG m (i+1) fuel acc (by omega) (by omega) (by omega);have ih1:=yc l s hn hF hG m (i+1) fuel (acc++[((i+1:Nat):Int)]) (by omega) (by simp;omega) (by omega);rw[fG,za7] at ih1;have a:=hF (((i+1:Nat):Int),false);have b:=hF (((i+1:Nat):Int),true);have key:dH B LL C1 (fuel+1) s f0 b0 e0 f1 b1 e1 f2 n e2 f3 b3 e3 f4 b4 e4 f5 b5 e5 (du iD acc) n (i:Int)=bx (eT l s i) (dH B LL C1 fuel s f0 b0 e0 f1 b1 e1 f2 n e2 f3 b3 e3 f4 b4 e4 f5 b5 e5 (.own (acc.length+1) (acc.flatMap iD++iD ((i+1:Nat):Int))) n ((i+1:Nat):Int)) (dH B LL C1 fuel s f0 b0 e0 f1 b1 e1 f2 n e2 f3 b3 e3 f4 b4 e4 f5 b5 e5 (du iD acc) n ((i+1:Nat):Int)):=by
   unfold eT;have g1:=hG ((fH l s ((i+1:Nat):Int) false).1,(fH l s ((i+1:Nat):Int) true).1,(fH l s ((i+1:Nat):Int) true).2);have g2:=hG ((fH l s ((i+1:Nat):Int) false).1,(fH l s ((i+1:Nat):Int) true).1,false);cases acc with
   |nil=>
    rw[show du iD []=Ow.nil from rfl,mQ,h1,br,hw,a,bm,nO,gp,oL,gp,bp,gq,bu,gq,bA,b,bm,nO,gp,oL,gp,bp,gq,bu,gq,bA,g1,bm,bA,g2,bm,bA];cases (fH l s ((i+1:Nat):Int) false).2<;>rfl
   |cons o os=>
    rw[show du iD (o::os)=Ow.own (os.length+1) ((o::os).flatMap iD) from rfl,mR,h1,br,hw,a,bm,nO,gp,oL,gp,bp,gq,bu,gq,bA,b,bm,nO,gp,oL,gp,bp,gq,bu,gq,bA,g1,bm,bA,g2,bm,bA,wt (by simp at ha;omega),bv];cases (fH l s ((i+1:Nat):Int) false).2<;>rfl
  rw[key,ih0,ih1,nQ];cases eT l s i<;>rfl
theorem H5{n:Nat}(l:List ce)(s:ByteArray)(hn:n≤100000)(hl:l.length≤100000):co 157 [.agg [.slc f0 b0 e0,.slc f1 b1 e1,.slc f2 n e2,.slc f3 l.length (l.flatMap bB),.slc f4 b4 e4,.slc f5 b5 e5],.str s,.fn (.func 159) [] []] (eR iD (c7 (eT l s) n 0)):=by
 obtain⟨B,hB,hF⟩:=jK [zb (.agg [.slc f0 b0 e0,.slc f1 b1 e1,.slc f2 n e2,.slc f3 l.length (l.flatMap bB),.slc f4 b4 e4,.slc f5 b5 e5]) l s,fa159] ⟨lV l s hl,ya,trivial⟩ rfl;exact eM hB Tryz.func157 (ord:=O0) (N:=Ab) (by kernel_rfl) ((Cp _ _ _ _ _ _ _ _ _ _ _ _ _ _ _ _ _ _ _ _ _ _).trans (yc l s hn hF.1 hF.2.1 n 0 LL [] (by omega) (za9 _) (by unfold LL;omega)))
theorem m8{l:List ce}{s:ByteArray}{h:Int}{own:Bool}(e:l.find? (gR s h own)=none):fH l s h own=((0,ByteArray.mk #[45]),false):=by unfold fH;rw[e]
theorem m9{l:List ce}{s:ByteArray}{h:Int}{own:Bool}{x:ce}(e:l.find? (gR s h own)=some x):fH l s h own=(x.2.2.2,true):=by unfold fH;rw[e]
theorem um{α:Type}{l:List α}{j:Nat}(h:j<l.length):decide ((0:Int)≤(j:Int)∧(j:Int)<(l.length:Int))=true:=by simp;omega
theorem H6{B:FuncId→List D→Option D}{n:Nat}(l:List ce)(s:ByteArray)(hn:n≤100000)
  (hF:∀x:Int×Bool,B 95 [.agg [.slc f0 b0 e0,.slc f1 b1 e1,.slc f2 n e2,.slc f3 l.length (l.flatMap bB),.slc f4 b4 e4,.slc f5 b5 e5],.str s,.int .i64 x.1,.bool x.2]=some (.int .i64 (ix (gR s x.1 x.2) l))):
  ∀(m i fuel:Nat) (acc:List Int),i+m=n→acc.length≤i→m<fuel→
  fU B LL C1 fuel s f0 b0 e0 f1 b1 e1 f2 n e2 f3 l.length (l.flatMap bB) f4 b4 e4 f5 b5 e5 (du iD acc) ((i+1:Nat):Int)=some (eR iD (acc++c7 (eS l s) m i))
 |0,i,fuel+1,acc,h,ha,_=>by
  have h1:decide (((i+1:Nat):Int)≤n)=false:=by simp;omega
  rw[show acc++c7 (eS l s) 0 i=acc from zb2 acc];cases acc with
  |nil=>
   rw[show du iD []=Ow.nil from rfl,jt,h1,bo];rfl
  |cons o os=>
   rw[show du iD (o::os)=Ow.own (os.length+1) ((o::os).flatMap iD) from rfl,ju,h1,bo];rfl
 |m+1,i,fuel+1,acc,h,ha,hf=>by
  have h1:decide (((i+1:Nat):Int)≤n)=true:=by simp;omega
  have hw:IntKind.wrap .i64 (((i+1:Nat):Int)+1)=((i+1+1:Nat):Int):=by rw[cW (by omega)];rfl
  have ih0:=H6 l s hn hF m (i+1) fuel acc (by omega) (by omega) (by omega);have ih1:=H6 l s hn hF m (i+1) fuel (acc++[((i+1:Nat):Int)]) (by omega) (by simp;omega) (by omega);rw[fG,za7] at ih1;have a:=hF (((i+1:Nat):Int),false);have b:=hF (((i+1:Nat):Int),true);have key:fU B LL C1 (fuel+1) s f0 b0 e0 f1 b1 e1 f2 n e2 f3 l.length (l.flatMap bB) f4 b4 e4 f5 b5 e5 (du iD acc) ((i+1:Nat):Int)=bx (eS l s i) (fU B LL C1 fuel s f0 b0 e0 f1 b1 e1 f2 n e2 f3 l.length (l.flatMap bB) f4 b4 e4 f5 b5 e5 (.own (acc.length+1) (acc.flatMap iD++iD ((i+1:Nat):Int))) ((i+1+1:Nat):Int)) (fU B LL C1 fuel s f0 b0 e0 f1 b1 e1 f2 n e2 f3 l.length (l.flatMap bB) f4 b4 e4 f5 b5 e5 (du iD acc) ((i+1+1:Nat):Int)):=by
   unfold eS;rcases kM (gR s ((i+1:Nat):Int) false) l with⟨h2,h3⟩|⟨j,x,h2,h3,h4,h5⟩
   ·rw[h3] at a;rw[m8 h2];cases acc with
    |nil=>
     rw[show du iD []=Ow.nil from rfl,jt,h1,br,hw,a,bm,bp];rfl
    |cons o os=>
     rw[show du iD (o::os)=Ow.own (os.length+1) ((o::os).flatMap iD) from rfl,ju,h1,br,hw,a,bm,bp,wt (by simp at ha;omega),bv];rfl
   ·rw[h5] at a;rw[m9 h4];have hp:decide ((j:Int)<0)=false:=by simp
    rcases kM (gR s ((i+1:Nat):Int) true) l with⟨g2,g3⟩|⟨k,y,g2,g3,g4,g5⟩
    ·rw[g3] at b;rw[m8 g2];cases acc with
     |nil=>
      rw[show du iD []=Ow.nil from rfl,jt,h1,br,hw,a,bm,bp,hp,bo,b,bm,bp];rfl
     |cons o os=>
      rw[show du iD (o::os)=Ow.own (os.length+1) ((o::os).flatMap iD) from rfl,ju,h1,br,hw,a,bm,bp,hp,bo,b,bm,bp,wt (by simp at ha;omega),bv];rfl
    ·rw[g5] at b;rw[m9 g4];have hq:decide ((k:Int)<0)=false:=by simp
     cases acc with
     |nil=>
      rw[show du iD []=Ow.nil from rfl,jt,h1,br,hw,a,bm,bp,hp,bo,b,bm,bp,hq,bo];rfl
     |cons o os=>
      rw[show du iD (o::os)=Ow.own (os.length+1) ((o::os).flatMap iD) from rfl,ju,h1,br,hw,a,bm,bp,hp,bo,b,bm,bp,hq,bo];rfl
  rw[key,ih0,ih1,nQ];cases eS l s i<;>rfl
theorem MU{n:Nat}(l:List ce)(s:ByteArray)(hn:n≤100000)(hl:l.length≤100000):co 27 [.agg [.slc f0 b0 e0,.slc f1 b1 e1,.slc f2 n e2,.slc f3 l.length (l.flatMap bB),.slc f4 b4 e4,.slc f5 b5 e5],.str s] (eR iD (c7 (eS l s) n 0)):=by
 obtain⟨B,hB,hF⟩:=jK [H0 (.agg [.slc f0 b0 e0,.slc f1 b1 e1,.slc f2 n e2,.slc f3 l.length (l.flatMap bB),.slc f4 b4 e4,.slc f5 b5 e5]) l s] ⟨s7 l s hl,trivial⟩ rfl;exact eM hB Tryz.func27 (ord:=O0) (N:=MM) (by kernel_rfl) ((HD _ _ _ _ _ _ _ _ _ _ _ _ _ _ _ _ _ _ _ _ _ _).trans (H6 l s hn hF.1 n 0 LL [] (by omega) (za9 _) (by unfold LL;omega)))
theorem H7{B:FuncId→List D→Option D}{n:Nat}(l:List ce)(s:ByteArray)(hn:n≤100000)
  (hF:∀x:Int×Bool,B 95 [.agg [.slc f0 b0 e0,.slc f1 b1 e1,.slc f2 n e2,.slc f3 l.length (l.flatMap bB),.slc f4 b4 e4,.slc f5 b5 e5],.str s,.int .i64 x.1,.bool x.2]=some (.int .i64 (ix (gR s x.1 x.2) l))):
  ∀(m i fuel:Nat) (acc:List Int),i+m=n→acc.length≤i→m<fuel→
  fe B LL C1 fuel s f0 b0 e0 f1 b1 e1 f2 n e2 f3 l.length (l.flatMap bB) f4 b4 e4 f5 b5 e5 (du iD acc) ((i+1:Nat):Int)=some (eR iD (acc++c7 (eT l s) m i))
 |0,i,fuel+1,acc,h,ha,_=>by
  have h1:decide (((i+1:Nat):Int)≤n)=false:=by simp;omega
  rw[show acc++c7 (eT l s) 0 i=acc from zb2 acc];cases acc with
  |nil=>
   rw[show du iD []=Ow.nil from rfl,jv,h1,bo];rfl
  |cons o os=>
   rw[show du iD (o::os)=Ow.own (os.length+1) ((o::os).flatMap iD) from rfl,jw,h1,bo];rfl
 |m+1,i,fuel+1,acc,h,ha,hf=>by
  have h1:decide (((i+1:Nat):Int)≤n)=true:=by simp;omega
  have hw:IntKind.wrap .i64 (((i+1:Nat):Int)+1)=((i+1+1:Nat):Int):=by rw[cW (by omega)];rfl
  have ih0:=H7 l s hn hF m (i+1) fuel acc (by omega) (by omega) (by omega);have ih1:=H7 l s hn hF m (i+1) fuel (acc++[((i+1:Nat):Int)]) (by omega) (by simp;omega) (by omega);rw[fG,za7] at ih1;have a:=hF (((i+1:Nat):Int),false);have b:=hF (((i+1:Nat):Int),true);have key:fe B LL C1 (fuel+1) s f0 b0 e0 f1 b1 e1 f2 n e2 f3 l.length (l.flatMap bB) f4 b4 e4 f5 b5 e5 (du iD acc) ((i+1:Nat):Int)=bx (eT l s i) (fe B LL C1 fuel s f0 b0 e0 f1 b1 e1 f2 n e2 f3 l.length (l.flatMap bB) f4 b4 e4 f5 b5 e5 (.own (acc.length+1) (acc.flatMap iD++iD ((i+1:Nat):Int))) ((i+1+1:Nat):Int)) (fe B LL C1 fuel s f0 b0 e0 f1 b1 e1 f2 n e2 f3 l.length (l.flatMap bB) f4 b4 e4 f5 b5 e5 (du iD acc) ((i+1+1:Nat):Int)):=by
   unfold eT;rcases kM (gR s ((i+1:Nat):Int) false) l with⟨h2,h3⟩|⟨j,x,h2,h3,h4,h5⟩
   ·rw[h3] at a;rw[m8 h2];cases acc with
    |nil=>
     rw[show du iD []=Ow.nil from rfl,jv,h1,br,hw,a,bm,bp,b,bm,bp];rfl
    |cons o os=>
     rw[show du iD (o::os)=Ow.own (os.length+1) ((o::os).flatMap iD) from rfl,jw,h1,br,hw,a,bm,bp,b,bm,bp];rfl
   ·rw[h5] at a;rw[m9 h4];have hp:decide ((j:Int)≥0)=true:=by simp
    rcases kM (gR s ((i+1:Nat):Int) true) l with⟨g2,g3⟩|⟨k,y,g2,g3,g4,g5⟩
    ·rw[g3] at b;rw[m8 g2];cases acc with
     |nil=>
      rw[show du iD []=Ow.nil from rfl,jv,h1,br,hw,a,bm,bp,b,bm,bp,hp,br];rfl
     |cons o os=>
      rw[show du iD (o::os)=Ow.own (os.length+1) ((o::os).flatMap iD) from rfl,jw,h1,br,hw,a,bm,bp,b,bm,bp,hp,br];rfl
    ·rw[g5] at b;rw[m9 g4];have hq:decide ((k:Int)≥0)=true:=by simp
     cases acc with
     |nil=>
      rw[show du iD []=Ow.nil from rfl,jv,h1,br,hw,a,bm,bp,b,bm,bp,hp,br,hq,br,um h2,bv,LW h3,bp,LX h3,bu,um g2,bv,LW g3,bp,LX g3,bu];rfl
     |cons o os=>
      rw[show du iD (o::os)=Ow.own (os.length+1) ((o::os).flatMap iD) from rfl,jw,h1,br,hw,a,bm,bp,b,bm,bp,hp,br,hq,br,um h2,bv,LW h3,bp,LX h3,bu,um g2,bv,LW g3,bp,LX g3,bu,wt (by simp at ha;omega),bv];rfl
  rw[key,ih0,ih1,nQ];cases eT l s i<;>rfl
theorem MV{n:Nat}(l:List ce)(s:ByteArray)(hn:n≤100000)(hl:l.length≤100000):co 28 [.agg [.slc f0 b0 e0,.slc f1 b1 e1,.slc f2 n e2,.slc f3 l.length (l.flatMap bB),.slc f4 b4 e4,.slc f5 b5 e5],.str s] (eR iD (c7 (eT l s) n 0)):=by
 obtain⟨B,hB,hF⟩:=jK [H0 (.agg [.slc f0 b0 e0,.slc f1 b1 e1,.slc f2 n e2,.slc f3 l.length (l.flatMap bB),.slc f4 b4 e4,.slc f5 b5 e5]) l s] ⟨s7 l s hl,trivial⟩ rfl;exact eM hB Tryz.func28 (ord:=O0) (N:=MN) (by kernel_rfl) ((HE _ _ _ _ _ _ _ _ _ _ _ _ _ _ _ _ _ _ _ _ _ _).trans (H7 l s hn hF.1 n 0 LL [] (by omega) (za9 _) (by unfold LL;omega)))
end
def dI:List Int→Int
 |[]=>0
 |x::r=>bx (x !=0) x (dI r)
theorem MW{call:CL}{f:Bool}{n:Nat}:∀(r pre:List Int) (fuel:Nat),(pre++r).length=n→n≤100000→r.length<fuel→
  ue call LL C1 fuel f n (rC (pre++r)) n (pre.length:Int)=some (.int .i64 (dI r)):=by
 intro r
 induction r with
 |nil=>
  intro pre fuel hn hB hf;cases fuel with
  |zero=>exact absurd hf (Nat.not_lt_zero _)
  |succ fuel=>
   subst hn;rw[sT,ct,bo];rfl
 |cons x r ih=>
  intro pre fuel hn hB hf;cases fuel with
  |zero=>exact absurd hf (Nat.not_lt_zero _)
  |succ fuel=>
   have ih:=ih (pre++[x]) fuel (by rw[cR];exact hn) hB (by simp at hf;omega);rw[cR] at ih;subst hn;rw[sT,cJ,br,cE,bv,zV,bp,ch pre x r (by omega),ih];show bx (x !=0) _ _=some (D.int .i64 (bx (x !=0) _ _));cases x !=0<;>rfl
theorem MX(l:List Int)(hl:l.length≤100):co 87 [.slc true l.length (rC l)] (.int .i64 (dI l)):=
 eM cN Tryz.func87 (ord:=O0) (N:=MJ) (by kernel_rfl) ((Hm _ _ _ _ _ _).trans (MW l [] LL rfl (by omega) (by unfold LL;omega)))
theorem ww:∀{l m:List Int},rC l=rC m→l=m
 |[],[],_=>rfl
 |[],_::_,h=>by cases h
 |_::_,[],h=>by cases h
 |x::l,y::m,h=>by
  simp only[rC,List.map_cons,zc1,D.int.injEq,true_and] at h;rw[h.1,ww (l:=l) (m:=m) h.2]
def fa87:Fam:=⟨87,{l:List Int//l.length≤100},fun l=>[.slc true l.1.length (rC l.1)],fun l=> .int .i64 (dI l.1)⟩
theorem iR:fa87.Good:=⟨fun l=>MX l.1 l.2,fun i j h=>by
 have h:[D.slc true i.1.length (rC i.1)]=[D.slc true j.1.length (rC j.1)]:=h;simp only[zc1,and_true,D.slc.injEq,true_and] at h;rw[show i=j from Subtype.ext (ww h.2)]⟩
theorem Lk(b:Bool)(e:Int):co 119 [.bool b,.int .i64 e] (.int .i64 (bx b e 0)):=
 eM cN Tryz.func119 (ord:=O0) (N:=N0) (by kernel_rfl) ((Ei _ _ _ b e).trans (by cases b<;>rfl))
def fa119:Fam:=⟨119,Bool×Int,fun x=>[.bool x.1,.int .i64 x.2],fun x=> .int .i64 (bx x.1 x.2 0)⟩
theorem fV:fa119.Good:=⟨fun x=>Lk x.1 x.2,fun i j h=>by
 obtain⟨a,b⟩:=i;obtain⟨a',b'⟩:=j;have h:[D.bool a,D.int .i64 b]=[D.bool a',D.int .i64 b']:=h;simp at h;simp[h]⟩
def na(n a b:Int):Bool:=decide (n<a)||decide (n>b)
theorem Ll(n a b:Int):co 118 [.int .i64 n,.int .i64 a,.int .i64 b] (.bool (na n a b)):=
 eM cN Tryz.func118 (ord:=O0) (N:=N0) (by kernel_rfl) ((Eh _ _ _ n a b).trans (by unfold na;cases decide (n<a)<;>rfl))
def fa118:Fam:=⟨118,Int×Int×Int,fun x=>[.int .i64 x.1,.int .i64 x.2.1,.int .i64 x.2.2],fun x=> .bool (na x.1 x.2.1 x.2.2)⟩
theorem lW:fa118.Good:=⟨fun x=>Ll x.1 x.2.1 x.2.2,fun i j h=>by
 obtain⟨a,b,c⟩:=i;obtain⟨a',b',c'⟩:=j;have h:[D.int .i64 a,D.int .i64 b,D.int .i64 c]=[D.int .i64 a',D.int .i64 b',D.int .i64 c']:=h;simp at h;simp[h]⟩
theorem wx{x y:cv}(h:[D.agg [.int .i64 x.1,.str x.2]]=[D.agg [.int .i64 y.1,.str y.2]]):x=y:=by
 obtain⟨a,b⟩:=x;obtain⟨a',b'⟩:=y;simp at h;simp[h]
theorem Lm(x:cv):co 218 [.agg [.int .i64 x.1,.str x.2]] (.bool (gP x.2||lv x.2)):=
 eM cN Tryz.func218 (ord:=O0) (N:=N0) (by kernel_rfl) ((Er _ _ _ x.1 x.2).trans (by show bx (gP x.2) _ (some (D.bool (lv x.2)))=_;cases gP x.2<;>rfl))
theorem Ln(x:cv):co 147 [.agg [.int .i64 x.1,.str x.2]] (.int .i64 (dY x)):=by
 obtain⟨B,hB,hF⟩:=jK [one 218 [.agg [.int .i64 x.1,.str x.2]] (.bool (gP x.2||lv x.2)),fa118,fa119] ⟨bO (Lm x),lW,fV,trivial⟩ rfl;have e1:B 218 [.agg [.int .i64 x.1,.str x.2]]=some (.bool (gP x.2||lv x.2)):=hF.1 ();have e2:B 118 [.int .i64 x.1,.int .i64 1,.int .i64 99]=some (.bool (na x.1 1 99)):=hF.2.1 (x.1,1,99);have e3:∀(b:Bool) (e:Int),B 119 [.bool b,.int .i64 e]=some (.int .i64 (bx b e 0)):=fun b e=>hF.2.2.1 (b,e);refine eM hB Tryz.func147 (ord:=O0) (N:=N0) (by kernel_rfl) ((Ek _ _ _ x.1 x.2).trans ?_);rw[e1,bm,bA,e2,bm,bA,e3,bm,bp,e3,bm,bp];show bx (gP x.2||lv x.2) _ (bx (s4 x.2) _ (bx (s3 x.2) _ _))=some (D.int .i64 (bx (gP x.2||lv x.2) (bx (na x.1 1 99) 3 0) (bx (s4 x.2||s3 x.2) _ _)));cases (gP x.2||lv x.2)<;>cases s4 x.2<;>cases s3 x.2<;>rfl
def fa147:Fam:=⟨147,cv,fun x=>[.agg [.int .i64 x.1,.str x.2]],fun x=> .int .i64 (dY x)⟩
theorem yd:fa147.Good:=⟨Ln,fun i j h=>by rw[wx h]⟩
def fa145:Fam:=⟨145,cv,fun x=>[.agg [.int .i64 x.1,.str x.2]],fun x=> .int .i64 (dY x)⟩
theorem ye:fa145.Good:=⟨FB,fun i j h=>by rw[wx h]⟩
abbrev LY:={s:ByteArray//s.size≤1000}
def fa111:Fam:=⟨111,LY,fun s=>[.str s.1],fun s=> .bool (cI s.1)⟩
theorem ra:fa111.Good:=⟨fun s=>FA s.1 (by have:=s.2;omega),fun i j h=>by
 have h:[D.str i.1]=[D.str j.1]:=h;simp only[zc1,and_true,D.str.injEq] at h;rw[show i=j from Subtype.ext h]⟩
def fa80:Fam:=⟨80,ByteArray,fun s=>[.str s],fun s=> .bool (cI s)⟩
theorem nR:fa80.Good:=⟨KL,fun i j h=>by
 have h:[D.str i]=[D.str j]:=h;simp only[zc1,and_true] at h;rw[show i=j from D.str.inj h]⟩
def dT(l:List ByteArray)(s:ByteArray):Bool:=l.any fun x=>de x s
theorem MY{call:CL}{f:Bool}{n:Nat}(s:ByteArray):∀(r pre:List ByteArray) (fuel:Nat),(pre++r).length=n→n≤100000→r.length<fuel→
  uc call LL C1 fuel f n (bq (pre++r)) s (pre.length:Int)=some (.bool (dT r s)):=by
 intro r
 induction r with
 |nil=>
  intro pre fuel hn hB hf;cases fuel with
  |zero=>exact absurd hf (Nat.not_lt_zero _)
  |succ fuel=>
   subst hn;rw[sR,ct,bo];rfl
 |cons x r ih=>
  intro pre fuel hn hB hf;cases fuel with
  |zero=>exact absurd hf (Nat.not_lt_zero _)
  |succ fuel=>
   have ih:=ih (pre++[x]) fuel (by rw[cR];exact hn) hB (by simp at hf;omega);rw[cR] at ih;subst hn;rw[sR,cJ,br,cE,bv,t0,bu,ch pre x r (by omega),ih];show bx (de x s) _ _=some (D.bool (de x s||dT r s));cases de x s<;>rfl
theorem MZ{f:Bool}(l:List ByteArray)(s:ByteArray)(hl:l.length≤100000):co 81 [.slc f l.length (bq l),.str s] (.bool (dT l s)):=
 eM cN Tryz.func81 (ord:=O0) (N:=MH) (by kernel_rfl) ((Hk _ _ _ _ _ _ _).trans (MY s l [] LL rfl hl (by unfold LL;omega)))
theorem Lo{call:CL}{f:Bool}{n:Nat}(s:ByteArray):∀(r pre:List ByteArray) (fuel:Nat),(pre++r).length=n→n≤100000→r.length<fuel→
  pt call LL C1 fuel f n (bq (pre++r)) s n (pre.length:Int)=some (.int .i64 (jN (fun x=>de x s) r pre.length)):=by
 intro r
 induction r with
 |nil=>
  intro pre fuel hn hB hf;cases fuel with
  |zero=>exact absurd hf (Nat.not_lt_zero _)
  |succ fuel=>
   subst hn;rw[qD,ct,bo];rfl
 |cons x r ih=>
  intro pre fuel hn hB hf;cases fuel with
  |zero=>exact absurd hf (Nat.not_lt_zero _)
  |succ fuel=>
   have ih:=ih (pre++[x]) fuel (by rw[cR];exact hn) hB (by simp at hf;omega);rw[cR] at ih;subst hn;rw[qD,cJ,br,cE,bv,t0,bu,ch pre x r (by omega),ih,show(pre++[x]).length=pre.length+1 by simp];show bx (de s x) _ _=some (D.int .i64 (bx (de x s) _ _));rw[m7 s x];cases de x s<;>rfl
theorem Lp{f:Bool}(l:List ByteArray)(s:ByteArray)(hl:l.length≤100000):co 223 [.slc f l.length (bq l),.str s] (.int .i64 (ix (fun x=>de x s) l)):=
 eM cN Tryz.func223 (ord:=O0) (N:=Hs) (by kernel_rfl) ((Ex _ _ _ _ _ _ _).trans (Lo s l [] LL rfl hl (by unfold LL;omega)))
theorem Lq{f:Bool}(l:List ByteArray)(s:ByteArray)(hl:l.length≤100000):co 155 [.slc f l.length (bq l),.str s] (.bool (dT l s)):=by
 obtain⟨B,hB,hF⟩:=jK [one 223 [.slc f l.length (bq l),.str s] (.int .i64 (ix (fun x=>de x s) l))] ⟨bO (Lp l s hl),trivial⟩ rfl;have e:B 223 [.slc f l.length (bq l),.str s]=some (.int .i64 (ix (fun x=>de x s) l)):=hF.1 ();refine eM hB Tryz.func155 (ord:=O0) (N:=N0) (by kernel_rfl) ((En _ _ _ _ _ _ _).trans ?_);rw[e,bm,bp,Cx];rfl
theorem s8:∀{l m:List ByteArray},bq l=bq m→l=m
 |[],[],_=>rfl
 |[],_::_,h=>by cases h
 |_::_,[],h=>by cases h
 |x::l,y::m,h=>by
  simp only[bq,List.map_cons,zc1,D.str.injEq] at h;rw[h.1,s8 (l:=l) (m:=m) h.2]
abbrev Ag:=Bool×{l:List ByteArray//l.length≤100000}×ByteArray
theorem zc{x y:Ag}(h:[D.slc x.1 x.2.1.1.length (bq x.2.1.1),D.str x.2.2]=[D.slc y.1 y.2.1.1.length (bq y.2.1.1),D.str y.2.2]):x=y:=by
 obtain⟨a,⟨b,hb⟩,c⟩:=x;obtain⟨a',⟨b',hb'⟩,c'⟩:=y;simp only[zc1,and_true,D.slc.injEq,D.str.injEq] at h;obtain⟨⟨h1,_,h2⟩,h3⟩:=h;obtain rfl:=s8 h2;subst h1 h3;rfl
def fa81:Fam:=⟨81,Ag,fun x=>[.slc x.1 x.2.1.1.length (bq x.2.1.1),.str x.2.2],fun x=> .bool (dT x.2.1.1 x.2.2)⟩
theorem s9:fa81.Good:=⟨fun x=>MZ x.2.1.1 x.2.2 x.2.1.2,fun i j h=>by rw[zc h]⟩
def fa155:Fam:=⟨155,Ag,fun x=>[.slc x.1 x.2.1.1.length (bq x.2.1.1),.str x.2.2],fun x=> .bool (dT x.2.1.1 x.2.2)⟩
theorem yf:fa155.Good:=⟨fun x=>Lq x.2.1.1 x.2.2 x.2.1.2,fun i j h=>by rw[zc h]⟩
theorem nS(pre:List ByteArray)(x:ByteArray)(r:List ByteArray)(f:Bool):D.slc (f&&decide ((pre.length:Int)=((pre++x::r).length:Int))) (Int.toNat ((pre.length:Int)-(0:Int))) (List.take (Int.toNat ((pre.length:Int)-(0:Int))*1) (bq (pre++x::r)))= .slc false pre.length (bq pre):=by
 have h1:decide ((pre.length:Int)=((pre++x::r).length:Int))=false:=by simp;omega
 rw[h1,Bool.and_false,Int.sub_zero,za2,Nat.mul_one];unfold bq;rw[List.map_append,List.take_left' (by simp)]
theorem un{α:Type}(pre:List α)(x:α)(r:List α):decide ((0:Int)≤(0:Int)∧(0:Int)≤(pre.length:Int)∧(pre.length:Int)≤((pre++x::r).length:Int))=true:=by simp;omega
section
variable {f0 f1 f2 f3 f4 f5:Bool}{b0 b1 b2 b3 b4 b5:Nat}{e0 e1 e2 e3 e4 e5:List D}
theorem Lr{n:Nat}(l:List ce)(s:ByteArray)(hn:n≤100000)(hl:l.length≤100000):co 92 [.agg [.slc f0 b0 e0,.slc f1 b1 e1,.slc f2 n e2,.slc f3 l.length (l.flatMap bB),.slc f4 b4 e4,.slc f5 b5 e5],.str s] (eR iD (c7 (eS l s) n 0)):=by
 obtain⟨B,hB,hF⟩:=jK [one 157 [.agg [.slc f0 b0 e0,.slc f1 b1 e1,.slc f2 n e2,.slc f3 l.length (l.flatMap bB),.slc f4 b4 e4,.slc f5 b5 e5],.str s,.fn (.func 158) [] []] (eR iD (c7 (eS l s) n 0))] ⟨bO (H4 l s hn hl),trivial⟩ rfl;have e:B 157 [.agg [.slc f0 b0 e0,.slc f1 b1 e1,.slc f2 n e2,.slc f3 l.length (l.flatMap bB),.slc f4 b4 e4,.slc f5 b5 e5],.str s,.fn (.func 158) [] []]=some (eR iD (c7 (eS l s) n 0)):=hF.1 ();refine eM hB Tryz.func92 (ord:=O0) (N:=N0) (by kernel_rfl) ((Hz _ _ _ _ _ _ _ _ _ _ _ _ _ _ _ _ _ _ _ _ _ _).trans ?_);rw[e,bm,d7,bG]
theorem Ls{n:Nat}(l:List ce)(s:ByteArray)(hn:n≤100000)(hl:l.length≤100000):co 93 [.agg [.slc f0 b0 e0,.slc f1 b1 e1,.slc f2 n e2,.slc f3 l.length (l.flatMap bB),.slc f4 b4 e4,.slc f5 b5 e5],.str s] (eR iD (c7 (eT l s) n 0)):=by
 obtain⟨B,hB,hF⟩:=jK [one 157 [.agg [.slc f0 b0 e0,.slc f1 b1 e1,.slc f2 n e2,.slc f3 l.length (l.flatMap bB),.slc f4 b4 e4,.slc f5 b5 e5],.str s,.fn (.func 159) [] []] (eR iD (c7 (eT l s) n 0))] ⟨bO (H5 l s hn hl),trivial⟩ rfl;have e:B 157 [.agg [.slc f0 b0 e0,.slc f1 b1 e1,.slc f2 n e2,.slc f3 l.length (l.flatMap bB),.slc f4 b4 e4,.slc f5 b5 e5],.str s,.fn (.func 159) [] []]=some (eR iD (c7 (eT l s) n 0)):=hF.1 ();refine eM hB Tryz.func93 (ord:=O0) (N:=N0) (by kernel_rfl) ((HA _ _ _ _ _ _ _ _ _ _ _ _ _ _ _ _ _ _ _ _ _ _).trans ?_);rw[e,bm,d7,bG]
def gS(l:List ce)(n:Nat)(s:ByteArray):Int:=dI [bx ((n:Int)==0) 12 0,bx (decide (((c7 (eS l s) n 0).length:Int)>0)) 7 0,bx (decide (((c7 (eT l s) n 0).length:Int)>0)) 29 0]
theorem Lt{n:Nat}(l:List ce)(s:ByteArray)(hn:n≤100000)(hl:l.length≤100000):co 94 [.agg [.slc f0 b0 e0,.slc f1 b1 e1,.slc f2 n e2,.slc f3 l.length (l.flatMap bB),.slc f4 b4 e4,.slc f5 b5 e5],.str s] (.int .i64 (gS l n s)):=by
 obtain⟨B,hB,hF⟩:=jK [one 92 [.agg [.slc f0 b0 e0,.slc f1 b1 e1,.slc f2 n e2,.slc f3 l.length (l.flatMap bB),.slc f4 b4 e4,.slc f5 b5 e5],.str s] (eR iD (c7 (eS l s) n 0)),one 93 [.agg [.slc f0 b0 e0,.slc f1 b1 e1,.slc f2 n e2,.slc f3 l.length (l.flatMap bB),.slc f4 b4 e4,.slc f5 b5 e5],.str s] (eR iD (c7 (eT l s) n 0)),fa119,fa87] ⟨bO (Lr l s hn hl),bO (Ls l s hn hl),fV,iR,trivial⟩ rfl;have a:B 92 [.agg [.slc f0 b0 e0,.slc f1 b1 e1,.slc f2 n e2,.slc f3 l.length (l.flatMap bB),.slc f4 b4 e4,.slc f5 b5 e5],.str s]=some (eR iD (c7 (eS l s) n 0)):=hF.1 ();have b:B 93 [.agg [.slc f0 b0 e0,.slc f1 b1 e1,.slc f2 n e2,.slc f3 l.length (l.flatMap bB),.slc f4 b4 e4,.slc f5 b5 e5],.str s]=some (eR iD (c7 (eT l s) n 0)):=hF.2.1 ();have e3:∀(b:Bool) (e:Int),B 119 [.bool b,.int .i64 e]=some (.int .i64 (bx b e 0)):=fun b e=>hF.2.2.1 (b,e);have e4:∀x y z:Int,B 87 [.slc true 3 [.int .i64 x,.int .i64 y,.int .i64 z]]=some (.int .i64 (dI [x,y,z])):=fun x y z=>hF.2.2.2.1 ⟨[x,y,z],by simp⟩;refine eM hB Tryz.func94 (ord:=O0) (N:=N0) (by kernel_rfl) ((HB _ _ _ _ _ _ _ _ _ _ _ _ _ _ _ _ _ _ _ _ _ _).trans ?_);rw[e3,bm,bp,a,bm,d7,bG,e3,bm,bp,b,bm,d7,bG,e3,bm,bp,e4,bm,bp];rfl
theorem M1{n:Nat}(l:List ce)(s:ByteArray)(hn:n≤100000)(hl:l.length≤100000):co 29 [.agg [.slc f0 b0 e0,.slc f1 b1 e1,.slc f2 n e2,.slc f3 l.length (l.flatMap bB),.slc f4 b4 e4,.slc f5 b5 e5],.str s] (.int .i64 (gS l n s)):=by
 obtain⟨B,hB,hF⟩:=jK [one 27 [.agg [.slc f0 b0 e0,.slc f1 b1 e1,.slc f2 n e2,.slc f3 l.length (l.flatMap bB),.slc f4 b4 e4,.slc f5 b5 e5],.str s] (eR iD (c7 (eS l s) n 0)),one 28 [.agg [.slc f0 b0 e0,.slc f1 b1 e1,.slc f2 n e2,.slc f3 l.length (l.flatMap bB),.slc f4 b4 e4,.slc f5 b5 e5],.str s] (eR iD (c7 (eT l s) n 0))] ⟨bO (MU l s hn hl),bO (MV l s hn hl),trivial⟩ rfl;have a:B 27 [.agg [.slc f0 b0 e0,.slc f1 b1 e1,.slc f2 n e2,.slc f3 l.length (l.flatMap bB),.slc f4 b4 e4,.slc f5 b5 e5],.str s]=some (eR iD (c7 (eS l s) n 0)):=hF.1 ();have b:B 28 [.agg [.slc f0 b0 e0,.slc f1 b1 e1,.slc f2 n e2,.slc f3 l.length (l.flatMap bB),.slc f4 b4 e4,.slc f5 b5 e5],.str s]=some (eR iD (c7 (eT l s) n 0)):=hF.2.1 ();refine eM hB Tryz.func29 (ord:=O0) (N:=N0) (by kernel_rfl) ((HF _ _ _ _ _ _ _ _ _ _ _ _ _ _ _ _ _ _ _ _ _ _).trans ?_);rw[a,bm,d7,bG,b,bm,d7,bG];unfold gS dI;cases (n:Int)==0 with
 |true=>rfl
 |false=>
  cases decide (((c7 (eS l s) n 0).length:Int)>0) with
  |true=>rfl
  |false=>cases decide (((c7 (eT l s) n 0).length:Int)>0)<;>rfl
end
end Go.Pd
end
