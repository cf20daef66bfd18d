import Derived.Test.YtjhoaknnmfifgaaGreatDoorUnB
import Derived.Test.YtjhoaknnmfifgaaGreatDoorUnA
section
namespace Go.Pd
open Go Go.Proofs Go.RowKit
set_option maxRecDepth 100000
def qd(f:D→D→Bool):List D→List D→Bool
 |[],[]=>true
 |x::xs,y::ys=>(match f x y with
  |true=>qd f xs ys
  |false=>false)
 |_,_=>false
def rf:Nat→D→D→Bool
 |0,_,_=>false
 |n+1,a,b=>match a,b with
  | .int k x,.int k' y=>decide (k=k')&&decide (x=y)
  | .str x,.str y=>x.data.toList==y.data.toList
  | .bool x,.bool y=>x==y
  | .nils,.nils=>true
  | .slc f n1 cs,.slc f' n1' cs'=>(f==f')&&(decide (n1=n1')&&qd (rf n) cs cs')
  | .agg cs,.agg cs'=>qd (rf n) cs cs'
  | .snap cs o,.snap cs' o'=>decide (o=o')&&qd (rf n) cs cs'
  | .fn (.func g) x y,.fn (.func g') x' y'=>decide (g=g')&&(qd (rf n) x x'&&qd (rf n) y y')
  |_,_=>false
theorem km{f:D→D→Bool}(hf:∀a b,f a b=true→a=b):∀xs ys,qd f xs ys=true→xs=ys
 |[],[],_=>rfl
 |x::xs,y::ys,h=>by
  simp only[qd] at h;split at h
  ·rename_i hx;rw[hf _ _ hx,km hf xs ys h]
  ·cases h
 |[],_::_,h=>by cases h
 |_::_,[],h=>by cases h
theorem mz:∀(n:Nat) (a b:D),rf n a b=true→a=b
 |0,_,_,h=>by cases h
 |n+1,a,b,h=>by
  have ih:=km (mz n);unfold rf at h;split at h
  ·simp only[zc0,zc3] at h;rw[h.1,h.2]
  ·rename_i x y;have h2:x.data=y.data:=by
    have:=eq_of_beq h;rw[←Array.toArray_toList (xs:=x.data),this]
   rw[ByteArray.ext h2]
  ·rw[eq_of_beq h]
  ·rfl
  ·simp only[zc0,zc3,zd5] at h;rw[h.1,h.2.1,ih _ _ h.2.2]
  ·rw[ih _ _ h]
  ·simp only[zc0,zc3] at h;rw[h.1,ih _ _ h.2]
  ·simp only[zc0,zc3] at h;rw[h.1,ih _ _ h.2.1,ih _ _ h.2.2]
  ·cases h
abbrev lH:=FuncId×List D×D
def vK:List lH→FuncId→List D→Option D
 |[],_,_=>none
 |e::l,k,ds=>match decide (e.1=k) with
  |true=>(match qd (rf 8) e.2.1 ds with
   |true=>some e.2.2
   |false=>vK l k ds)
  |false=>vK l k ds
theorem yy:∀{l:List lH},(∀e∈l,ce e.1 e.2.1 e.2.2)→eU (vK l)
 |[],_=>fun _ _ _ h=>by cases h
 |e::l,hl=>fun k ds r h=>by
  have ih:=yy fun e he=>hl e (za3 _ he);simp only[vK] at h;split at h
  ·rename_i hk;simp only[zc3] at hk;split at h
   ·rename_i hd;cases h;rw[←hk,←km (mz 8) _ _ hd];exact hl e (za2 ..)
   ·exact ih k ds r h
  ·exact ih k ds r h
theorem yz{a b:Nat}(h:Nat.blt a b=true):a<b:=Nat.le_of_ble_eq_true h
theorem FN{a b:Nat}(h:a<b):Nat.blt a b=true:=Nat.ble_eq_true_of_le h
theorem qe(s:ByteArray):SB s.data.toList= .str s:=congrArg D.str (yt s)
def zC:Nat→Nat→List UInt8→List UInt8
 |0,_,a=>a
 |k+1,n,a=>match Nat.blt n 10 with
  |true=>UInt8.ofNat (48+n)::a
  |false=>zC k (n/10) (UInt8.ofNat (48+n%10)::a)
theorem tK:∀(k n:Nat) (a:List UInt8),n<10^k→0<k→zC k n a=Lib.decDigits n++a
 |0,_,_,_,h=>absurd h (zc4 _)
 |k+1,n,a,h,_=>by
  unfold zC;rw[Lib.decDigits];cases hb:Nat.blt n 10 with
  |true=>
   have:n<10:=yz hb;rw[dif_pos this];rfl
  |false=>
   have hn:¬n<10:=fun h=>by
    have:Nat.blt n 10=true:=FN h;rw[this] at hb;cases hb
   rw[dif_neg hn];have hk:0<k:=by
    rcases Nat.eq_zero_or_pos k with h0|h0
    ·subst h0;simp at h;omega
    ·exact h0
   show zC k (n/10) (UInt8.ofNat (48+n%10)::a)=_;rw[tK k (n/10) _ (by rw[Nat.div_lt_iff_lt_mul (by omega),←Nat.pow_succ];exact h) hk];simp
def FO:List D→Option D
 |[.int .i64 n]=>(match decide (-9223372036854775808≤n∧n<9223372036854775808),n with
  |true,.ofNat n=>some (SB (zC 20 n []))
  |true,.negSucc n=>some (SB (45::zC 20 (n+1) []))
  |false,_=>none)
 |_=>none
theorem Dt:∀ds r,FO ds=some r→ce 138 ds r:=by
 intro ds r h;unfold FO at h;split at h
 ·rename_i n0;split at h
  ·rename_i n hb;cases h;have hb:=of_decide_eq_true hb;have hb': -9223372036854775808≤(n:Int)∧(n:Int)<9223372036854775808:=hb;rw[tK 20 n [] (by omega) (by omega),zb2];have:=EO (.ofNat n) hb;unfold Lib.itoa at this;rw[if_neg (by simp)] at this;exact this
  ·rename_i n hb;cases h;have hb:=of_decide_eq_true hb;rw[tK 20 (n+1) [] (by omega) (by omega),zb2];have:=EO (.negSucc n) hb;unfold Lib.itoa at this;rw[if_pos (Int.negSucc_lt_zero n)] at this;exact this
  ·cases h
 ·cases h
def Du(c:UInt8):List UInt8→Int
 |[]=> -1
 |b::l=>match b==c with
  |true=>0
  |false=>(match Du c l with
   | .ofNat n=> .ofNat (n+1)
   | .negSucc _=> -1)
theorem yA(c:UInt8):∀l,Du c l=Lib.indexByte l c
 |[]=>rfl
 |b::l=>by
  unfold Du Lib.indexByte;have hge:=Lib.indexByte_ge l c;rw[yA c l];cases hb:b==c with
  |true=>rfl
  |false=>
   simp only[Bool.false_eq_true,if_false];cases hi:Lib.indexByte l c with
   |ofNat n=>
    have:(Int.ofNat n== -1)=false:=by simp
    simp only[this,Bool.false_eq_true,if_false];rfl
   |negSucc n=>
    rw[hi] at hge;have:n=0:=by omega
    subst this;rfl
def LU:List D→Option D
 |[.str s,.int .u8 (.ofNat n)]=>(match Nat.blt n 256 with
  |true=>some (.int .i64 (Du (UInt8.ofNat n) s.data.toList))
  |false=>none)
 |_=>none
theorem FP:∀ds r,LU ds=some r→ce 306 ds r:=by
 intro ds r h;unfold LU at h;split at h
 ·rename_i s n;split at h
  ·rename_i hb;cases h;have hn:n<256:=yz hb;have:=JI s.data.toList (UInt8.ofNat n);rw[qe,←yA] at this;have he:((UInt8.ofNat n).toNat:Int)= .ofNat n:=by
    rw[UInt8.toNat_ofNat',Nat.mod_eq_of_lt hn];rfl
   rw[he] at this;exact this
  ·cases h
 ·cases h
def FQ:List D→Option D
 |[.str s,.str c]=>(match c.data.toList with
  |[b]=>some (.int .i64 (Lib.countByte s.data.toList b:Nat))
  |_=>none)
 |_=>none
theorem Bq{c:ByteArray}{b:UInt8}(h:c.data.toList=[b]):c=bs [b]:=by rw[←h,yt]
theorem Dv:∀ds r,FQ ds=some r→ce 254 ds r:=by
 intro ds r h;unfold FQ at h;split at h
 ·rename_i s c;split at h
  ·rename_i b hb;cases h;have:=JJ s.data.toList b;rw[qe] at this;rw[Bq hb];exact this
  ·cases h
 ·cases h
def FR:List D→Option D
 |[.str s]=>(match Nat.ble s.data.toList.length 18,Lib.atoi s.data.toList with
  |true,some n=>some (.tup [.int .i64 n,.nilif])
  |_,_=>none)
 |_=>none
theorem Dw:∀ds r,FR ds=some r→ce 262 ds r:=by
 intro ds r h;unfold FR at h;split at h
 ·rename_i s;split at h
  ·rename_i n hb hn;cases h;have:=JK s.data.toList n (Nat.le_of_ble_eq_true hb) hn;rw[qe] at this;exact this
  ·cases h
 ·cases h
def Br:List D→Option D
 |[.str s,.str c]=>(match Nat.ble s.data.toList.length 1000000&&(Nat.ble c.data.toList.length 1000&&c.data.toList.all fun b=>decide (b.toNat<128)) with
  |true=>some (SB (Lib.trimS s.data.toList c.data.toList))
  |false=>none)
 |_=>none
theorem Bt:∀ds r,Br ds=some r→ce 261 ds r:=by
 intro ds r h;unfold Br at h;split at h
 ·rename_i s c;split at h
  ·rename_i hb;cases h;simp only[zc0] at hb;have:=JL s.data.toList c.data.toList (Nat.le_of_ble_eq_true hb.1) (Nat.le_of_ble_eq_true hb.2.1) hb.2.2;rw[qe,qe] at this;exact this
  ·cases h
 ·cases h
def yB:List D→Option (List (List UInt8))
 |[]=>some []
 | .str s::l=>(match yB l with
  |some r=>some (s.data.toList::r)
  |none=>none)
 |_=>none
theorem vL:∀(l:List D) {r:List (List UInt8)},yB l=some r→l=r.map SB
 |[],r,h=>by cases h;rfl
 |d::l,r,h=>by
  unfold yB at h;split at h
  ·rename_i heq;cases heq
  ·rename_i s l' heq;cases heq;split at h
   ·rename_i r' hr;cases h;rw[List.map_cons,←vL l hr,qe]
   ·cases h
  ·cases h
def Bu(c:List UInt8):List (List UInt8)→List UInt8
 |[]=>[]
 |x::l=>match l with
  |[]=>x
  |y::l'=>x++c++Bu c (y::l')
theorem yC(c:List UInt8):∀l,Bu c l=Lib.join l c
 |[]=>rfl
 |[x]=>by rw[Lib.join_one];rfl
 |x::y::l=>by
  have ih:=yC c (y::l);show x++c++Bu c (y::l)=_;rw[ih];unfold Lib.join;simp[List.intercalate]
def FS:List D→Option D
 |[.slc _ n cs,.str c]=>(match yB cs with
  |some ws=>(match Nat.ble n 1000000&&(Nat.beq ws.length n&&Nat.ble (Bu c.data.toList ws).length 1000000) with
   |true=>some (SB (Bu c.data.toList ws))
   |false=>none)
  |none=>none)
 |_=>none
theorem Dx:∀ds r,FS ds=some r→ce 206 ds r:=by
 intro ds r h;unfold FS at h;split at h
 ·rename_i f n cs c;split at h
  ·rename_i ws hws;split at h
   ·rename_i hb;cases h;simp only[zc0] at hb;obtain⟨h1,h2,h3⟩:=hb;have h1:=Nat.le_of_ble_eq_true h1;have h2:=Nat.eq_of_beq_eq_true h2;have h3:=Nat.le_of_ble_eq_true h3;rw[yC] at h3 ⊢;have:=JM (f:=f) ws c.data.toList (by omega) (by omega);rw[h2,←vL cs hws,qe] at this;exact this
   ·cases h
  ·cases h
 ·cases h
def Dy(m:Nat):List D→Option D
 |[.nils]=>some (.slc true 0 [])
 |[.slc _ n cs]=>(match(Nat.ble n 1000000&&Nat.beq cs.length (n*m))&&(cs.all D.plain&&cs.all D.one) with
  |true=>some (Ln n cs)
  |false=>none)
 |_=>none
theorem yD{k:FuncId}{m:Nat}(h0:∀{f:Bool} {n:Nat} {cs:List D},n≤1000000→cs.length=n*m→cs.all D.plain=true→cs.all D.one=true→ce k [.slc f n cs] (Ln n cs)):∀ds r,Dy m ds=some r→ce k ds r:=by
 intro ds r h;unfold Dy at h;split at h
 ·cases h;exact CallOK.cnL (b:=true) (h0 (f:=true) (n:=0) (cs:=[]) (Nat.zero_le _) (by simp) rfl rfl)
 ·split at h
  ·rename_i hb;cases h;simp only[zc0] at hb;exact h0 (Nat.le_of_ble_eq_true hb.1.1) (Nat.eq_of_beq_eq_true hb.1.2) hb.2.1 hb.2.2
  ·cases h
 ·cases h
def XL:Lt:=fun k=>match k with
 |138=>some (fun _=>FO)
 |206=>some (fun _=>FS)
 |208=>some (fun _=>Dy 1)
 |209=>some (fun _=>Dy 1)
 |254=>some (fun _=>FQ)
 |261=>some (fun _=>Br)
 |262=>some (fun _=>FR)
 |306=>some (fun _=>LU)
 |_=>none
theorem EP:∀f g,XL f=some g→∀call ds r,g call ds=some r→ce f ds r:=by
 intro f g h call ds r hr;unfold XL at h;split at h<;>(first|(cases h;done)|cases h)
 ·exact Dt ds r hr
 ·exact Dx ds r hr
 ·exact yD JG ds r hr
 ·exact yD JH ds r hr
 ·exact Dv ds r hr
 ·exact Bt ds r hr
 ·exact Dw ds r hr
 ·exact FP ds r hr
def Bv:List D→Option (List UInt8)
 |[]=>some []
 | .int .u8 (.ofNat n)::l=>(match Nat.blt n 256,Bv l with
  |true,some r=>some (UInt8.ofNat n::r)
  |_,_=>none)
 |_=>none
theorem tL:∀(l:List D) {r:List UInt8},Bv l=some r→l=wt r
 |[],r,h=>by cases h;rfl
 |d::l,r,h=>by
  unfold Bv at h;split at h
  ·rename_i heq;cases heq
  ·rename_i n l' heq;cases heq;split at h
   ·rename_i r' hb hr;cases h;have hn:n<256:=yz hb;unfold wt;rw[List.map_cons];have:=tL l hr;unfold wt at this;rw[←this,UInt8.toNat_ofNat',Nat.mod_eq_of_lt hn];rfl
   ·cases h
  ·cases h
def FT:List D→Option D
 |[.agg cells,.str s]=>(match Nat.ble s.data.toList.length 1000000&&Nat.blt 0 s.data.toList.length with
  |true=>(match cells with
   |[]=>some (.tup [.agg [.tup [],.slc false s.size (wt s.data.toList)],.tup [.int .i64 (s.size:Nat),.nilif]])
   |[.tup [],.slc false n cs]=>(match Bv cs with
    |some l=>(match Nat.ble n 1000000&&Nat.beq l.length n with
     |true=>some (.tup [.agg [.tup [],.slc false (n+s.size) (wt (l++s.data.toList))],.tup [.int .i64 (s.size:Nat),.nilif]])
     |false=>none)
    |none=>none)
   |_=>none)
  |false=>none)
 |_=>none
def FU:List D→Option D
 |[.agg [.tup [],.slc false n cs]]=>(match Bv cs with
  |some (x::l)=>(match Nat.beq (x::l).length n with
   |true=>some (.tup [.agg [.tup [],.junk],.str ⟨(x::l).toArray⟩])
   |false=>none)
  |_=>none)
 |_=>none
theorem JN{ds:List D}{x:D}{l:List D}(hp:0<ds.length)(h:ds.set 0 x=l):∃y r,ds=y::r∧l=x::r:=by
 cases ds with
 |nil=>cases hp
 |cons y r=>exact⟨y,r,rfl,h.symm⟩
theorem Dz(ds cells cells':List D)(r:D)(hp:0<ds.length)(h:FT (ds.set 0 (.agg cells))=some (.tup [.agg cells',r])):Dg Tryz.prog jx 141 0 243 Bl Bl ds cells cells' r:=by
 obtain⟨y,rs,rfl,_⟩:=JN (x:= .agg cells) hp rfl;rw[List.set_cons_zero] at h;unfold FT at h;split at h
 ·rename_i cl s heq;cases heq;split at h
  ·rename_i hb;simp only[zc0] at hb;have h1:=Nat.le_of_ble_eq_true hb.1;have h2:0<s.data.toList.length:=yz hb.2;have hs:=Bo s;split at h
   ·cases h;exact FK y s (by omega) (by omega)
   ·rename_i n cs _;split at h
    ·rename_i l hl;split at h
     ·rename_i hn;cases h;simp only[zc0] at hn;have h3:=Nat.le_of_ble_eq_true hn.1;have h4:=Nat.eq_of_beq_eq_true hn.2;rw[tL cs hl,←h4];exact FJ y s l (by omega) (by omega)
     ·cases h
    ·cases h
   ·cases h
  ·cases h
 ·cases h
theorem DA(ds cells cells':List D)(r:D)(hp:0<ds.length)(h:FU (ds.set 0 (.agg cells))=some (.tup [.agg cells',r])):Dg Tryz.prog jx 142 0 243 Bl Lv ds cells cells' r:=by
 obtain⟨y,rs,rfl,_⟩:=JN (x:= .agg cells) hp rfl;rw[List.set_cons_zero] at h;unfold FU at h;split at h
 ·rename_i n cs heq;cases heq;split at h
  ·rename_i x l hl;split at h
   ·rename_i hn;cases h;rw[tL cs hl,←Nat.eq_of_beq_eq_true hn];exact FL y (x::l) (by simp)
   ·cases h
  ·cases h
 ·cases h
def vM(P:Program)(od:Nat→Option il):List Nat→Bool
 |[]=>true
 |f::l=>match od f,P.funcs[f]? with
  |some o,some fn=>(match jQ P o fn with
   |true=>vM P od l
   |false=>false)
  |_,_=>vM P od l
theorem nt{P:Program}{od:Nat→Option il}:∀(l:List Nat),vM P od l=true→∀f∈l,∀o fn,od f=some o→P.funcs[f]?=some fn→jQ P o fn=true
 |[],_,f,hf,_,_,_,_=>by cases hf
 |g::l,h,f,hf,o,fn,ho,hfn=>by
  unfold vM at h;rcases List.mem_cons.1 hf with rfl|hf
  ·rw[ho,hfn] at h;dsimp only at h;split at h
   ·assumption
   ·cases h
  ·split at h
   ·split at h
    ·exact nt l h f hf o fn ho hfn
    ·cases h
   ·exact nt l h f hf o fn ho hfn
theorem Nl:vM Tryz.prog zz listA=true:=by kernel_rfl
theorem Bw{f:FuncId}{od:il}(h:zz f=some od):f∈listA:=by
 unfold zz at h;split at h
 ·cases h
 ·rename_i hc;exact List.contains_iff_mem.1 hc
theorem M6:∀f od fn,zz f=some od→Tryz.prog.funcs[f]?=some fn→jQ Tryz.prog od fn=true:=fun f od fn ho hf=>nt listA Nl f (Bw ho) od fn ho hf
noncomputable def Nm:Run:={P:=Tryz.prog,gl:=jx,X:=XL,ord:=zz,N:=nA,K:=fun _=>false,cst:=fun _ _=>none,sq:=fun _ _=>none,M:=fun _=>none,L:=1000000,C:=fun _=>1}
noncomputable def LV:RunB:={R:=Nm,Q:=fun _=>none,Tp:=fun _=>none,B:=fun _ _=>([],[]),S:=fun _=>[],I:=fun _=>none,tb:=none,ns:=true}
theorem LW:∀k ds r,fK LV 40 false k ds=some r→ce k ds r:=fun k ds r h=>
 (xy (X:=LV) lG (fun f g hg call _ ds r hr=>EP f g hg call ds r hr) (fun _ _ _ h=>by cases h) (fun _ _ _ h=>by cases h) (fun _ _ h=>by cases h) (fun _ _ _ h=>by cases h) M6 (fun _ _ h=>by cases h) (fun _ _ _ h=>by cases h) (fun _ _ h=>by cases h) 40).1 k ds r h
noncomputable def EQ(M:FuncId→Option Mu):TE:={E:={P:=Tryz.prog,gl:=jx,call:=fK LV 40 false,L:=1000,wr:=M},cst:=fun _ _=>none,C:=fun _=>1}
theorem M7{M:FuncId→Option Mu}(hM:∀k g,M k=some g→uA Tryz.prog jx k g)(ho:∀k e n,M k≠some (.own e n)):EnvOK (EQ M).E:=
 ⟨An LW,hM,fun k e n h=>absurd h (ho k e n),fun _ _ h=>by cases h⟩
noncomputable def Bx(ds:List D):Option D:=match bS (EQ fun _=>none) O0 (nA 102) .own Tryz.f102 ds with
 |some (.tup [.int .u64 e,.int .u64 n,.slc false len cs])=>(match decide (e=78)&&decide (n=2) with
  |true=>some (.slc false len cs)
  |false=>none)
 |_=>none
theorem ER:∀vs w,(callFunc 102 vs).run Tryz.prog w= .ok (.enter 102 vs) w:=enters_of Tryz.func102 (by kernel_rfl) rfl
theorem vN(ds:List D)(len:Nat)(cs:List D)(h:Bx ds=some (.slc false len cs)):wK Tryz.prog jx 102 78 2 ds len cs:=by
 unfold Bx at h;split at h
 ·rename_i e n len0 cs0 he;split at h
  ·rename_i hb;cases h;simp only[zc0,zc3] at hb;obtain⟨rfl,rfl⟩:=hb;have hw:=zr (Te:=EQ fun _=>none) lG (M7 (fun _ _ h=>by cases h) fun _ _ _ h=>by cases h) (fun _ _ _ h=>by cases h) rfl (fun _ _ _ h=>by cases h) Tryz.func102 (ord:=O0) (N:=nA 102) (by kernel_rfl) he;intro I w vs h1 h2 h3 h4;refine(hw.2 I w vs h1 h2 h3 h4).mono ?_
   rintro en w' ⟨hbel,⟨h,_⟩|⟨e,n,len,cs,b,cap,c,h,k1,k2,k3,k4,k5,k6,k7,k8⟩⟩
   ·cases h
   ·simp only[D.tup.injEq,zc1,D.int.injEq,D.slc.injEq,true_and,and_true] at h;obtain⟨ha,hb,rfl,rfl⟩:=h;have ha:e=78:=by omega
    have hb:n=2:=by omega
    subst ha hb;exact⟨hbel,b,cap,c,k1,k2,k3,k4,k5,k6,k7,k8⟩
  ·cases h
 ·cases h
theorem DB(ds:List D)(r:D)(h:Bx ds=some r):ce 102 ds r:=by
 have:∃len cs,r= .slc false len cs:=by
  unfold Bx at h;split at h
  ·split at h
   ·cases h;exact⟨_,_,rfl⟩
   ·cases h
  ·cases h
 obtain⟨len,cs,rfl⟩:=this;exact qb ER (vN ds len cs h)
def jY:List UInt8:=[97,110,110]
def JO:List UInt8:=[98,101,110]
def LX:List D:=[SB jY,.int .i64 2,.int .i64 1,SB JO,.int .i64 1,.int .i64 (-1)]
def HP:List D:=[SB JO,.int .i64 1,.int .i64 (-1),SB jY,.int .i64 2,.int .i64 1]
def sc:D:= .fn (.func 162) [] []
def HQ:List D:=[SB jY,.int .i64 1,.int .i64 0]
abbrev vO:=Nat×List D×List D×List D
def vP:List vO→List D→Option D
 |[],_=>none
 |c::G,ds=>match qd (rf 8) (.slc false c.1 c.2.1::c.2.2.1) ds with
  |true=>some (.slc false c.1 c.2.2.2)
  |false=>vP G ds
theorem vQ:∀{G:List vO} {ds:List D} {r:D},vP G ds=some r→∃c∈G,ds= .slc false c.1 c.2.1::c.2.2.1∧r= .slc false c.1 c.2.2.2
 |[],_,_,h=>by cases h
 |c::G,ds,r,h=>by
  unfold vP at h;split at h
  ·rename_i hb;cases h;exact⟨c,za2 ..,(km (mz 8) _ _ hb).symm,rfl⟩
  ·obtain⟨c',h1,h2⟩:=vQ h;exact⟨c',za3 _ h1,h2⟩
theorem By{k:FuncId}{fn:Func}{M:FuncId→Option Mu}{N:bK}{G:List vO}(hM:∀k g,M k=some g→uA Tryz.prog jx k g)(ho:∀k e n,M k≠some (.own e n))(hf:Tryz.prog.funcs[k]?=some fn)(hok:jQ Tryz.prog O0 fn=true)(h0:xt fn=true)
  (hen:∀vs w,(callFunc k vs).run Tryz.prog w= .ok (.enter k vs) w) (hl:∀c∈G,0<c.1∧c.2.1.length=c.1*3) (he:∀c∈G,∀e,ng (EQ M) O0 N e 3 fn c.1 c.2.1 c.2.2.1=cb (decide (e=e)) (some (.slc false c.1 c.2.2.2))):uA Tryz.prog jx k (.tab false (vP G)):=by
 refine vu hen fun cs len rs cs' m hg=> ?_;have hg:zY false (vP G) cs len rs=some (cs',m):=hg;unfold zY at hg;split at hg
 ·rename_i f m' cs2 hmu;obtain⟨c,hc,h1,h2⟩:=vQ hmu;simp only[zc1,D.slc.injEq,true_and] at h1;obtain⟨⟨rfl,rfl⟩,rfl⟩:=h1;cases h2;cases hg;refine zt (Te:=EQ M) lG (M7 hM ho) (fun _ _ _ h=>by cases h) rfl (fun _ _ _ h=>by cases h) hf (ord:=O0) (N:=N) hok h0 fun e n hn=> ?_;obtain⟨q1,q2⟩:=hl c hc;have:n=3:=Nat.eq_of_mul_eq_mul_left q1 (by omega);subst this;exact(he c hc e).trans (by simp[cb])
 ·cases hg
theorem HR{p:vO→Prop}{a b:vO}(ha:p a)(hb:p b):∀c∈[a,b],p c:=fun c hc=>by
 rcases List.mem_cons.1 hc with rfl|hc
 ·exact ha
 ·rw[zc7.1 hc];exact hb
def JP:List vO:=[(2,LX,[.int .i64 0,.int .i64 2,sc],HP),(1,HQ,[.int .i64 0,.int .i64 1,sc],HQ)]
def DC:FuncId→Option Mu:=fun k=>match k with
 |281=>some (.tab false (vP JP))
 |_=>none
theorem LY:∀c∈JP,∀e,ng (EQ fun _=>none) O0 (nA 281) e 3 Tryz.f281 c.1 c.2.1 c.2.2.1=cb (decide (e=e)) (some (.slc false c.1 c.2.2.2)):=HR (fun e=>by kernel_rfl) fun e=>by kernel_rfl
theorem LZ:∀k g,DC k=some g→uA Tryz.prog jx k g:=by
 intro k g h;unfold DC at h;split at h
 ·cases h;exact By (fun _ _ h=>by cases h) (fun _ _ _ h=>by cases h) Tryz.func281 (by kernel_rfl) (by kernel_rfl) (enters_of Tryz.func281 (by kernel_rfl) rfl) (HR ⟨by decide,rfl⟩ ⟨by decide,rfl⟩) LY
 ·cases h
def JQ:List vO:=[(2,LX,[.int .i64 2,sc],HP),(1,HQ,[.int .i64 1,sc],HQ)]
def DD:FuncId→Option Mu:=fun k=>match k with
 |226=>some (.tab false (vP JQ))
 |_=>none
theorem L0:∀c∈JQ,∀e,ng (EQ DC) O0 (nA 226) e 3 Tryz.f226 c.1 c.2.1 c.2.2.1=cb (decide (e=e)) (some (.slc false c.1 c.2.2.2)):=HR (fun e=>by kernel_rfl) fun e=>by kernel_rfl
theorem L1:∀k g,DD k=some g→uA Tryz.prog jx k g:=by
 intro k g h;unfold DD at h;split at h
 ·cases h;exact By LZ (fun k e n h=>by unfold DC at h;split at h<;>cases h) Tryz.func226 (by kernel_rfl) (by kernel_rfl) (enters_of Tryz.func226 (by kernel_rfl) rfl) (HR ⟨by decide,rfl⟩ ⟨by decide,rfl⟩) L0
 ·cases h
def JR:List vO:=[(2,LX,[sc],HP),(1,HQ,[sc],HQ)]
theorem L2:∀c∈JR,∀e,ng (EQ DD) O0 (nA 161) e 3 Tryz.f161 c.1 c.2.1 c.2.2.1=cb (decide (e=e)) (some (.slc false c.1 c.2.2.2)):=HR (fun e=>by kernel_rfl) fun e=>by kernel_rfl
def M0:FuncId→Option Mu:=fun k=>match k with
 |102=>some (.own 78 2)
 |161=>some (.tab false (vP JR))
 |_=>none
theorem m0:∀k g,M0 k=some g→uA Tryz.prog jx k g:=by
 intro k g h;unfold M0 at h;split at h
 ·cases h;exact vu ER fun _ _ _ _ _ h=>by cases h
 ·cases h;exact By L1 (fun k e n h=>by unfold DD at h;split at h<;>cases h) Tryz.func161 (by kernel_rfl) (by kernel_rfl) (enters_of Tryz.func161 (by kernel_rfl) rfl) (HR ⟨by decide,rfl⟩ ⟨by decide,rfl⟩) L2
 ·cases h
def vR:List PK:=[.cl,.cl,.cl,.cl,.cl,.cl]
def Cz:List PK:=vR++[.own 91 5,.cl]
def Bz:List Knd:=[.any,.any,.any,.any,.any,.any,.any,.any]
def L3:List Knd:=[.any,.any,.any,.any,.any,.any]
def Q0:FuncId→Option (Nat×TypeId×List PK×List PK):=fun k=>match k with
 |127=>some (0,209,Cz,Cz)
 |53=>some (0,223,Cz,Cz)
 |135=>some (0,223,Cz,Cz)
 |55=>some (0,223,Cz,Cz)
 |56=>some (0,223,Cz,Cz)
 |141=>some (0,243,Bl,Bl)
 |142=>some (0,243,Bl,Lv)
 |169=>some (0,28,vR,vR)
 |171=>some (0,28,vR,vR)
 |172=>some (0,28,vR,vR)
 |174=>some (0,28,vR,vR)
 |175=>some (0,28,vR,vR)
 |176=>some (0,28,vR,vR)
 |234=>some (0,28,vR,vR)
 |235=>some (0,28,vR,vR)
 |_=>none
def Bs:FuncId→FuncId→List Knd×List Nat:=fun f k=>match k with
 |127=>(Bz,[match f with|122=>0|53=>2|_=>1])
 |53=>(Bz,[20])
 |56=>(Bz,[20])
 |135=>(Bz,[2])
 |55=>(Bz,[1])
 |141=>([.any,.any],[5])
 |142=>([.any,.any],[])
 |_=>(L3,[])
def S0:FuncId→List Nat:=fun k=>match k with
 |127=>[1]
 |53=>[2]
 |135=>[3]
 |55=>[1]
 |56=>[1]
 |_=>[]
def PF(k:FuncId)(args:List D)(r:D):Prop:=∀q,Q0 k=some q→∀ds cells cells' x,q.1<ds.length→args=ds.set q.1 (.agg cells)→r= .tup [.agg cells',x]→Dg Tryz.prog jx k q.1 q.2.1 q.2.2.1 q.2.2.2 ds cells cells' x
def L4(tp:List lH):FuncId→Option (List D→Option D):=fun k=>match k with
 |141=>some FT
 |142=>some FU
 |k=>(match tp.any fun e=>decide (e.1=k) with
  |true=>some (vK tp k)
  |false=>none)
noncomputable def X1(l:List lH):Lt:=fun k=>match decide (k=102) with
 |true=>some fun _=>Bx
 |false=>(match l.any fun e=>decide (e.1=k) with
  |true=>some (fun _=>vK l k)
  |false=>XL k)
def M8:List D:=[.nils,.nils,.nils,.nils,.nils,.nils,.nils,.nils]
def L5:FuncId→Option Inl:=fun k=>match k with
 |78=>some (Iq 165 M8)
 |_=>none
abbrev vS:=FuncId×List D×List (List D)
def BA:List vS→FuncId→List D→Option (List (List D))
 |[],_,_=>none
 |e::l,k,ds=>match decide (e.1=k) with
  |true=>(match qd (rf 8) e.2.1 ds with
   |true=>some e.2.2
   |false=>BA l k ds)
  |false=>BA l k ds
noncomputable def BU(l tp:List lH)(sq:List vS):RunB:={R:={P:=Tryz.prog,gl:=jx,X:=X1 l,ord:=zz,N:=nA,K:=fun k=>decide (k=102),cst:=fun _ _=>none,sq:=BA sq,M:=M0,L:=1000000,C:=fun _=>1},Q:=Q0,Tp:=L4 tp,B:=Bs,S:=S0,I:=L5,tb:=some 243,ns:=true}
theorem qf:∀{l:List lH} {k:FuncId} {ds:List D} {r:D},vK l k ds=some r→(k,ds,r)∈l
 |[],_,_,_,h=>by cases h
 |e::l,k,ds,r,h=>by
  simp only[vK] at h;split at h
  ·rename_i hk;simp only[zc3] at hk;split at h
   ·rename_i hd;cases h;have hd:=km (mz 8) _ _ hd;subst hk hd;exact za2 ..
   ·exact za3 _ (qf h)
  ·exact za3 _ (qf h)
theorem yE:∀{l:List vS},(∀e∈l,SeqOK Tryz.prog jx e.1 e.2.1 e.2.2)→∀g cs ys,BA l g cs=some ys→SeqOK Tryz.prog jx g cs ys
 |[],_=>fun _ _ _ h=>by cases h
 |e::l,hl=>fun k ds r h=>by
  have ih:=yE fun e he=>hl e (za3 _ he);simp only[BA] at h;split at h
  ·rename_i hk;simp only[zc3] at hk;split at h
   ·rename_i hd;cases h;rw[←hk,←km (mz 8) _ _ hd];exact hl e (za2 ..)
   ·exact ih k ds r h
  ·exact ih k ds r h
theorem JS:Ip Tryz.prog 78 M8:=by
 intro w
 go_enter Tryz.func78,Tryz.ntmps78
 go_wp2
 go_ret
 refine⟨_,_,rfl,rfl,rfl,fun j d v hd hv=> ?_⟩
 match j,hd,hv with
 |0,hd,hv=>cases hd;cases hv;rfl
 |1,hd,hv=>cases hd;cases hv;rfl
 |2,hd,hv=>cases hd;cases hv;rfl
 |3,hd,hv=>cases hd;cases hv;rfl
 |4,hd,hv=>cases hd;cases hv;rfl
 |5,hd,hv=>cases hd;cases hv;rfl
 |6,hd,hv=>cases hd;cases hv;rfl
 |7,hd,hv=>cases hd;cases hv;rfl
 |j+8,hd,_=>cases hd
theorem L6:∀vs w,(callFunc 78 vs).run Tryz.prog w= .ok (.enter 78 vs) w:=enters_of Tryz.func78 (by kernel_rfl) rfl
theorem JT{l tp:List lH}{sq:List vS}(hl:∀e∈l,ce e.1 e.2.1 e.2.2)(ht:∀e∈tp,PF e.1 e.2.1 e.2.2)(hs:∀e∈sq,SeqOK Tryz.prog jx e.1 e.2.1 e.2.2)(n:Nat):
  (∀(f:FuncId) (ds:List D) (r:D),fK (BU l tp sq) n false f ds=some r→ce f ds r)∧
  (∀(f:FuncId) (q:Nat×TypeId×List PK×List PK),Q0 f=some q→∀(ds cells cells':List D) (r:D),q.1<ds.length→fK (BU l tp sq) n true f (ds.set q.1 (.agg cells))=some (.tup [.agg cells',r])→Dg Tryz.prog jx f q.1 q.2.1 q.2.2.1 q.2.2.2 ds cells cells' r):=by
 refine xy (X:=BU l tp sq) lG (fun f g hg call _ ds r hr=> ?_) (fun _ _ _ h=>by cases h) (yE hs) m0 (fun k e n h=> ?_) M6 (fun k q hq=> ?_) (fun k g q hg hq ds cells cells' r hp h=> ?_) (fun k i hi=> ?_) n
 ·have hg:X1 l f=some g:=hg;unfold X1 at hg;split at hg
  ·rename_i hk;cases hg;have hk:=of_decide_eq_true hk;subst hk;exact DB ds r hr
  ·split at hg
   ·cases hg;exact yy hl f ds r hr
   ·exact EP f g hg call ds r hr
 ·have h:M0 k=some (.own e n):=h;unfold M0 at h;split at h
  ·cases h;exact⟨rfl,fun _=>rfl,_,rfl,fun call ds len cs hg=>vN ds len cs hg⟩
  ·cases h
  ·cases h
 ·have hq:Q0 k=some q:=hq;unfold Q0 at hq;split at hq
  ·exact enters_of Tryz.func127 (by kernel_rfl) rfl
  ·exact enters_of Tryz.func53 (by kernel_rfl) rfl
  ·exact enters_of Tryz.func135 (by kernel_rfl) rfl
  ·exact enters_of Tryz.func55 (by kernel_rfl) rfl
  ·exact enters_of Tryz.func56 (by kernel_rfl) rfl
  ·exact enters_of Tryz.func141 (by kernel_rfl) rfl
  ·exact enters_of Tryz.func142 (by kernel_rfl) rfl
  ·exact enters_of Tryz.func169 (by kernel_rfl) rfl
  ·exact enters_of Tryz.func171 (by kernel_rfl) rfl
  ·exact enters_of Tryz.func172 (by kernel_rfl) rfl
  ·exact enters_of Tryz.func174 (by kernel_rfl) rfl
  ·exact enters_of Tryz.func175 (by kernel_rfl) rfl
  ·exact enters_of Tryz.func176 (by kernel_rfl) rfl
  ·exact enters_of Tryz.func234 (by kernel_rfl) rfl
  ·exact enters_of Tryz.func235 (by kernel_rfl) rfl
  ·cases hq
 ·have hg:L4 tp k=some g:=hg;have hq:Q0 k=some q:=hq;unfold L4 at hg;split at hg
  ·cases hg;cases hq;exact Dz ds cells cells' r hp h
  ·cases hg;cases hq;exact DA ds cells cells' r hp h
  ·split at hg
   ·cases hg;exact ht _ (qf h) q hq ds cells cells' r hp rfl rfl
   ·cases hg
 ·have hi:L5 k=some i:=hi;unfold L5 at hi;split at hi
  ·cases hi;exact Dj L6 JS
  ·cases hi
theorem zD{l tp:List lH}{sq:List vS}(hl:∀e∈l,ce e.1 e.2.1 e.2.2)(ht:∀e∈tp,PF e.1 e.2.1 e.2.2)(hs:∀e∈sq,SeqOK Tryz.prog jx e.1 e.2.1 e.2.2){k:FuncId}{ds:List D}{r:D}(h:fK (BU l tp sq) 60 false k ds=some r):ce k ds r:=(JT hl ht hs 60).1 k ds r h
theorem jy{l tp:List lH}{sq:List vS}(hl:∀e∈l,ce e.1 e.2.1 e.2.2)(ht:∀e∈tp,PF e.1 e.2.1 e.2.2)(hs:∀e∈sq,SeqOK Tryz.prog jx e.1 e.2.1 e.2.2){k:FuncId}{args:List D}{r:D}(h:fK (BU l tp sq) 60 true k args=some r):PF k args r:=by
 intro q hq ds cells cells' x hp ha hr;subst ha hr;exact(JT hl ht hs 60).2 k q hq ds cells cells' x hp h
theorem kH:∀e∈([]:List lH),ce e.1 e.2.1 e.2.2:=fun _ h=>by cases h
theorem oP:∀e∈([]:List lH),PF e.1 e.2.1 e.2.2:=fun _ h=>by cases h
theorem qg:∀e∈([]:List vS),SeqOK Tryz.prog jx e.1 e.2.1 e.2.2:=fun _ h=>by cases h
theorem em{k:FuncId}{ds:List D}{r:D}(h:fK (BU [] [] []) 60 false k ds=some r):ce k ds r:=zD kH oP qg h
theorem fL{l:List lH}(hl:∀e∈l,ce e.1 e.2.1 e.2.2){k:FuncId}{ds:List D}{r:D}(h:fK (BU l [] []) 60 false k ds=some r):ce k ds r:=zD hl oP qg h
theorem bQ{e:lH}{l:List lH}(h:ce e.1 e.2.1 e.2.2)(hl:∀e∈l,ce e.1 e.2.1 e.2.2):∀x∈e::l,ce x.1 x.2.1 x.2.2:=fun x hx=>by
 rcases List.mem_cons.1 hx with rfl|hx
 ·exact h
 ·exact hl x hx
theorem dU{e:lH}{l:List lH}(h:PF e.1 e.2.1 e.2.2)(hl:∀e∈l,PF e.1 e.2.1 e.2.2):∀x∈e::l,PF x.1 x.2.1 x.2.2:=fun x hx=>by
 rcases List.mem_cons.1 hx with rfl|hx
 ·exact h
 ·exact hl x hx
def fB:Nat→List UInt8
 |1=>[99,108,117,98,32,108,105,110,107,115]
 |2=>[109,101,109,98,101,114,32,97,110,110,32,108,105,110,107,115,32,48]
 |3=>[109,101,109,98,101,114,32,98,101,110,32,108,105,110,107,115,32,50]
 |4=>[104,111,108,101,115,32,52,58,50,32,51,58,49]
 |5=>[109,97,114,107,32,97,110,110,32,98,101,110,32,49,32,53]
 |6=>[99,108,97,105,109,32,97,110,110,32,49,32,53]
 |7=>[109,97,114,107,32,97,110,110,32,98,101,110,32,50,32,51]
 |8=>[109,97,114,107,32,98,101,110,32,97,110,110,32,49,32,52]
 |_=>[]
def M9:Nat→List D
 |1=>[.int .i64 1,SB [99,108,117,98],.slc false 1 [SB [108,105,110,107,115]],.slc true 0 [],SB []]
 |2=>[.int .i64 2,SB [109,101,109,98,101,114],.slc false 2 [SB [97,110,110],SB [108,105,110,107,115]],.slc true 0 [],SB [48]]
 |3=>[.int .i64 3,SB [109,101,109,98,101,114],.slc false 2 [SB [98,101,110],SB [108,105,110,107,115]],.slc true 0 [],SB [50]]
 |4=>[.int .i64 4,SB [104,111,108,101,115],.slc true 0 [],.slc true 0 [],SB [52,58,50,32,51,58,49]]
 |5=>[.int .i64 5,SB [109,97,114,107],.slc false 2 [SB [97,110,110],SB [98,101,110]],.slc false 1 [.int .i64 1],SB [53]]
 |6=>[.int .i64 6,SB [99,108,97,105,109],.slc false 1 [SB [97,110,110]],.slc false 1 [.int .i64 1],SB [53]]
 |7=>[.int .i64 7,SB [109,97,114,107],.slc false 2 [SB [97,110,110],SB [98,101,110]],.slc false 1 [.int .i64 2],SB [51]]
 |8=>[.int .i64 8,SB [109,97,114,107],.slc false 2 [SB [98,101,110],SB [97,110,110]],.slc false 1 [.int .i64 1],SB [52]]
 |_=>[]
def cO(k:Nat):D:= .agg (M9 k)
def JU:Nat→List D
 |0=>[]
 |k+1=>JU k++M9 (k+1)
def mkC:List D:=[SB [97,110,110],SB [98,101,110],.int .i64 1,.int .i64 5,SB [],SB [97,110,110],SB [97,110,110],.int .i64 1,.int .i64 5,SB [],SB [97,110,110],SB [98,101,110],.int .i64 2,.int .i64 3,SB [],SB [98,101,110],SB [97,110,110],.int .i64 1,.int .i64 4,SB []]
def mbC:List D:=[SB [97,110,110],SB [108,105,110,107,115],.int .i64 0,SB [98,101,110],SB [108,105,110,107,115],.int .i64 2]
def uC(k:Nat):List D:=[match k with|0=> .nils|_=> .slc false 1 [SB [108,105,110,107,115]],match k with|0=> .nils|1=> .nils|2=> .slc false 1 (mbC.take 3)|_=> .slc false 2 mbC,match k with|0=> .nils|1=> .nils|2=> .nils|3=> .nils|_=> .slc false 2 [.int .i64 4,.int .i64 2,.int .i64 3,.int .i64 1],
 match Nat.sub k 4 with|0=> .nils|m=> .slc false m (mkC.take (5*m)),.nils,.nils]
def Na:Nat→List D
 |0=>[]
 |k+1=>Na k++(uC k).map canon0
def hC(k:Nat):List D:=uC k++[match k with|0=> .nils|k=> .slc false k (JU k),match k with|0=> .nils|k=> .slc false k (Na k)]
def hD(k:Nat):D:= .agg (hC k)
def uD:D:= .agg ((uC 8).map canon0)
def JV:D:= .slc true 8 [SB (fB 1),SB (fB 2),SB (fB 3),SB (fB 4),SB (fB 5),SB (fB 6),SB (fB 7),SB (fB 8)]
def BB:D:= .slc false 8 (JU 8)
def bE:Nat→Int
 |1=>3025347
 |2=>7649311
 |3=>11553383
 |4=>1217935
 |5=>3380265
 |6=>9444044
 |7=>12176769
 |8=>6273512
 |_=>0
def jZ:Nat→List UInt8
 |1=>[49,32,99,108,117,98,32,108,105,110,107,115]
 |2=>[50,32,109,101,109,98,101,114,32,97,110,110,32,108,105,110,107,115,32,48]
 |3=>[51,32,109,101,109,98,101,114,32,98,101,110,32,108,105,110,107,115,32,50]
 |4=>[52,32,104,111,108,101,115,32,52,58,50,32,51,58,49]
 |5=>[53,32,109,97,114,107,32,97,110,110,32,98,101,110,32,49,32,53]
 |6=>[54,32,99,108,97,105,109,32,97,110,110,32,49,32,53]
 |7=>[55,32,109,97,114,107,32,97,110,110,32,98,101,110,32,50,32,51]
 |8=>[56,32,109,97,114,107,32,98,101,110,32,97,110,110,32,49,32,52]
 |_=>[]
def j0:Nat→List UInt8
 |1=>[50,101,50,57,99,51]
 |2=>[55,52,98,56,49,102]
 |3=>[98,48,52,97,54,55]
 |4=>[49,50,57,53,56,102]
 |5=>[51,51,57,52,50,57]
 |6=>[57,48,49,97,99,99]
 |7=>[98,57,99,100,56,49]
 |8=>[53,102,98,57,101,56]
 |_=>[]
def kI(k:Nat):List UInt8:=jZ k++[35]++j0 k
def DE:Nat→List UInt8
 |0=>[]
 |k+1=>DE k++kI (k+1)++[10]
def BC:List UInt8:=DE 8++[57]
def nI(n:Int):D:= .int .i64 n
def kJ(d:D):D:= .tup [d,nI 0]
def fD:D:= .agg [.slc true 2 [SB [100],nI 1,SB [97,110,110],nI 1,nI 4,SB [],SB [100],nI 3,SB [97,110,110],nI 2,nI 3,SB []]]
end Go.Pd
end
