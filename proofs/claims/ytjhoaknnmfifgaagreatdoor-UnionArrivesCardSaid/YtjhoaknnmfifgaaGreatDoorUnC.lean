import Derived.Test.YtjhoaknnmfifgaaGreatDoorUnB
import Derived.Test.YtjhoaknnmfifgaaGreatDoorUnA
section
namespace Go.Pd
open Go Go.Proofs Go.RowKit
set_option maxRecDepth 100000
def oT(f:D→D→Bool):List D→List D→Bool
 |[],[]=>true
 |x::xs,y::ys=>(match f x y with
  |true=>oT f xs ys
  |false=>false)
 |_,_=>false
def pN:Nat→D→D→Bool
 |0,_,_=>false
 |n+1,a,b=>match a,b with
  | .int k x,.int k' y=>decide (k=k')&&decide (x=y)
  | .str x,.str y=>x.data.toList==y.data.toList
  | .bool x,.bool y=>x==y
  | .nils,.nils=>true
  | .slc f n1 cs,.slc f' n1' cs'=>(f==f')&&(decide (n1=n1')&&oT (pN n) cs cs')
  | .agg cs,.agg cs'=>oT (pN n) cs cs'
  | .snap cs o,.snap cs' o'=>decide (o=o')&&oT (pN n) cs cs'
  | .fn (.func g) x y,.fn (.func g') x' y'=>decide (g=g')&&(oT (pN n) x x'&&oT (pN n) y y')
  |_,_=>false
theorem j4{f:D→D→Bool}(hf:∀a b,f a b=true→a=b):∀xs ys,oT f xs ys=true→xs=ys
 |[],[],_=>rfl
 |x::xs,y::ys,h=>by
  simp only[oT] at h;split at h
  ·rename_i hx;rw[hf _ _ hx,j4 hf xs ys h]
  ·cases h
 |[],_::_,h=>by cases h
 |_::_,[],h=>by cases h
theorem lM:∀(n:Nat) (a b:D),pN n a b=true→a=b
 |0,_,_,h=>by cases h
 |n+1,a,b,h=>by
  have ih:=j4 (lM n);unfold pN at h;split at h
  ·simp only[zc2,zc5] at h;rw[h.1,h.2]
  ·rename_i x y;have h2:x.data=y.data:=by
    have:=eq_of_beq h;rw[←Array.toArray_toList (xs:=x.data),this]
   rw[ByteArray.ext h2]
  ·rw[eq_of_beq h]
  ·rfl
  ·simp only[zc2,zc5,ze0] at h;rw[h.1,h.2.1,ih _ _ h.2.2]
  ·rw[ih _ _ h]
  ·simp only[zc2,zc5] at h;rw[h.1,ih _ _ h.2]
  ·simp only[zc2,zc5] at h;rw[h.1,ih _ _ h.2.1,ih _ _ h.2.2]
  ·cases h
abbrev kV:=FuncId×List D×D
def uh:List kV→FuncId→List D→Option D
 |[],_,_=>none
 |e::l,k,ds=>match decide (e.1=k) with
  |true=>(match oT (pN 8) e.2.1 ds with
   |true=>some e.2.2
   |false=>uh l k ds)
  |false=>uh l k ds
theorem xD:∀{l:List kV},(∀e∈l,bV e.1 e.2.1 e.2.2)→gX (uh l)
 |[],_=>fun _ _ _ h=>by cases h
 |e::l,hl=>fun k ds r h=>by
  have ih:=xD fun e he=>hl e (za5 _ he);simp only[uh] at h;split at h
  ·rename_i hk;simp only[zc5] at hk;split at h
   ·rename_i hd;cases h;rw[←hk,←j4 (lM 8) _ _ hd];exact hl e (za4 ..)
   ·exact ih k ds r h
  ·exact ih k ds r h
theorem xE{a b:Nat}(h:Nat.blt a b=true):a<b:=Nat.le_of_ble_eq_true h
theorem E3{a b:Nat}(h:a<b):Nat.blt a b=true:=Nat.ble_eq_true_of_le h
theorem oU(s:ByteArray):SB s.data.toList= .str s:=congrArg D.str (xy s)
def yJ:Nat→Nat→List UInt8→List UInt8
 |0,_,a=>a
 |k+1,n,a=>match Nat.blt n 10 with
  |true=>UInt8.ofNat (48+n)::a
  |false=>yJ k (n/10) (UInt8.ofNat (48+n%10)::a)
theorem rY:∀(k n:Nat) (a:List UInt8),n<10^k→0<k→yJ k n a=Lib.decDigits n++a
 |0,_,_,_,h=>absurd h (zc6 _)
 |k+1,n,a,h,_=>by
  unfold yJ;rw[Lib.decDigits];cases hb:Nat.blt n 10 with
  |true=>
   have:n<10:=xE hb;rw[dif_pos this];rfl
  |false=>
   have hn:¬n<10:=fun h=>by
    have:Nat.blt n 10=true:=E3 h;rw[this] at hb;cases hb
   rw[dif_neg hn];have hk:0<k:=by
    rcases Nat.eq_zero_or_pos k with h0|h0
    ·subst h0;simp at h;omega
    ·exact h0
   show yJ k (n/10) (UInt8.ofNat (48+n%10)::a)=_;rw[rY k (n/10) _ (by rw[Nat.div_lt_iff_lt_mul (by omega),←Nat.pow_succ];exact h) hk];simp
def E4:List D→Option D
 |[.int .i64 n]=>(match decide (-9223372036854775808≤n∧n<9223372036854775808),n with
  |true,.ofNat n=>some (SB (yJ 20 n []))
  |true,.negSucc n=>some (SB (45::yJ 20 (n+1) []))
  |false,_=>none)
 |_=>none
theorem CZ:∀ds r,E4 ds=some r→bV 138 ds r:=by
 intro ds r h;unfold E4 at h;split at h
 ·rename_i n0;split at h
  ·rename_i n hb;cases h;have hb:=of_decide_eq_true hb;have hb': -9223372036854775808≤(n:Int)∧(n:Int)<9223372036854775808:=hb;rw[rY 20 n [] (by omega) (by omega),zb4];have:=D7 (.ofNat n) hb;unfold Lib.itoa at this;rw[if_neg (by simp)] at this;exact this
  ·rename_i n hb;cases h;have hb:=of_decide_eq_true hb;rw[rY 20 (n+1) [] (by omega) (by omega),zb4];have:=D7 (.negSucc n) hb;unfold Lib.itoa at this;rw[if_pos (Int.negSucc_lt_zero n)] at this;exact this
  ·cases h
 ·cases h
def C0(c:UInt8):List UInt8→Int
 |[]=> -1
 |b::l=>match b==c with
  |true=>0
  |false=>(match C0 c l with
   | .ofNat n=> .ofNat (n+1)
   | .negSucc _=> -1)
theorem xF(c:UInt8):∀l,C0 c l=Lib.indexByte l c
 |[]=>rfl
 |b::l=>by
  unfold C0 Lib.indexByte;have hge:=Lib.indexByte_ge l c;rw[xF c l];cases hb:b==c with
  |true=>rfl
  |false=>
   simp only[Bool.false_eq_true,if_false];cases hi:Lib.indexByte l c with
   |ofNat n=>
    have:(Int.ofNat n== -1)=false:=by simp
    simp only[this,Bool.false_eq_true,if_false];rfl
   |negSucc n=>
    rw[hi] at hge;have:n=0:=by omega
    subst this;rfl
def Km:List D→Option D
 |[.str s,.int .u8 (.ofNat n)]=>(match Nat.blt n 256 with
  |true=>some (.int .i64 (C0 (UInt8.ofNat n) s.data.toList))
  |false=>none)
 |_=>none
theorem E5:∀ds r,Km ds=some r→bV 306 ds r:=by
 intro ds r h;unfold Km at h;split at h
 ·rename_i s n;split at h
  ·rename_i hb;cases h;have hn:n<256:=xE hb;have:=Iu s.data.toList (UInt8.ofNat n);rw[oU,←xF] at this;have he:((UInt8.ofNat n).toNat:Int)= .ofNat n:=by
    rw[UInt8.toNat_ofNat',Nat.mod_eq_of_lt hn];rfl
   rw[he] at this;exact this
  ·cases h
 ·cases h
def E6:List D→Option D
 |[.str s,.str c]=>(match c.data.toList with
  |[b]=>some (.int .i64 (Lib.countByte s.data.toList b:Nat))
  |_=>none)
 |_=>none
theorem AN{c:ByteArray}{b:UInt8}(h:c.data.toList=[b]):c=bs [b]:=by rw[←h,xy]
theorem C2:∀ds r,E6 ds=some r→bV 254 ds r:=by
 intro ds r h;unfold E6 at h;split at h
 ·rename_i s c;split at h
  ·rename_i b hb;cases h;have:=Iv s.data.toList b;rw[oU] at this;rw[AN hb];exact this
  ·cases h
 ·cases h
def E7:List D→Option D
 |[.str s]=>(match Nat.ble s.data.toList.length 18,Lib.atoi s.data.toList with
  |true,some n=>some (.tup [.int .i64 n,.nilif])
  |_,_=>none)
 |_=>none
theorem C3:∀ds r,E7 ds=some r→bV 262 ds r:=by
 intro ds r h;unfold E7 at h;split at h
 ·rename_i s;split at h
  ·rename_i n hb hn;cases h;have:=Iw s.data.toList n (Nat.le_of_ble_eq_true hb) hn;rw[oU] at this;exact this
  ·cases h
 ·cases h
def AO:List D→Option D
 |[.str s,.str c]=>(match Nat.ble s.data.toList.length 1000000&&(Nat.ble c.data.toList.length 1000&&c.data.toList.all fun b=>decide (b.toNat<128)) with
  |true=>some (SB (Lib.trimS s.data.toList c.data.toList))
  |false=>none)
 |_=>none
theorem AQ:∀ds r,AO ds=some r→bV 261 ds r:=by
 intro ds r h;unfold AO at h;split at h
 ·rename_i s c;split at h
  ·rename_i hb;cases h;simp only[zc2] at hb;have:=Ix s.data.toList c.data.toList (Nat.le_of_ble_eq_true hb.1) (Nat.le_of_ble_eq_true hb.2.1) hb.2.2;rw[oU,oU] at this;exact this
  ·cases h
 ·cases h
def xG:List D→Option (List (List UInt8))
 |[]=>some []
 | .str s::l=>(match xG l with
  |some r=>some (s.data.toList::r)
  |none=>none)
 |_=>none
theorem uk:∀(l:List D) {r:List (List UInt8)},xG l=some r→l=r.map SB
 |[],r,h=>by cases h;rfl
 |d::l,r,h=>by
  unfold xG at h;split at h
  ·rename_i heq;cases heq
  ·rename_i s l' heq;cases heq;split at h
   ·rename_i r' hr;cases h;rw[List.map_cons,←uk l hr,oU]
   ·cases h
  ·cases h
def AR(c:List UInt8):List (List UInt8)→List UInt8
 |[]=>[]
 |x::l=>match l with
  |[]=>x
  |y::l'=>x++c++AR c (y::l')
theorem xH(c:List UInt8):∀l,AR c l=Lib.join l c
 |[]=>rfl
 |[x]=>by rw[Lib.join_one];rfl
 |x::y::l=>by
  have ih:=xH c (y::l);show x++c++AR c (y::l)=_;rw[ih];unfold Lib.join;simp[List.intercalate]
def E8:List D→Option D
 |[.slc _ n cs,.str c]=>(match xG cs with
  |some ws=>(match Nat.ble n 1000000&&(Nat.beq ws.length n&&Nat.ble (AR c.data.toList ws).length 1000000) with
   |true=>some (SB (AR c.data.toList ws))
   |false=>none)
  |none=>none)
 |_=>none
theorem C4:∀ds r,E8 ds=some r→bV 206 ds r:=by
 intro ds r h;unfold E8 at h;split at h
 ·rename_i f n cs c;split at h
  ·rename_i ws hws;split at h
   ·rename_i hb;cases h;simp only[zc2] at hb;obtain⟨h1,h2,h3⟩:=hb;have h1:=Nat.le_of_ble_eq_true h1;have h2:=Nat.eq_of_beq_eq_true h2;have h3:=Nat.le_of_ble_eq_true h3;rw[xH] at h3 ⊢;have:=Iy (f:=f) ws c.data.toList (by omega) (by omega);rw[h2,←uk cs hws,oU] at this;exact this
   ·cases h
  ·cases h
 ·cases h
def C5(m:Nat):List D→Option D
 |[.nils]=>some (.slc true 0 [])
 |[.slc _ n cs]=>(match(Nat.ble n 1000000&&Nat.beq cs.length (n*m))&&(cs.all D.plain&&cs.all D.one) with
  |true=>some (JS n cs)
  |false=>none)
 |_=>none
theorem xI{k:FuncId}{m:Nat}(h0:∀{f:Bool} {n:Nat} {cs:List D},n≤1000000→cs.length=n*m→cs.all D.plain=true→cs.all D.one=true→bV k [.slc f n cs] (JS n cs)):∀ds r,C5 m ds=some r→bV k ds r:=by
 intro ds r h;unfold C5 at h;split at h
 ·cases h;exact CallOK.cnL (b:=true) (h0 (f:=true) (n:=0) (cs:=[]) (Nat.zero_le _) (by simp) rfl rfl)
 ·split at h
  ·rename_i hb;cases h;simp only[zc2] at hb;exact h0 (Nat.le_of_ble_eq_true hb.1.1) (Nat.eq_of_beq_eq_true hb.1.2) hb.2.1 hb.2.2
  ·cases h
 ·cases h
def XL:JV:=fun k=>match k with
 |138=>some (fun _=>E4)
 |206=>some (fun _=>E8)
 |208=>some (fun _=>C5 1)
 |209=>some (fun _=>C5 1)
 |254=>some (fun _=>E6)
 |261=>some (fun _=>AO)
 |262=>some (fun _=>E7)
 |306=>some (fun _=>Km)
 |_=>none
theorem D8:∀f g,XL f=some g→∀call ds r,g call ds=some r→bV f ds r:=by
 intro f g h call ds r hr;unfold XL at h;split at h<;>(first|(cases h;done)|cases h)
 ·exact CZ ds r hr
 ·exact C4 ds r hr
 ·exact xI Iq ds r hr
 ·exact xI Is ds r hr
 ·exact C2 ds r hr
 ·exact AQ ds r hr
 ·exact C3 ds r hr
 ·exact E5 ds r hr
def AS:List D→Option (List UInt8)
 |[]=>some []
 | .int .u8 (.ofNat n)::l=>(match Nat.blt n 256,AS l with
  |true,some r=>some (UInt8.ofNat n::r)
  |_,_=>none)
 |_=>none
theorem rZ:∀(l:List D) {r:List UInt8},AS l=some r→l=uQ r
 |[],r,h=>by cases h;rfl
 |d::l,r,h=>by
  unfold AS at h;split at h
  ·rename_i heq;cases heq
  ·rename_i n l' heq;cases heq;split at h
   ·rename_i r' hb hr;cases h;have hn:n<256:=xE hb;unfold uQ;rw[List.map_cons];have:=rZ l hr;unfold uQ at this;rw[←this,UInt8.toNat_ofNat',Nat.mod_eq_of_lt hn];rfl
   ·cases h
  ·cases h
def E9:List D→Option D
 |[.agg cells,.str s]=>(match Nat.ble s.data.toList.length 1000000&&Nat.blt 0 s.data.toList.length with
  |true=>(match cells with
   |[]=>some (.tup [.agg [.tup [],.slc false s.size (uQ s.data.toList)],.tup [.int .i64 (s.size:Nat),.nilif]])
   |[.tup [],.slc false n cs]=>(match AS cs with
    |some l=>(match Nat.ble n 1000000&&Nat.beq l.length n with
     |true=>some (.tup [.agg [.tup [],.slc false (n+s.size) (uQ (l++s.data.toList))],.tup [.int .i64 (s.size:Nat),.nilif]])
     |false=>none)
    |none=>none)
   |_=>none)
  |false=>none)
 |_=>none
def Fa:List D→Option D
 |[.agg [.tup [],.slc false n cs]]=>(match AS cs with
  |some (x::l)=>(match Nat.beq (x::l).length n with
   |true=>some (.tup [.agg [.tup [],.junk],.str ⟨(x::l).toArray⟩])
   |false=>none)
  |_=>none)
 |_=>none
theorem Iz{ds:List D}{x:D}{l:List D}(hp:0<ds.length)(h:ds.set 0 x=l):∃y r,ds=y::r∧l=x::r:=by
 cases ds with
 |nil=>cases hp
 |cons y r=>exact⟨y,r,rfl,h.symm⟩
theorem C6(ds cells cells':List D)(r:D)(hp:0<ds.length)(h:E9 (ds.set 0 (.agg cells))=some (.tup [.agg cells',r])):CJ Tryz.prog jf 141 0 243 AJ AJ ds cells cells' r:=by
 obtain⟨y,rs,rfl,_⟩:=Iz (x:= .agg cells) hp rfl;rw[List.set_cons_zero] at h;unfold E9 at h;split at h
 ·rename_i cl s heq;cases heq;split at h
  ·rename_i hb;simp only[zc2] at hb;have h1:=Nat.le_of_ble_eq_true hb.1;have h2:0<s.data.toList.length:=xE hb.2;have hs:=AL s;split at h
   ·cases h;exact E0 y s (by omega) (by omega)
   ·rename_i n cs _;split at h
    ·rename_i l hl;split at h
     ·rename_i hn;cases h;simp only[zc2] at hn;have h3:=Nat.le_of_ble_eq_true hn.1;have h4:=Nat.eq_of_beq_eq_true hn.2;rw[rZ cs hl,←h4];exact EZ y s l (by omega) (by omega)
     ·cases h
    ·cases h
   ·cases h
  ·cases h
 ·cases h
theorem C7(ds cells cells':List D)(r:D)(hp:0<ds.length)(h:Fa (ds.set 0 (.agg cells))=some (.tup [.agg cells',r])):CJ Tryz.prog jf 142 0 243 AJ JY ds cells cells' r:=by
 obtain⟨y,rs,rfl,_⟩:=Iz (x:= .agg cells) hp rfl;rw[List.set_cons_zero] at h;unfold Fa at h;split at h
 ·rename_i n cs heq;cases heq;split at h
  ·rename_i x l hl;split at h
   ·rename_i hn;cases h;rw[rZ cs hl,←Nat.eq_of_beq_eq_true hn];exact E1 y (x::l) (by simp)
   ·cases h
  ·cases h
 ·cases h
def ul(P:Program)(od:Nat→Option hN):List Nat→Bool
 |[]=>true
 |f::l=>match od f,P.funcs[f]? with
  |some o,some fn=>(match jj P o fn with
   |true=>ul P od l
   |false=>false)
  |_,_=>ul P od l
theorem mt{P:Program}{od:Nat→Option hN}:∀(l:List Nat),ul P od l=true→∀f∈l,∀o fn,od f=some o→P.funcs[f]?=some fn→jj P o fn=true
 |[],_,f,hf,_,_,_,_=>by cases hf
 |g::l,h,f,hf,o,fn,ho,hfn=>by
  unfold ul at h;rcases List.mem_cons.1 hf with rfl|hf
  ·rw[ho,hfn] at h;dsimp only at h;split at h
   ·assumption
   ·cases h
  ·split at h
   ·split at h
    ·exact mt l h f hf o fn ho hfn
    ·cases h
   ·exact mt l h f hf o fn ho hfn
theorem Ls:ul Tryz.prog yG listA=true:=by kernel_rfl
theorem AT{f:FuncId}{od:hN}(h:yG f=some od):f∈listA:=by
 unfold yG at h;split at h
 ·cases h
 ·rename_i hc;exact List.contains_iff_mem.1 hc
theorem Lb:∀f od fn,yG f=some od→Tryz.prog.funcs[f]?=some fn→jj Tryz.prog od fn=true:=fun f od fn ho hf=>mt listA Ls f (AT ho) od fn ho hf
noncomputable def Lt:Run:={P:=Tryz.prog,gl:=jf,X:=XL,ord:=yG,N:=nA,K:=fun _=>false,cst:=fun _ _=>none,sq:=fun _ _=>none,M:=fun _=>none,L:=1000000,C:=fun _=>1}
noncomputable def Kn:RunB:={R:=Lt,Q:=fun _=>none,Tp:=fun _=>none,B:=fun _ _=>([],[]),S:=fun _=>[],I:=fun _=>none,tb:=none,ns:=true}
theorem Ko:∀k ds r,fk Kn 40 false k ds=some r→bV k ds r:=fun k ds r h=>
 (wm (X:=Kn) jJ (fun f g hg call _ ds r hr=>D8 f g hg call ds r hr) (fun _ _ _ h=>by cases h) (fun _ _ _ h=>by cases h) (fun _ _ h=>by cases h) (fun _ _ _ h=>by cases h) Lb (fun _ _ h=>by cases h) (fun _ _ _ h=>by cases h) (fun _ _ h=>by cases h) 40).1 k ds r h
noncomputable def D9(M:FuncId→Option Mu):TE:={E:={P:=Tryz.prog,gl:=jf,call:=fk Kn 40 false,L:=1000,wr:=M},cst:=fun _ _=>none,C:=fun _=>1}
theorem Lc{M:FuncId→Option Mu}(hM:∀k g,M k=some g→sW Tryz.prog jf k g)(ho:∀k e n,M k≠some (.own e n)):EnvOK (D9 M).E:=
 ⟨zE Ko,hM,fun k e n h=>absurd h (ho k e n),fun _ _ h=>by cases h⟩
noncomputable def AU(ds:List D):Option D:=match ct (D9 fun _=>none) O0 (nA 102) .own Tryz.f102 ds with
 |some (.tup [.int .u64 e,.int .u64 n,.slc false len cs])=>(match decide (e=78)&&decide (n=2) with
  |true=>some (.slc false len cs)
  |false=>none)
 |_=>none
theorem Ea:∀vs w,(callFunc 102 vs).run Tryz.prog w= .ok (.enter 102 vs) w:=enters_of Tryz.func102 (by kernel_rfl) rfl
theorem um(ds:List D)(len:Nat)(cs:List D)(h:AU ds=some (.slc false len cs)):vr Tryz.prog jf 102 78 2 ds len cs:=by
 unfold AU at h;split at h
 ·rename_i e n len0 cs0 he;split at h
  ·rename_i hb;cases h;simp only[zc2,zc5] at hb;obtain⟨rfl,rfl⟩:=hb;have hw:=yA (Te:=D9 fun _=>none) jJ (Lc (fun _ _ h=>by cases h) fun _ _ _ h=>by cases h) (fun _ _ _ h=>by cases h) rfl (fun _ _ _ h=>by cases h) Tryz.func102 (ord:=O0) (N:=nA 102) (by kernel_rfl) he;intro I w vs h1 h2 h3 h4;refine(hw.2 I w vs h1 h2 h3 h4).mono ?_
   rintro en w' ⟨hbel,⟨h,_⟩|⟨e,n,len,cs,b,cap,c,h,k1,k2,k3,k4,k5,k6,k7,k8⟩⟩
   ·cases h
   ·simp only[D.tup.injEq,zc3,D.int.injEq,D.slc.injEq,true_and,and_true] at h;obtain⟨ha,hb,rfl,rfl⟩:=h;have ha:e=78:=by omega
    have hb:n=2:=by omega
    subst ha hb;exact⟨hbel,b,cap,c,k1,k2,k3,k4,k5,k6,k7,k8⟩
  ·cases h
 ·cases h
theorem C8(ds:List D)(r:D)(h:AU ds=some r):bV 102 ds r:=by
 have:∃len cs,r= .slc false len cs:=by
  unfold AU at h;split at h
  ·split at h
   ·cases h;exact⟨_,_,rfl⟩
   ·cases h
  ·cases h
 obtain⟨len,cs,rfl⟩:=this;exact oR Ea (um ds len cs h)
def jL:List UInt8:=[97,110,110]
def IA:List UInt8:=[98,101,110]
def Kp:List D:=[SB jL,.int .i64 2,.int .i64 1,SB IA,.int .i64 1,.int .i64 (-1)]
def GH:List D:=[SB IA,.int .i64 1,.int .i64 (-1),SB jL,.int .i64 2,.int .i64 1]
def qF:D:= .fn (.func 162) [] []
def GI:List D:=[SB jL,.int .i64 1,.int .i64 0]
abbrev un:=Nat×List D×List D×List D
def uo:List un→List D→Option D
 |[],_=>none
 |c::G,ds=>match oT (pN 8) (.slc false c.1 c.2.1::c.2.2.1) ds with
  |true=>some (.slc false c.1 c.2.2.2)
  |false=>uo G ds
theorem up:∀{G:List un} {ds:List D} {r:D},uo G ds=some r→∃c∈G,ds= .slc false c.1 c.2.1::c.2.2.1∧r= .slc false c.1 c.2.2.2
 |[],_,_,h=>by cases h
 |c::G,ds,r,h=>by
  unfold uo at h;split at h
  ·rename_i hb;cases h;exact⟨c,za4 ..,(j4 (lM 8) _ _ hb).symm,rfl⟩
  ·obtain⟨c',h1,h2⟩:=up h;exact⟨c',za5 _ h1,h2⟩
theorem AV{k:FuncId}{fn:Func}{M:FuncId→Option Mu}{N:bH}{G:List un}(hM:∀k g,M k=some g→sW Tryz.prog jf k g)(ho:∀k e n,M k≠some (.own e n))(hf:Tryz.prog.funcs[k]?=some fn)(hok:jj Tryz.prog O0 fn=true)(h0:wg fn=true)
  (hen:∀vs w,(callFunc k vs).run Tryz.prog w= .ok (.enter k vs) w) (hl:∀c∈G,0<c.1∧c.2.1.length=c.1*3) (he:∀c∈G,∀e,mi (D9 M) O0 N e 3 fn c.1 c.2.1 c.2.2.1=bT (decide (e=e)) (some (.slc false c.1 c.2.2.2))):sW Tryz.prog jf k (.tab false (uo G)):=by
 refine tU hen fun cs len rs cs' m hg=> ?_;have hg:zm false (uo G) cs len rs=some (cs',m):=hg;unfold zm at hg;split at hg
 ·rename_i f m' cs2 hmu;obtain⟨c,hc,h1,h2⟩:=up hmu;simp only[zc3,D.slc.injEq,true_and] at h1;obtain⟨⟨rfl,rfl⟩,rfl⟩:=h1;cases h2;cases hg;refine yB (Te:=D9 M) jJ (Lc hM ho) (fun _ _ _ h=>by cases h) rfl (fun _ _ _ h=>by cases h) hf (ord:=O0) (N:=N) hok h0 fun e n hn=> ?_;obtain⟨q1,q2⟩:=hl c hc;have:n=3:=Nat.eq_of_mul_eq_mul_left q1 (by omega);subst this;exact(he c hc e).trans (by simp[bT])
 ·cases hg
theorem two{p:un→Prop}{a b:un}(ha:p a)(hb:p b):∀c∈[a,b],p c:=fun c hc=>by
 rcases List.mem_cons.1 hc with rfl|hc
 ·exact ha
 ·rw[zc9.1 hc];exact hb
def IB:List un:=[(2,Kp,[.int .i64 0,.int .i64 2,qF],GH),(1,GI,[.int .i64 0,.int .i64 1,qF],GI)]
def C9:FuncId→Option Mu:=fun k=>match k with
 |281=>some (.tab false (uo IB))
 |_=>none
theorem Kq:∀c∈IB,∀e,mi (D9 fun _=>none) O0 (nA 281) e 3 Tryz.f281 c.1 c.2.1 c.2.2.1=bT (decide (e=e)) (some (.slc false c.1 c.2.2.2)):=two (fun e=>by kernel_rfl) fun e=>by kernel_rfl
theorem Ks:∀k g,C9 k=some g→sW Tryz.prog jf k g:=by
 intro k g h;unfold C9 at h;split at h
 ·cases h;exact AV (fun _ _ h=>by cases h) (fun _ _ _ h=>by cases h) Tryz.func281 (by kernel_rfl) (by kernel_rfl) (enters_of Tryz.func281 (by kernel_rfl) rfl) (two ⟨by decide,rfl⟩ ⟨by decide,rfl⟩) Kq
 ·cases h
def IC:List un:=[(2,Kp,[.int .i64 2,qF],GH),(1,GI,[.int .i64 1,qF],GI)]
def Da:FuncId→Option Mu:=fun k=>match k with
 |226=>some (.tab false (uo IC))
 |_=>none
theorem Kt:∀c∈IC,∀e,mi (D9 C9) O0 (nA 226) e 3 Tryz.f226 c.1 c.2.1 c.2.2.1=bT (decide (e=e)) (some (.slc false c.1 c.2.2.2)):=two (fun e=>by kernel_rfl) fun e=>by kernel_rfl
theorem Ku:∀k g,Da k=some g→sW Tryz.prog jf k g:=by
 intro k g h;unfold Da at h;split at h
 ·cases h;exact AV Ks (fun k e n h=>by unfold C9 at h;split at h<;>cases h) Tryz.func226 (by kernel_rfl) (by kernel_rfl) (enters_of Tryz.func226 (by kernel_rfl) rfl) (two ⟨by decide,rfl⟩ ⟨by decide,rfl⟩) Kt
 ·cases h
def ID:List un:=[(2,Kp,[qF],GH),(1,GI,[qF],GI)]
theorem Kv:∀c∈ID,∀e,mi (D9 Da) O0 (nA 161) e 3 Tryz.f161 c.1 c.2.1 c.2.2.1=bT (decide (e=e)) (some (.slc false c.1 c.2.2.2)):=two (fun e=>by kernel_rfl) fun e=>by kernel_rfl
def M0:FuncId→Option Mu:=fun k=>match k with
 |102=>some (.own 78 2)
 |161=>some (.tab false (uo ID))
 |_=>none
theorem m0:∀k g,M0 k=some g→sW Tryz.prog jf k g:=by
 intro k g h;unfold M0 at h;split at h
 ·cases h;exact tU Ea fun _ _ _ _ _ h=>by cases h
 ·cases h;exact AV Ku (fun k e n h=>by unfold Da at h;split at h<;>cases h) Tryz.func161 (by kernel_rfl) (by kernel_rfl) (enters_of Tryz.func161 (by kernel_rfl) rfl) (two ⟨by decide,rfl⟩ ⟨by decide,rfl⟩) Kv
 ·cases h
def uq:List PK:=[.cl,.cl,.cl,.cl,.cl,.cl]
def BY:List PK:=uq++[.own 91 5,.cl]
def AW:List Knd:=[.any,.any,.any,.any,.any,.any,.any,.any]
def Kw:List Knd:=[.any,.any,.any,.any,.any,.any]
def Q0:FuncId→Option (Nat×TypeId×List PK×List PK):=fun k=>match k with
 |127=>some (0,209,BY,BY)
 |53=>some (0,223,BY,BY)
 |135=>some (0,223,BY,BY)
 |55=>some (0,223,BY,BY)
 |56=>some (0,223,BY,BY)
 |141=>some (0,243,AJ,AJ)
 |142=>some (0,243,AJ,JY)
 |169=>some (0,28,uq,uq)
 |171=>some (0,28,uq,uq)
 |172=>some (0,28,uq,uq)
 |174=>some (0,28,uq,uq)
 |175=>some (0,28,uq,uq)
 |176=>some (0,28,uq,uq)
 |234=>some (0,28,uq,uq)
 |235=>some (0,28,uq,uq)
 |_=>none
def Bs:FuncId→FuncId→List Knd×List Nat:=fun f k=>match k with
 |127=>(AW,[match f with|122=>0|53=>2|_=>1])
 |53=>(AW,[20])
 |56=>(AW,[20])
 |135=>(AW,[2])
 |55=>(AW,[1])
 |141=>([.any,.any],[5])
 |142=>([.any,.any],[])
 |_=>(Kw,[])
def S0:FuncId→List Nat:=fun k=>match k with
 |127=>[1]
 |53=>[2]
 |135=>[3]
 |55=>[1]
 |56=>[1]
 |_=>[]
def PF(k:FuncId)(args:List D)(r:D):Prop:=∀q,Q0 k=some q→∀ds cells cells' x,q.1<ds.length→args=ds.set q.1 (.agg cells)→r= .tup [.agg cells',x]→CJ Tryz.prog jf k q.1 q.2.1 q.2.2.1 q.2.2.2 ds cells cells' x
def Kx(tp:List kV):FuncId→Option (List D→Option D):=fun k=>match k with
 |141=>some E9
 |142=>some Fa
 |k=>(match tp.any fun e=>decide (e.1=k) with
  |true=>some (uh tp k)
  |false=>none)
noncomputable def X1(l:List kV):JV:=fun k=>match decide (k=102) with
 |true=>some fun _=>AU
 |false=>(match l.any fun e=>decide (e.1=k) with
  |true=>some (fun _=>uh l k)
  |false=>XL k)
def Ld:List D:=[.nils,.nils,.nils,.nils,.nils,.nils,.nils,.nils]
def Ky:FuncId→Option Inl:=fun k=>match k with
 |78=>some (Ha 165 Ld)
 |_=>none
abbrev ur:=FuncId×List D×List (List D)
def AX:List ur→FuncId→List D→Option (List (List D))
 |[],_,_=>none
 |e::l,k,ds=>match decide (e.1=k) with
  |true=>(match oT (pN 8) e.2.1 ds with
   |true=>some e.2.2
   |false=>AX l k ds)
  |false=>AX l k ds
noncomputable def BU(l tp:List kV)(sq:List ur):RunB:={R:={P:=Tryz.prog,gl:=jf,X:=X1 l,ord:=yG,N:=nA,K:=fun k=>decide (k=102),cst:=fun _ _=>none,sq:=AX sq,M:=M0,L:=1000000,C:=fun _=>1},Q:=Q0,Tp:=Kx tp,B:=Bs,S:=S0,I:=Ky,tb:=some 243,ns:=true}
theorem oV:∀{l:List kV} {k:FuncId} {ds:List D} {r:D},uh l k ds=some r→(k,ds,r)∈l
 |[],_,_,_,h=>by cases h
 |e::l,k,ds,r,h=>by
  simp only[uh] at h;split at h
  ·rename_i hk;simp only[zc5] at hk;split at h
   ·rename_i hd;cases h;have hd:=j4 (lM 8) _ _ hd;subst hk hd;exact za4 ..
   ·exact za5 _ (oV h)
  ·exact za5 _ (oV h)
theorem xJ:∀{l:List ur},(∀e∈l,SeqOK Tryz.prog jf e.1 e.2.1 e.2.2)→∀g cs ys,AX l g cs=some ys→SeqOK Tryz.prog jf g cs ys
 |[],_=>fun _ _ _ h=>by cases h
 |e::l,hl=>fun k ds r h=>by
  have ih:=xJ fun e he=>hl e (za5 _ he);simp only[AX] at h;split at h
  ·rename_i hk;simp only[zc5] at hk;split at h
   ·rename_i hd;cases h;rw[←hk,←j4 (lM 8) _ _ hd];exact hl e (za4 ..)
   ·exact ih k ds r h
  ·exact ih k ds r h
theorem IE:G9 Tryz.prog 78 Ld:=by
 intro w
 go_enter Tryz.func78,Tryz.ntmps78
 go_wp2
 go_ret
 refine⟨_,_,rfl,rfl,rfl,fun j d v hd hv=> ?_⟩
 match j,hd,hv with
 |0,hd,hv=>cases hd;cases hv;rfl
 |1,hd,hv=>cases hd;cases hv;rfl
 |2,hd,hv=>cases hd;cases hv;rfl
 |3,hd,hv=>cases hd;cases hv;rfl
 |4,hd,hv=>cases hd;cases hv;rfl
 |5,hd,hv=>cases hd;cases hv;rfl
 |6,hd,hv=>cases hd;cases hv;rfl
 |7,hd,hv=>cases hd;cases hv;rfl
 |j+8,hd,_=>cases hd
theorem Kz:∀vs w,(callFunc 78 vs).run Tryz.prog w= .ok (.enter 78 vs) w:=enters_of Tryz.func78 (by kernel_rfl) rfl
theorem IF{l tp:List kV}{sq:List ur}(hl:∀e∈l,bV e.1 e.2.1 e.2.2)(ht:∀e∈tp,PF e.1 e.2.1 e.2.2)(hs:∀e∈sq,SeqOK Tryz.prog jf e.1 e.2.1 e.2.2)(n:Nat):
  (∀(f:FuncId) (ds:List D) (r:D),fk (BU l tp sq) n false f ds=some r→bV f ds r)∧
  (∀(f:FuncId) (q:Nat×TypeId×List PK×List PK),Q0 f=some q→∀(ds cells cells':List D) (r:D),q.1<ds.length→fk (BU l tp sq) n true f (ds.set q.1 (.agg cells))=some (.tup [.agg cells',r])→CJ Tryz.prog jf f q.1 q.2.1 q.2.2.1 q.2.2.2 ds cells cells' r):=by
 refine wm (X:=BU l tp sq) jJ (fun f g hg call _ ds r hr=> ?_) (fun _ _ _ h=>by cases h) (xJ hs) m0 (fun k e n h=> ?_) Lb (fun k q hq=> ?_) (fun k g q hg hq ds cells cells' r hp h=> ?_) (fun k i hi=> ?_) n
 ·have hg:X1 l f=some g:=hg;unfold X1 at hg;split at hg
  ·rename_i hk;cases hg;have hk:=of_decide_eq_true hk;subst hk;exact C8 ds r hr
  ·split at hg
   ·cases hg;exact xD hl f ds r hr
   ·exact D8 f g hg call ds r hr
 ·have h:M0 k=some (.own e n):=h;unfold M0 at h;split at h
  ·cases h;exact⟨rfl,fun _=>rfl,_,rfl,fun call ds len cs hg=>um ds len cs hg⟩
  ·cases h
  ·cases h
 ·have hq:Q0 k=some q:=hq;unfold Q0 at hq;split at hq
  ·exact enters_of Tryz.func127 (by kernel_rfl) rfl
  ·exact enters_of Tryz.func53 (by kernel_rfl) rfl
  ·exact enters_of Tryz.func135 (by kernel_rfl) rfl
  ·exact enters_of Tryz.func55 (by kernel_rfl) rfl
  ·exact enters_of Tryz.func56 (by kernel_rfl) rfl
  ·exact enters_of Tryz.func141 (by kernel_rfl) rfl
  ·exact enters_of Tryz.func142 (by kernel_rfl) rfl
  ·exact enters_of Tryz.func169 (by kernel_rfl) rfl
  ·exact enters_of Tryz.func171 (by kernel_rfl) rfl
  ·exact enters_of Tryz.func172 (by kernel_rfl) rfl
  ·exact enters_of Tryz.func174 (by kernel_rfl) rfl
  ·exact enters_of Tryz.func175 (by kernel_rfl) rfl
  ·exact enters_of Tryz.func176 (by kernel_rfl) rfl
  ·exact enters_of Tryz.func234 (by kernel_rfl) rfl
  ·exact enters_of Tryz.func235 (by kernel_rfl) rfl
  ·cases hq
 ·have hg:Kx tp k=some g:=hg;have hq:Q0 k=some q:=hq;unfold Kx at hg;split at hg
  ·cases hg;cases hq;exact C6 ds cells cells' r hp h
  ·cases hg;cases hq;exact C7 ds cells cells' r hp h
  ·split at hg
   ·cases hg;exact ht _ (oV h) q hq ds cells cells' r hp rfl rfl
   ·cases hg
 ·have hi:Ky k=some i:=hi;unfold Ky at hi;split at hi
  ·cases hi;exact CN Kz IE
  ·cases hi
theorem yK{l tp:List kV}{sq:List ur}(hl:∀e∈l,bV e.1 e.2.1 e.2.2)(ht:∀e∈tp,PF e.1 e.2.1 e.2.2)(hs:∀e∈sq,SeqOK Tryz.prog jf e.1 e.2.1 e.2.2){k:FuncId}{ds:List D}{r:D}(h:fk (BU l tp sq) 60 false k ds=some r):bV k ds r:=(IF hl ht hs 60).1 k ds r h
theorem jl{l tp:List kV}{sq:List ur}(hl:∀e∈l,bV e.1 e.2.1 e.2.2)(ht:∀e∈tp,PF e.1 e.2.1 e.2.2)(hs:∀e∈sq,SeqOK Tryz.prog jf e.1 e.2.1 e.2.2){k:FuncId}{args:List D}{r:D}(h:fk (BU l tp sq) 60 true k args=some r):PF k args r:=by
 intro q hq ds cells cells' x hp ha hr;subst ha hr;exact(IF hl ht hs 60).2 k q hq ds cells cells' x hp h
theorem ki:∀e∈([]:List kV),bV e.1 e.2.1 e.2.2:=fun _ h=>by cases h
theorem nG:∀e∈([]:List kV),PF e.1 e.2.1 e.2.2:=fun _ h=>by cases h
theorem oW:∀e∈([]:List ur),SeqOK Tryz.prog jf e.1 e.2.1 e.2.2:=fun _ h=>by cases h
theorem dW{k:FuncId}{ds:List D}{r:D}(h:fk (BU [] [] []) 60 false k ds=some r):bV k ds r:=yK ki nG oW h
theorem fm{l:List kV}(hl:∀e∈l,bV e.1 e.2.1 e.2.2){k:FuncId}{ds:List D}{r:D}(h:fk (BU l [] []) 60 false k ds=some r):bV k ds r:=yK hl nG oW h
theorem bF{e:kV}{l:List kV}(h:bV e.1 e.2.1 e.2.2)(hl:∀e∈l,bV e.1 e.2.1 e.2.2):∀x∈e::l,bV x.1 x.2.1 x.2.2:=fun x hx=>by
 rcases List.mem_cons.1 hx with rfl|hx
 ·exact h
 ·exact hl x hx
theorem dC{e:kV}{l:List kV}(h:PF e.1 e.2.1 e.2.2)(hl:∀e∈l,PF e.1 e.2.1 e.2.2):∀x∈e::l,PF x.1 x.2.1 x.2.2:=fun x hx=>by
 rcases List.mem_cons.1 hx with rfl|hx
 ·exact h
 ·exact hl x hx
def eY:Nat→List UInt8
 |1=>[99,108,117,98,32,108,105,110,107,115]
 |2=>[109,101,109,98,101,114,32,97,110,110,32,108,105,110,107,115,32,48]
 |3=>[109,101,109,98,101,114,32,98,101,110,32,108,105,110,107,115,32,50]
 |4=>[104,111,108,101,115,32,52,58,50,32,51,58,49]
 |5=>[109,97,114,107,32,97,110,110,32,98,101,110,32,49,32,53]
 |6=>[99,108,97,105,109,32,97,110,110,32,49,32,53]
 |7=>[109,97,114,107,32,97,110,110,32,98,101,110,32,50,32,51]
 |8=>[109,97,114,107,32,98,101,110,32,97,110,110,32,49,32,52]
 |_=>[]
def Le:Nat→List D
 |1=>[.int .i64 1,SB [99,108,117,98],.slc false 1 [SB [108,105,110,107,115]],.slc true 0 [],SB []]
 |2=>[.int .i64 2,SB [109,101,109,98,101,114],.slc false 2 [SB [97,110,110],SB [108,105,110,107,115]],.slc true 0 [],SB [48]]
 |3=>[.int .i64 3,SB [109,101,109,98,101,114],.slc false 2 [SB [98,101,110],SB [108,105,110,107,115]],.slc true 0 [],SB [50]]
 |4=>[.int .i64 4,SB [104,111,108,101,115],.slc true 0 [],.slc true 0 [],SB [52,58,50,32,51,58,49]]
 |5=>[.int .i64 5,SB [109,97,114,107],.slc false 2 [SB [97,110,110],SB [98,101,110]],.slc false 1 [.int .i64 1],SB [53]]
 |6=>[.int .i64 6,SB [99,108,97,105,109],.slc false 1 [SB [97,110,110]],.slc false 1 [.int .i64 1],SB [53]]
 |7=>[.int .i64 7,SB [109,97,114,107],.slc false 2 [SB [97,110,110],SB [98,101,110]],.slc false 1 [.int .i64 2],SB [51]]
 |8=>[.int .i64 8,SB [109,97,114,107],.slc false 2 [SB [98,101,110],SB [97,110,110]],.slc false 1 [.int .i64 1],SB [52]]
 |_=>[]
def cw(k:Nat):D:= .agg (Le k)
def IG:Nat→List D
 |0=>[]
 |k+1=>IG k++Le (k+1)
def mkC:List D:=[SB [97,110,110],SB [98,101,110],.int .i64 1,.int .i64 5,SB [],SB [97,110,110],SB [97,110,110],.int .i64 1,.int .i64 5,SB [],SB [97,110,110],SB [98,101,110],.int .i64 2,.int .i64 3,SB [],SB [98,101,110],SB [97,110,110],.int .i64 1,.int .i64 4,SB []]
def mbC:List D:=[SB [97,110,110],SB [108,105,110,107,115],.int .i64 0,SB [98,101,110],SB [108,105,110,107,115],.int .i64 2]
def uC(k:Nat):List D:=[match k with|0=> .nils|_=> .slc false 1 [SB [108,105,110,107,115]],match k with|0=> .nils|1=> .nils|2=> .slc false 1 (mbC.take 3)|_=> .slc false 2 mbC,match k with|0=> .nils|1=> .nils|2=> .nils|3=> .nils|_=> .slc false 2 [.int .i64 4,.int .i64 2,.int .i64 3,.int .i64 1],
 match Nat.sub k 4 with|0=> .nils|m=> .slc false m (mkC.take (5*m)),.nils,.nils]
def Lf:Nat→List D
 |0=>[]
 |k+1=>Lf k++(uC k).map canon0
def hC(k:Nat):List D:=uC k++[match k with|0=> .nils|k=> .slc false k (IG k),match k with|0=> .nils|k=> .slc false k (Lf k)]
def hD(k:Nat):D:= .agg (hC k)
def uD:D:= .agg ((uC 8).map canon0)
def IH:D:= .slc true 8 [SB (eY 1),SB (eY 2),SB (eY 3),SB (eY 4),SB (eY 5),SB (eY 6),SB (eY 7),SB (eY 8)]
def AY:D:= .slc false 8 (IG 8)
def br:Nat→Int
 |1=>3025347
 |2=>7649311
 |3=>11553383
 |4=>1217935
 |5=>3380265
 |6=>9444044
 |7=>12176769
 |8=>6273512
 |_=>0
def jM:Nat→List UInt8
 |1=>[49,32,99,108,117,98,32,108,105,110,107,115]
 |2=>[50,32,109,101,109,98,101,114,32,97,110,110,32,108,105,110,107,115,32,48]
 |3=>[51,32,109,101,109,98,101,114,32,98,101,110,32,108,105,110,107,115,32,50]
 |4=>[52,32,104,111,108,101,115,32,52,58,50,32,51,58,49]
 |5=>[53,32,109,97,114,107,32,97,110,110,32,98,101,110,32,49,32,53]
 |6=>[54,32,99,108,97,105,109,32,97,110,110,32,49,32,53]
 |7=>[55,32,109,97,114,107,32,97,110,110,32,98,101,110,32,50,32,51]
 |8=>[56,32,109,97,114,107,32,98,101,110,32,97,110,110,32,49,32,52]
 |_=>[]
def jN:Nat→List UInt8
 |1=>[50,101,50,57,99,51]
 |2=>[55,52,98,56,49,102]
 |3=>[98,48,52,97,54,55]
 |4=>[49,50,57,53,56,102]
 |5=>[51,51,57,52,50,57]
 |6=>[57,48,49,97,99,99]
 |7=>[98,57,99,100,56,49]
 |8=>[53,102,98,57,101,56]
 |_=>[]
def kj(k:Nat):List UInt8:=jM k++[35]++jN k
def Db:Nat→List UInt8
 |0=>[]
 |k+1=>Db k++kj (k+1)++[10]
def AZ:List UInt8:=Db 8++[57]
def nI(n:Int):D:= .int .i64 n
def kk(d:D):D:= .tup [d,nI 0]
def fD:D:= .agg [.slc true 2 [SB [100],nI 1,SB [97,110,110],nI 1,nI 4,SB [],SB [100],nI 3,SB [97,110,110],nI 2,nI 3,SB []]]
end Go.Pd
end
