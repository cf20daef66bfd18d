import Derived.Test.YtjhoaknnmfifgaaGreatDoorUnB
import Derived.Test.YtjhoaknnmfifgaaGreatDoorUnA
section
namespace Go.Pd
open Go Go.Proofs Go.RowKit
set_option maxRecDepth 100000
def rh(f:D→D→Bool):List D→List D→Bool
 |[],[]=>true
 |x::xs,y::ys=>(match f x y with
  |true=>rh f xs ys
  |false=>false)
 |_,_=>false
def sL:Nat→D→D→Bool
 |0,_,_=>false
 |n+1,a,b=>match a,b with
  | .int k x,.int k' y=>decide (k=k')&&decide (x=y)
  | .str x,.str y=>x.data.toList==y.data.toList
  | .bool x,.bool y=>x==y
  | .nils,.nils=>true
  | .slc f n1 cs,.slc f' n1' cs'=>(f==f')&&(decide (n1=n1')&&rh (sL n) cs cs')
  | .agg cs,.agg cs'=>rh (sL n) cs cs'
  | .snap cs o,.snap cs' o'=>decide (o=o')&&rh (sL n) cs cs'
  | .fn (.func g) x y,.fn (.func g') x' y'=>decide (g=g')&&(rh (sL n) x x'&&rh (sL n) y y')
  |_,_=>false
theorem kZ{f:D→D→Bool}(hf:∀a b,f a b=true→a=b):∀xs ys,rh f xs ys=true→xs=ys
 |[],[],_=>rfl
 |x::xs,y::ys,h=>by
  simp only[rh] at h;split at h
  ·rename_i hx;rw[hf _ _ hx,kZ hf xs ys h]
  ·cases h
 |[],_::_,h=>by cases h
 |_::_,[],h=>by cases h
theorem nf:∀(n:Nat) (a b:D),sL n a b=true→a=b
 |0,_,_,h=>by cases h
 |n+1,a,b,h=>by
  have ih:=kZ (nf n);unfold sL at h;split at h
  ·simp only[zc2,zc5] at h;rw[h.1,h.2]
  ·rename_i x y;have h2:x.data=y.data:=by
    have:=eq_of_beq h;rw[←Array.toArray_toList (xs:=x.data),this]
   rw[ByteArray.ext h2]
  ·rw[eq_of_beq h]
  ·rfl
  ·simp only[zc2,zc5,ze1] at h;rw[h.1,h.2.1,ih _ _ h.2.2]
  ·rw[ih _ _ h]
  ·simp only[zc2,zc5] at h;rw[h.1,ih _ _ h.2]
  ·simp only[zc2,zc5] at h;rw[h.1,ih _ _ h.2.1,ih _ _ h.2.2]
  ·cases h
abbrev mo:=FuncId×List D×D
def xp:List mo→FuncId→List D→Option D
 |[],_,_=>none
 |e::l,k,ds=>match decide (e.1=k) with
  |true=>(match rh (sL 8) e.2.1 ds with
   |true=>some e.2.2
   |false=>xp l k ds)
  |false=>xp l k ds
theorem Aw:∀{l:List mo},(∀e∈l,ct e.1 e.2.1 e.2.2)→ep (xp l)
 |[],_=>fun _ _ _ h=>by cases h
 |e::l,hl=>fun k ds r h=>by
  have ih:=Aw fun e he=>hl e (za5 _ he);simp only[xp] at h;split at h
  ·rename_i hk;simp only[zc5] at hk;split at h
   ·rename_i hd;cases h;rw[←hk,←kZ (nf 8) _ _ hd];exact hl e (za4 ..)
   ·exact ih k ds r h
  ·exact ih k ds r h
theorem Ax{a b:Nat}(h:Nat.blt a b=true):a<b:=Nat.le_of_ble_eq_true h
theorem IG{a b:Nat}(h:a<b):Nat.blt a b=true:=Nat.ble_eq_true_of_le h
theorem rk(s:ByteArray):SB s.data.toList= .str s:=congrArg D.str (Aq s)
def BP:Nat→Nat→List UInt8→List UInt8
 |0,_,a=>a
 |k+1,n,a=>match Nat.blt n 10 with
  |true=>UInt8.ofNat (48+n)::a
  |false=>BP k (n/10) (UInt8.ofNat (48+n%10)::a)
theorem vq:∀(k n:Nat) (a:List UInt8),n<10^k→0<k→BP k n a=Lib.decDigits n++a
 |0,_,_,_,h=>absurd h (zc6 _)
 |k+1,n,a,h,_=>by
  unfold BP;rw[Lib.decDigits];cases hb:Nat.blt n 10 with
  |true=>
   have:n<10:=Ax hb;rw[dif_pos this];rfl
  |false=>
   have hn:¬n<10:=fun h=>by
    have:Nat.blt n 10=true:=IG h;rw[this] at hb;cases hb
   rw[dif_neg hn];have hk:0<k:=by
    rcases Nat.eq_zero_or_pos k with h0|h0
    ·subst h0;simp at h;omega
    ·exact h0
   show BP k (n/10) (UInt8.ofNat (48+n%10)::a)=_;rw[vq k (n/10) _ (by rw[Nat.div_lt_iff_lt_mul (by omega),←Nat.pow_succ];exact h) hk];simp
def IH:List D→Option D
 |[.int .i64 n]=>(match decide (-9223372036854775808≤n∧n<9223372036854775808),n with
  |true,.ofNat n=>some (SB (BP 20 n []))
  |true,.negSucc n=>some (SB (45::BP 20 (n+1) []))
  |false,_=>none)
 |_=>none
theorem FI:∀ds r,IH ds=some r→ct 138 ds r:=by
 intro ds r h;unfold IH at h;split at h
 ·rename_i n0;split at h
  ·rename_i n hb;cases h;have hb:=of_decide_eq_true hb;have hb': -9223372036854775808≤(n:Int)∧(n:Int)<9223372036854775808:=hb;rw[vq 20 n [] (by omega) (by omega),zb4];have:=Hy (.ofNat n) hb;unfold Lib.itoa at this;rw[if_neg (by simp)] at this;exact this
  ·rename_i n hb;cases h;have hb:=of_decide_eq_true hb;rw[vq 20 (n+1) [] (by omega) (by omega),zb4];have:=Hy (.negSucc n) hb;unfold Lib.itoa at this;rw[if_pos (Int.negSucc_lt_zero n)] at this;exact this
  ·cases h
 ·cases h
def FJ(c:UInt8):List UInt8→Int
 |[]=> -1
 |b::l=>match b==c with
  |true=>0
  |false=>(match FJ c l with
   | .ofNat n=> .ofNat (n+1)
   | .negSucc _=> -1)
theorem Ay(c:UInt8):∀l,FJ c l=Lib.indexByte l c
 |[]=>rfl
 |b::l=>by
  unfold FJ Lib.indexByte;have hge:=Lib.indexByte_ge l c;rw[Ay c l];cases hb:b==c with
  |true=>rfl
  |false=>
   simp only[Bool.false_eq_true,if_false];cases hi:Lib.indexByte l c with
   |ofNat n=>
    have:(Int.ofNat n== -1)=false:=by simp
    simp only[this,Bool.false_eq_true,if_false];rfl
   |negSucc n=>
    rw[hi] at hge;have:n=0:=by omega
    subst this;rfl
def Pb:List D→Option D
 |[.str s,.int .u8 (.ofNat n)]=>(match Nat.blt n 256 with
  |true=>some (.int .i64 (FJ (UInt8.ofNat n) s.data.toList))
  |false=>none)
 |_=>none
theorem II:∀ds r,Pb ds=some r→ct 306 ds r:=by
 intro ds r h;unfold Pb at h;split at h
 ·rename_i s n;split at h
  ·rename_i hb;cases h;have hn:n<256:=Ax hb;have:=Mx s.data.toList (UInt8.ofNat n);rw[rk,←Ay] at this;have he:((UInt8.ofNat n).toNat:Int)= .ofNat n:=by
    rw[UInt8.toNat_ofNat',Nat.mod_eq_of_lt hn];rfl
   rw[he] at this;exact this
  ·cases h
 ·cases h
def IJ:List D→Option D
 |[.str s,.str c]=>(match c.data.toList with
  |[b]=>some (.int .i64 (Lib.countByte s.data.toList b:Nat))
  |_=>none)
 |_=>none
theorem Dl{c:ByteArray}{b:UInt8}(h:c.data.toList=[b]):c=bs [b]:=by rw[←h,Aq]
theorem FK:∀ds r,IJ ds=some r→ct 254 ds r:=by
 intro ds r h;unfold IJ at h;split at h
 ·rename_i s c;split at h
  ·rename_i b hb;cases h;have:=My s.data.toList b;rw[rk] at this;rw[Dl hb];exact this
  ·cases h
 ·cases h
def IK:List D→Option D
 |[.str s]=>(match Nat.ble s.data.toList.length 18,Lib.atoi s.data.toList with
  |true,some n=>some (.tup [.int .i64 n,.nilif])
  |_,_=>none)
 |_=>none
theorem FL:∀ds r,IK ds=some r→ct 262 ds r:=by
 intro ds r h;unfold IK at h;split at h
 ·rename_i s;split at h
  ·rename_i n hb hn;cases h;have:=Mz s.data.toList n (Nat.le_of_ble_eq_true hb) hn;rw[rk] at this;exact this
  ·cases h
 ·cases h
def Dm:List D→Option D
 |[.str s,.str c]=>(match Nat.ble s.data.toList.length 1000000&&(Nat.ble c.data.toList.length 1000&&c.data.toList.all fun b=>decide (b.toNat<128)) with
  |true=>some (SB (Lib.trimS s.data.toList c.data.toList))
  |false=>none)
 |_=>none
theorem Dn:∀ds r,Dm ds=some r→ct 261 ds r:=by
 intro ds r h;unfold Dm at h;split at h
 ·rename_i s c;split at h
  ·rename_i hb;cases h;simp only[zc2] at hb;have:=MA s.data.toList c.data.toList (Nat.le_of_ble_eq_true hb.1) (Nat.le_of_ble_eq_true hb.2.1) hb.2.2;rw[rk,rk] at this;exact this
  ·cases h
 ·cases h
def Az:List D→Option (List (List UInt8))
 |[]=>some []
 | .str s::l=>(match Az l with
  |some r=>some (s.data.toList::r)
  |none=>none)
 |_=>none
theorem xq:∀(l:List D) {r:List (List UInt8)},Az l=some r→l=r.map SB
 |[],r,h=>by cases h;rfl
 |d::l,r,h=>by
  unfold Az at h;split at h
  ·rename_i heq;cases heq
  ·rename_i s l' heq;cases heq;split at h
   ·rename_i r' hr;cases h;rw[List.map_cons,←xq l hr,rk]
   ·cases h
  ·cases h
def Do(c:List UInt8):List (List UInt8)→List UInt8
 |[]=>[]
 |x::l=>match l with
  |[]=>x
  |y::l'=>x++c++Do c (y::l')
theorem AA(c:List UInt8):∀l,Do c l=Lib.join l c
 |[]=>rfl
 |[x]=>by rw[Lib.join_one];rfl
 |x::y::l=>by
  have ih:=AA c (y::l);show x++c++Do c (y::l)=_;rw[ih];unfold Lib.join;simp[List.intercalate]
def IL:List D→Option D
 |[.slc _ n cs,.str c]=>(match Az cs with
  |some ws=>(match Nat.ble n 1000000&&(Nat.beq ws.length n&&Nat.ble (Do c.data.toList ws).length 1000000) with
   |true=>some (SB (Do c.data.toList ws))
   |false=>none)
  |none=>none)
 |_=>none
theorem FM:∀ds r,IL ds=some r→ct 206 ds r:=by
 intro ds r h;unfold IL at h;split at h
 ·rename_i f n cs c;split at h
  ·rename_i ws hws;split at h
   ·rename_i hb;cases h;simp only[zc2] at hb;obtain⟨h1,h2,h3⟩:=hb;have h1:=Nat.le_of_ble_eq_true h1;have h2:=Nat.eq_of_beq_eq_true h2;have h3:=Nat.le_of_ble_eq_true h3;rw[AA] at h3 ⊢;have:=MB (f:=f) ws c.data.toList (by omega) (by omega);rw[h2,←xq cs hws,rk] at this;exact this
   ·cases h
  ·cases h
 ·cases h
def FN(m:Nat):List D→Option D
 |[.nils]=>some (.slc true 0 [])
 |[.slc _ n cs]=>(match(Nat.ble n 1000000&&Nat.beq cs.length (n*m))&&(cs.all D.plain&&cs.all D.one) with
  |true=>some (Oz n cs)
  |false=>none)
 |_=>none
theorem AB{k:FuncId}{m:Nat}(h0:∀{f:Bool} {n:Nat} {cs:List D},n≤1000000→cs.length=n*m→cs.all D.plain=true→cs.all D.one=true→ct k [.slc f n cs] (Oz n cs)):∀ds r,FN m ds=some r→ct k ds r:=by
 intro ds r h;unfold FN at h;split at h
 ·cases h;exact CallOK.cnL (b:=true) (h0 (f:=true) (n:=0) (cs:=[]) (Nat.zero_le _) (by simp) rfl rfl)
 ·split at h
  ·rename_i hb;cases h;simp only[zc2] at hb;exact h0 (Nat.le_of_ble_eq_true hb.1.1) (Nat.eq_of_beq_eq_true hb.1.2) hb.2.1 hb.2.2
  ·cases h
 ·cases h
def XL:OJ:=fun k=>match k with
 |138=>some (fun _=>IH)
 |206=>some (fun _=>IL)
 |208=>some (fun _=>FN 1)
 |209=>some (fun _=>FN 1)
 |254=>some (fun _=>IJ)
 |261=>some (fun _=>Dm)
 |262=>some (fun _=>IK)
 |306=>some (fun _=>Pb)
 |_=>none
theorem Hz:∀f g,XL f=some g→∀call ds r,g call ds=some r→ct f ds r:=by
 intro f g h call ds r hr;unfold XL at h;split at h<;>(first|(cases h;done)|cases h)
 ·exact FI ds r hr
 ·exact FM ds r hr
 ·exact AB Mv ds r hr
 ·exact AB Mw ds r hr
 ·exact FK ds r hr
 ·exact Dn ds r hr
 ·exact FL ds r hr
 ·exact II ds r hr
def Dp:List D→Option (List UInt8)
 |[]=>some []
 | .int .u8 (.ofNat n)::l=>(match Nat.blt n 256,Dp l with
  |true,some r=>some (UInt8.ofNat n::r)
  |_,_=>none)
 |_=>none
theorem vr:∀(l:List D) {r:List UInt8},Dp l=some r→l=x8 r
 |[],r,h=>by cases h;rfl
 |d::l,r,h=>by
  unfold Dp at h;split at h
  ·rename_i heq;cases heq
  ·rename_i n l' heq;cases heq;split at h
   ·rename_i r' hb hr;cases h;have hn:n<256:=Ax hb;unfold x8;rw[List.map_cons];have:=vr l hr;unfold x8 at this;rw[←this,UInt8.toNat_ofNat',Nat.mod_eq_of_lt hn];rfl
   ·cases h
  ·cases h
def IM:List D→Option D
 |[.agg cells,.str s]=>(match Nat.ble s.data.toList.length 1000000&&Nat.blt 0 s.data.toList.length with
  |true=>(match cells with
   |[]=>some (.tup [.agg [.tup [],.slc false s.size (x8 s.data.toList)],.tup [.int .i64 (s.size:Nat),.nilif]])
   |[.tup [],.slc false n cs]=>(match Dp cs with
    |some l=>(match Nat.ble n 1000000&&Nat.beq l.length n with
     |true=>some (.tup [.agg [.tup [],.slc false (n+s.size) (x8 (l++s.data.toList))],.tup [.int .i64 (s.size:Nat),.nilif]])
     |false=>none)
    |none=>none)
   |_=>none)
  |false=>none)
 |_=>none
def IN:List D→Option D
 |[.agg [.tup [],.slc false n cs]]=>(match Dp cs with
  |some (x::l)=>(match Nat.beq (x::l).length n with
   |true=>some (.tup [.agg [.tup [],.junk],.str ⟨(x::l).toArray⟩])
   |false=>none)
  |_=>none)
 |_=>none
theorem MC{ds:List D}{x:D}{l:List D}(hp:0<ds.length)(h:ds.set 0 x=l):∃y r,ds=y::r∧l=x::r:=by
 cases ds with
 |nil=>cases hp
 |cons y r=>exact⟨y,r,rfl,h.symm⟩
theorem FO(ds cells cells':List D)(r:D)(hp:0<ds.length)(h:IM (ds.set 0 (.agg cells))=some (.tup [.agg cells',r])):Fr Tryz.prog iy 141 0 243 Dg Dg ds cells cells' r:=by
 obtain⟨y,rs,rfl,_⟩:=MC (x:= .agg cells) hp rfl;rw[List.set_cons_zero] at h;unfold IM at h;split at h
 ·rename_i cl s heq;cases heq;split at h
  ·rename_i hb;simp only[zc2] at hb;have h1:=Nat.le_of_ble_eq_true hb.1;have h2:0<s.data.toList.length:=Ax hb.2;have hs:=Dj s;split at h
   ·cases h;exact ID y s (by omega) (by omega)
   ·rename_i n cs _;split at h
    ·rename_i l hl;split at h
     ·rename_i hn;cases h;simp only[zc2] at hn;have h3:=Nat.le_of_ble_eq_true hn.1;have h4:=Nat.eq_of_beq_eq_true hn.2;rw[vr cs hl,←h4];exact IC y s l (by omega) (by omega)
     ·cases h
    ·cases h
   ·cases h
  ·cases h
 ·cases h
theorem FP(ds cells cells':List D)(r:D)(hp:0<ds.length)(h:IN (ds.set 0 (.agg cells))=some (.tup [.agg cells',r])):Fr Tryz.prog iy 142 0 243 Dg OL ds cells cells' r:=by
 obtain⟨y,rs,rfl,_⟩:=MC (x:= .agg cells) hp rfl;rw[List.set_cons_zero] at h;unfold IN at h;split at h
 ·rename_i n cs heq;cases heq;split at h
  ·rename_i x l hl;split at h
   ·rename_i hn;cases h;rw[vr cs hl,←Nat.eq_of_beq_eq_true hn];exact IE y (x::l) (by simp)
   ·cases h
  ·cases h
 ·cases h
def xr(P:Program)(od:Nat→Option iG):List Nat→Bool
 |[]=>true
 |f::l=>match od f,P.funcs[f]? with
  |some o,some fn=>(match jN P o fn with
   |true=>xr P od l
   |false=>false)
  |_,_=>xr P od l
theorem oz{P:Program}{od:Nat→Option iG}:∀(l:List Nat),xr P od l=true→∀f∈l,∀o fn,od f=some o→P.funcs[f]?=some fn→jN P o fn=true
 |[],_,f,hf,_,_,_,_=>by cases hf
 |g::l,h,f,hf,o,fn,ho,hfn=>by
  unfold xr at h;rcases List.mem_cons.1 hf with rfl|hf
  ·rw[ho,hfn] at h;dsimp only at h;split at h
   ·assumption
   ·cases h
  ·split at h
   ·split at h
    ·exact oz l h f hf o fn ho hfn
    ·cases h
   ·exact oz l h f hf o fn ho hfn
theorem Qv:xr Tryz.prog BM listA=true:=by kernel_rfl
theorem Dq{f:FuncId}{od:iG}(h:BM f=some od):f∈listA:=by
 unfold BM at h;split at h
 ·cases h
 ·rename_i hc;exact List.contains_iff_mem.1 hc
theorem Qh:∀f od fn,BM f=some od→Tryz.prog.funcs[f]?=some fn→jN Tryz.prog od fn=true:=fun f od fn ho hf=>oz listA Qv f (Dq ho) od fn ho hf
noncomputable def Qw:Run:={P:=Tryz.prog,gl:=iy,X:=XL,ord:=BM,N:=nA,K:=fun _=>false,cst:=fun _ _=>none,sq:=fun _ _=>none,M:=fun _=>none,L:=1000000,C:=fun _=>1}
noncomputable def Pc:RunB:={R:=Qw,Q:=fun _=>none,Tp:=fun _=>none,B:=fun _ _=>([],[]),S:=fun _=>[],I:=fun _=>none,tb:=none,ns:=true}
theorem Pe:∀k ds r,gi Pc 40 false k ds=some r→ct k ds r:=fun k ds r h=>
 (zc (X:=Pc) j0 (fun f g hg call _ ds r hr=>Hz f g hg call ds r hr) (fun _ _ _ h=>by cases h) (fun _ _ _ h=>by cases h) (fun _ _ h=>by cases h) (fun _ _ _ h=>by cases h) Qh (fun _ _ h=>by cases h) (fun _ _ _ h=>by cases h) (fun _ _ h=>by cases h) 40).1 k ds r h
noncomputable def HA(M:FuncId→Option Mu):TE:={E:={P:=Tryz.prog,gl:=iy,call:=gi Pc 40 false,L:=1000,wr:=M},cst:=fun _ _=>none,C:=fun _=>1}
theorem Qi{M:FuncId→Option Mu}(hM:∀k g,M k=some g→uB Tryz.prog iy k g)(ho:∀k e n,M k≠some (.own e n)):EnvOK (HA M).E:=
 ⟨Br Pe,hM,fun k e n h=>absurd h (ho k e n),fun _ _ h=>by cases h⟩
noncomputable def Dr(ds:List D):Option D:=match bS (HA fun _=>none) O0 (nA 102) .own Tryz.f102 ds with
 |some (.tup [.int .u64 e,.int .u64 n,.slc false len cs])=>(match decide (e=78)&&decide (n=2) with
  |true=>some (.slc false len cs)
  |false=>none)
 |_=>none
theorem HB:∀vs w,(callFunc 102 vs).run Tryz.prog w= .ok (.enter 102 vs) w:=enters_of Tryz.func102 (by kernel_rfl) rfl
theorem xt(ds:List D)(len:Nat)(cs:List D)(h:Dr ds=some (.slc false len cs)):yu Tryz.prog iy 102 78 2 ds len cs:=by
 unfold Dr at h;split at h
 ·rename_i e n len0 cs0 he;split at h
  ·rename_i hb;cases h;simp only[zc2,zc5] at hb;obtain⟨rfl,rfl⟩:=hb;have hw:=BH (Te:=HA fun _=>none) j0 (Qi (fun _ _ h=>by cases h) fun _ _ _ h=>by cases h) (fun _ _ _ h=>by cases h) rfl (fun _ _ _ h=>by cases h) Tryz.func102 (ord:=O0) (N:=nA 102) (by kernel_rfl) he;intro I w vs h1 h2 h3 h4;refine(hw.2 I w vs h1 h2 h3 h4).mono ?_
   rintro en w' ⟨hbel,⟨h,_⟩|⟨e,n,len,cs,b,cap,c,h,k1,k2,k3,k4,k5,k6,k7,k8⟩⟩
   ·cases h
   ·simp only[D.tup.injEq,zc3,D.int.injEq,D.slc.injEq,true_and,and_true] at h;obtain⟨ha,hb,rfl,rfl⟩:=h;have ha:e=78:=by omega
    have hb:n=2:=by omega
    subst ha hb;exact⟨hbel,b,cap,c,k1,k2,k3,k4,k5,k6,k7,k8⟩
  ·cases h
 ·cases h
theorem FQ(ds:List D)(r:D)(h:Dr ds=some r):ct 102 ds r:=by
 have:∃len cs,r= .slc false len cs:=by
  unfold Dr at h;split at h
  ·split at h
   ·cases h;exact⟨_,_,rfl⟩
   ·cases h
  ·cases h
 obtain⟨len,cs,rfl⟩:=this;exact rf HB (xt ds len cs h)
def kK:List UInt8:=[97,110,110]
def MD:List UInt8:=[98,101,110]
def Pf:List D:=[SB kK,.int .i64 2,.int .i64 1,SB MD,.int .i64 1,.int .i64 (-1)]
def KW:List D:=[SB MD,.int .i64 1,.int .i64 (-1),SB kK,.int .i64 2,.int .i64 1]
def tM:D:= .fn (.func 162) [] []
def KX:List D:=[SB kK,.int .i64 1,.int .i64 0]
abbrev xu:=Nat×List D×List D×List D
def xv:List xu→List D→Option D
 |[],_=>none
 |c::G,ds=>match rh (sL 8) (.slc false c.1 c.2.1::c.2.2.1) ds with
  |true=>some (.slc false c.1 c.2.2.2)
  |false=>xv G ds
theorem xw:∀{G:List xu} {ds:List D} {r:D},xv G ds=some r→∃c∈G,ds= .slc false c.1 c.2.1::c.2.2.1∧r= .slc false c.1 c.2.2.2
 |[],_,_,h=>by cases h
 |c::G,ds,r,h=>by
  unfold xv at h;split at h
  ·rename_i hb;cases h;exact⟨c,za4 ..,(kZ (nf 8) _ _ hb).symm,rfl⟩
  ·obtain⟨c',h1,h2⟩:=xw h;exact⟨c',za5 _ h1,h2⟩
theorem Ds{k:FuncId}{fn:Func}{M:FuncId→Option Mu}{N:bP}{G:List xu}(hM:∀k g,M k=some g→uB Tryz.prog iy k g)(ho:∀k e n,M k≠some (.own e n))(hf:Tryz.prog.funcs[k]?=some fn)(hok:jN Tryz.prog O0 fn=true)(h0:vd fn=true)
  (hen:∀vs w,(callFunc k vs).run Tryz.prog w= .ok (.enter k vs) w) (hl:∀c∈G,0<c.1∧c.2.1.length=c.1*3) (he:∀c∈G,∀e,jc (HA M) O0 N e 3 fn c.1 c.2.1 c.2.2.1=bL (decide (e=e)) (some (.slc false c.1 c.2.2.2))):uB Tryz.prog iy k (.tab false (xv G)):=by
 refine qU hen fun cs len rs cs' m hg=> ?_;have hg:ya false (xv G) cs len rs=some (cs',m):=hg;unfold ya at hg;split at hg
 ·rename_i f m' cs2 hmu;obtain⟨c,hc,h1,h2⟩:=xw hmu;simp only[zc3,D.slc.injEq,true_and] at h1;obtain⟨⟨rfl,rfl⟩,rfl⟩:=h1;cases h2;cases hg;refine tI (Te:=HA M) j0 (Qi hM ho) (fun _ _ _ h=>by cases h) rfl (fun _ _ _ h=>by cases h) hf (ord:=O0) (N:=N) hok h0 fun e n hn=> ?_;obtain⟨q1,q2⟩:=hl c hc;have:n=3:=Nat.eq_of_mul_eq_mul_left q1 (by omega);subst this;exact(he c hc e).trans (by simp[bL])
 ·cases hg
theorem FR{p:xu→Prop}{a b:xu}(ha:p a)(hb:p b):∀c∈[a,b],p c:=fun c hc=>by
 rcases List.mem_cons.1 hc with rfl|hc
 ·exact ha
 ·rw[zc9.1 hc];exact hb
def ME:List xu:=[(2,Pf,[.int .i64 0,.int .i64 2,tM],KW),(1,KX,[.int .i64 0,.int .i64 1,tM],KX)]
def FS:FuncId→Option Mu:=fun k=>match k with
 |281=>some (.tab false (xv ME))
 |_=>none
theorem Pg:∀c∈ME,∀e,jc (HA fun _=>none) O0 (nA 281) e 3 Tryz.f281 c.1 c.2.1 c.2.2.1=bL (decide (e=e)) (some (.slc false c.1 c.2.2.2)):=FR (fun e=>by kernel_rfl) fun e=>by kernel_rfl
theorem Ph:∀k g,FS k=some g→uB Tryz.prog iy k g:=by
 intro k g h;unfold FS at h;split at h
 ·cases h;exact Ds (fun _ _ h=>by cases h) (fun _ _ _ h=>by cases h) Tryz.func281 (by kernel_rfl) (by kernel_rfl) (enters_of Tryz.func281 (by kernel_rfl) rfl) (FR ⟨by decide,rfl⟩ ⟨by decide,rfl⟩) Pg
 ·cases h
def MF:List xu:=[(2,Pf,[.int .i64 2,tM],KW),(1,KX,[.int .i64 1,tM],KX)]
def FT:FuncId→Option Mu:=fun k=>match k with
 |226=>some (.tab false (xv MF))
 |_=>none
theorem Pi:∀c∈MF,∀e,jc (HA FS) O0 (nA 226) e 3 Tryz.f226 c.1 c.2.1 c.2.2.1=bL (decide (e=e)) (some (.slc false c.1 c.2.2.2)):=FR (fun e=>by kernel_rfl) fun e=>by kernel_rfl
theorem Pj:∀k g,FT k=some g→uB Tryz.prog iy k g:=by
 intro k g h;unfold FT at h;split at h
 ·cases h;exact Ds Ph (fun k e n h=>by unfold FS at h;split at h<;>cases h) Tryz.func226 (by kernel_rfl) (by kernel_rfl) (enters_of Tryz.func226 (by kernel_rfl) rfl) (FR ⟨by decide,rfl⟩ ⟨by decide,rfl⟩) Pi
 ·cases h
def MG:List xu:=[(2,Pf,[tM],KW),(1,KX,[tM],KX)]
theorem Pk:∀c∈MG,∀e,jc (HA FT) O0 (nA 161) e 3 Tryz.f161 c.1 c.2.1 c.2.2.1=bL (decide (e=e)) (some (.slc false c.1 c.2.2.2)):=FR (fun e=>by kernel_rfl) fun e=>by kernel_rfl
def M0:FuncId→Option Mu:=fun k=>match k with
 |102=>some (.own 78 2)
 |161=>some (.tab false (xv MG))
 |_=>none
theorem m0:∀k g,M0 k=some g→uB Tryz.prog iy k g:=by
 intro k g h;unfold M0 at h;split at h
 ·cases h;exact qU HB fun _ _ _ _ _ h=>by cases h
 ·cases h;exact Ds Pj (fun k e n h=>by unfold FT at h;split at h<;>cases h) Tryz.func161 (by kernel_rfl) (by kernel_rfl) (enters_of Tryz.func161 (by kernel_rfl) rfl) (FR ⟨by decide,rfl⟩ ⟨by decide,rfl⟩) Pk
 ·cases h
def xx:List PK:=[.cl,.cl,.cl,.cl,.cl,.cl]
def EM:List PK:=xx++[.own 91 5,.cl]
def Dt:List Knd:=[.any,.any,.any,.any,.any,.any,.any,.any]
def Pm:List Knd:=[.any,.any,.any,.any,.any,.any]
def Q0:FuncId→Option (Nat×TypeId×List PK×List PK):=fun k=>match k with
 |127=>some (0,209,EM,EM)
 |53=>some (0,223,EM,EM)
 |135=>some (0,223,EM,EM)
 |55=>some (0,223,EM,EM)
 |56=>some (0,223,EM,EM)
 |141=>some (0,243,Dg,Dg)
 |142=>some (0,243,Dg,OL)
 |169=>some (0,28,xx,xx)
 |171=>some (0,28,xx,xx)
 |172=>some (0,28,xx,xx)
 |174=>some (0,28,xx,xx)
 |175=>some (0,28,xx,xx)
 |176=>some (0,28,xx,xx)
 |234=>some (0,28,xx,xx)
 |235=>some (0,28,xx,xx)
 |_=>none
def Bs:FuncId→FuncId→List Knd×List Nat:=fun f k=>match k with
 |127=>(Dt,[match f with|122=>0|53=>2|_=>1])
 |53=>(Dt,[20])
 |56=>(Dt,[20])
 |135=>(Dt,[2])
 |55=>(Dt,[1])
 |141=>([.any,.any],[5])
 |142=>([.any,.any],[])
 |_=>(Pm,[])
def S0:FuncId→List Nat:=fun k=>match k with
 |127=>[1]
 |53=>[2]
 |135=>[3]
 |55=>[1]
 |56=>[1]
 |_=>[]
def PF(k:FuncId)(args:List D)(r:D):Prop:=∀q,Q0 k=some q→∀ds cells cells' x,q.1<ds.length→args=ds.set q.1 (.agg cells)→r= .tup [.agg cells',x]→Fr Tryz.prog iy k q.1 q.2.1 q.2.2.1 q.2.2.2 ds cells cells' x
def Pn(tp:List mo):FuncId→Option (List D→Option D):=fun k=>match k with
 |141=>some IM
 |142=>some IN
 |k=>(match tp.any fun e=>decide (e.1=k) with
  |true=>some (xp tp k)
  |false=>none)
noncomputable def X1(l:List mo):OJ:=fun k=>match decide (k=102) with
 |true=>some fun _=>Dr
 |false=>(match l.any fun e=>decide (e.1=k) with
  |true=>some (fun _=>xp l k)
  |false=>XL k)
def Qj:List D:=[.nils,.nils,.nils,.nils,.nils,.nils,.nils,.nils]
def Po:FuncId→Option Inl:=fun k=>match k with
 |78=>some (Ln 165 Qj)
 |_=>none
abbrev xy:=FuncId×List D×List (List D)
def Du:List xy→FuncId→List D→Option (List (List D))
 |[],_,_=>none
 |e::l,k,ds=>match decide (e.1=k) with
  |true=>(match rh (sL 8) e.2.1 ds with
   |true=>some e.2.2
   |false=>Du l k ds)
  |false=>Du l k ds
noncomputable def BU(l tp:List mo)(sq:List xy):RunB:={R:={P:=Tryz.prog,gl:=iy,X:=X1 l,ord:=BM,N:=nA,K:=fun k=>decide (k=102),cst:=fun _ _=>none,sq:=Du sq,M:=M0,L:=1000000,C:=fun _=>1},Q:=Q0,Tp:=Pn tp,B:=Bs,S:=S0,I:=Po,tb:=some 243,ns:=true}
theorem rl:∀{l:List mo} {k:FuncId} {ds:List D} {r:D},xp l k ds=some r→(k,ds,r)∈l
 |[],_,_,_,h=>by cases h
 |e::l,k,ds,r,h=>by
  simp only[xp] at h;split at h
  ·rename_i hk;simp only[zc5] at hk;split at h
   ·rename_i hd;cases h;have hd:=kZ (nf 8) _ _ hd;subst hk hd;exact za4 ..
   ·exact za5 _ (rl h)
  ·exact za5 _ (rl h)
theorem AC:∀{l:List xy},(∀e∈l,SeqOK Tryz.prog iy e.1 e.2.1 e.2.2)→∀g cs ys,Du l g cs=some ys→SeqOK Tryz.prog iy g cs ys
 |[],_=>fun _ _ _ h=>by cases h
 |e::l,hl=>fun k ds r h=>by
  have ih:=AC fun e he=>hl e (za5 _ he);simp only[Du] at h;split at h
  ·rename_i hk;simp only[zc5] at hk;split at h
   ·rename_i hd;cases h;rw[←hk,←kZ (nf 8) _ _ hd];exact hl e (za4 ..)
   ·exact ih k ds r h
  ·exact ih k ds r h
theorem MH:Lm Tryz.prog 78 Qj:=by
 intro w
 go_enter Tryz.func78,Tryz.ntmps78
 go_wp2
 go_ret
 refine⟨_,_,rfl,rfl,rfl,fun j d v hd hv=> ?_⟩
 match j,hd,hv with
 |0,hd,hv=>cases hd;cases hv;rfl
 |1,hd,hv=>cases hd;cases hv;rfl
 |2,hd,hv=>cases hd;cases hv;rfl
 |3,hd,hv=>cases hd;cases hv;rfl
 |4,hd,hv=>cases hd;cases hv;rfl
 |5,hd,hv=>cases hd;cases hv;rfl
 |6,hd,hv=>cases hd;cases hv;rfl
 |7,hd,hv=>cases hd;cases hv;rfl
 |j+8,hd,_=>cases hd
theorem Pp:∀vs w,(callFunc 78 vs).run Tryz.prog w= .ok (.enter 78 vs) w:=enters_of Tryz.func78 (by kernel_rfl) rfl
theorem MI{l tp:List mo}{sq:List xy}(hl:∀e∈l,ct e.1 e.2.1 e.2.2)(ht:∀e∈tp,PF e.1 e.2.1 e.2.2)(hs:∀e∈sq,SeqOK Tryz.prog iy e.1 e.2.1 e.2.2)(n:Nat):
  (∀(f:FuncId) (ds:List D) (r:D),gi (BU l tp sq) n false f ds=some r→ct f ds r)∧
  (∀(f:FuncId) (q:Nat×TypeId×List PK×List PK),Q0 f=some q→∀(ds cells cells':List D) (r:D),q.1<ds.length→gi (BU l tp sq) n true f (ds.set q.1 (.agg cells))=some (.tup [.agg cells',r])→Fr Tryz.prog iy f q.1 q.2.1 q.2.2.1 q.2.2.2 ds cells cells' r):=by
 refine zc (X:=BU l tp sq) j0 (fun f g hg call _ ds r hr=> ?_) (fun _ _ _ h=>by cases h) (AC hs) m0 (fun k e n h=> ?_) Qh (fun k q hq=> ?_) (fun k g q hg hq ds cells cells' r hp h=> ?_) (fun k i hi=> ?_) n
 ·have hg:X1 l f=some g:=hg;unfold X1 at hg;split at hg
  ·rename_i hk;cases hg;have hk:=of_decide_eq_true hk;subst hk;exact FQ ds r hr
  ·split at hg
   ·cases hg;exact Aw hl f ds r hr
   ·exact Hz f g hg call ds r hr
 ·have h:M0 k=some (.own e n):=h;unfold M0 at h;split at h
  ·cases h;exact⟨rfl,fun _=>rfl,_,rfl,fun call ds len cs hg=>xt ds len cs hg⟩
  ·cases h
  ·cases h
 ·have hq:Q0 k=some q:=hq;unfold Q0 at hq;split at hq
  ·exact enters_of Tryz.func127 (by kernel_rfl) rfl
  ·exact enters_of Tryz.func53 (by kernel_rfl) rfl
  ·exact enters_of Tryz.func135 (by kernel_rfl) rfl
  ·exact enters_of Tryz.func55 (by kernel_rfl) rfl
  ·exact enters_of Tryz.func56 (by kernel_rfl) rfl
  ·exact enters_of Tryz.func141 (by kernel_rfl) rfl
  ·exact enters_of Tryz.func142 (by kernel_rfl) rfl
  ·exact enters_of Tryz.func169 (by kernel_rfl) rfl
  ·exact enters_of Tryz.func171 (by kernel_rfl) rfl
  ·exact enters_of Tryz.func172 (by kernel_rfl) rfl
  ·exact enters_of Tryz.func174 (by kernel_rfl) rfl
  ·exact enters_of Tryz.func175 (by kernel_rfl) rfl
  ·exact enters_of Tryz.func176 (by kernel_rfl) rfl
  ·exact enters_of Tryz.func234 (by kernel_rfl) rfl
  ·exact enters_of Tryz.func235 (by kernel_rfl) rfl
  ·cases hq
 ·have hg:Pn tp k=some g:=hg;have hq:Q0 k=some q:=hq;unfold Pn at hg;split at hg
  ·cases hg;cases hq;exact FO ds cells cells' r hp h
  ·cases hg;cases hq;exact FP ds cells cells' r hp h
  ·split at hg
   ·cases hg;exact ht _ (rl h) q hq ds cells cells' r hp rfl rfl
   ·cases hg
 ·have hi:Po k=some i:=hi;unfold Po at hi;split at hi
  ·cases hi;exact Fv Pp MH
  ·cases hi
theorem BQ{l tp:List mo}{sq:List xy}(hl:∀e∈l,ct e.1 e.2.1 e.2.2)(ht:∀e∈tp,PF e.1 e.2.1 e.2.2)(hs:∀e∈sq,SeqOK Tryz.prog iy e.1 e.2.1 e.2.2){k:FuncId}{ds:List D}{r:D}(h:gi (BU l tp sq) 60 false k ds=some r):ct k ds r:=(MI hl ht hs 60).1 k ds r h
theorem kg{l tp:List mo}{sq:List xy}(hl:∀e∈l,ct e.1 e.2.1 e.2.2)(ht:∀e∈tp,PF e.1 e.2.1 e.2.2)(hs:∀e∈sq,SeqOK Tryz.prog iy e.1 e.2.1 e.2.2){k:FuncId}{args:List D}{r:D}(h:gi (BU l tp sq) 60 true k args=some r):PF k args r:=by
 intro q hq ds cells cells' x hp ha hr;subst ha hr;exact(MI hl ht hs 60).2 k q hq ds cells cells' x hp h
theorem ly:∀e∈([]:List mo),ct e.1 e.2.1 e.2.2:=fun _ h=>by cases h
theorem pX:∀e∈([]:List mo),PF e.1 e.2.1 e.2.2:=fun _ h=>by cases h
theorem rm:∀e∈([]:List xy),SeqOK Tryz.prog iy e.1 e.2.1 e.2.2:=fun _ h=>by cases h
theorem eO{k:FuncId}{ds:List D}{r:D}(h:gi (BU [] [] []) 60 false k ds=some r):ct k ds r:=BQ ly pX rm h
theorem gj{l:List mo}(hl:∀e∈l,ct e.1 e.2.1 e.2.2){k:FuncId}{ds:List D}{r:D}(h:gi (BU l [] []) 60 false k ds=some r):ct k ds r:=BQ hl pX rm h
theorem cb{e:mo}{l:List mo}(h:ct e.1 e.2.1 e.2.2)(hl:∀e∈l,ct e.1 e.2.1 e.2.2):∀x∈e::l,ct x.1 x.2.1 x.2.2:=fun x hx=>by
 rcases List.mem_cons.1 hx with rfl|hx
 ·exact h
 ·exact hl x hx
theorem ek{e:mo}{l:List mo}(h:PF e.1 e.2.1 e.2.2)(hl:∀e∈l,PF e.1 e.2.1 e.2.2):∀x∈e::l,PF x.1 x.2.1 x.2.2:=fun x hx=>by
 rcases List.mem_cons.1 hx with rfl|hx
 ·exact h
 ·exact hl x hx
def ga:Nat→List UInt8
 |1=>[99,108,117,98,32,108,105,110,107,115]
 |2=>[109,101,109,98,101,114,32,97,110,110,32,108,105,110,107,115,32,48]
 |3=>[109,101,109,98,101,114,32,98,101,110,32,108,105,110,107,115,32,50]
 |4=>[104,111,108,101,115,32,52,58,50,32,51,58,49]
 |5=>[109,97,114,107,32,97,110,110,32,98,101,110,32,49,32,53]
 |6=>[99,108,97,105,109,32,97,110,110,32,49,32,53]
 |7=>[109,97,114,107,32,97,110,110,32,98,101,110,32,50,32,51]
 |8=>[109,97,114,107,32,98,101,110,32,97,110,110,32,49,32,52]
 |_=>[]
def Qk:Nat→List D
 |1=>[.int .i64 1,SB [99,108,117,98],.slc false 1 [SB [108,105,110,107,115]],.slc true 0 [],SB []]
 |2=>[.int .i64 2,SB [109,101,109,98,101,114],.slc false 2 [SB [97,110,110],SB [108,105,110,107,115]],.slc true 0 [],SB [48]]
 |3=>[.int .i64 3,SB [109,101,109,98,101,114],.slc false 2 [SB [98,101,110],SB [108,105,110,107,115]],.slc true 0 [],SB [50]]
 |4=>[.int .i64 4,SB [104,111,108,101,115],.slc true 0 [],.slc true 0 [],SB [52,58,50,32,51,58,49]]
 |5=>[.int .i64 5,SB [109,97,114,107],.slc false 2 [SB [97,110,110],SB [98,101,110]],.slc false 1 [.int .i64 1],SB [53]]
 |6=>[.int .i64 6,SB [99,108,97,105,109],.slc false 1 [SB [97,110,110]],.slc false 1 [.int .i64 1],SB [53]]
 |7=>[.int .i64 7,SB [109,97,114,107],.slc false 2 [SB [97,110,110],SB [98,101,110]],.slc false 1 [.int .i64 2],SB [51]]
 |8=>[.int .i64 8,SB [109,97,114,107],.slc false 2 [SB [98,101,110],SB [97,110,110]],.slc false 1 [.int .i64 1],SB [52]]
 |_=>[]
def c6(k:Nat):D:= .agg (Qk k)
def MJ:Nat→List D
 |0=>[]
 |k+1=>MJ k++Qk (k+1)
def mkC:List D:=[SB [97,110,110],SB [98,101,110],.int .i64 1,.int .i64 5,SB [],SB [97,110,110],SB [97,110,110],.int .i64 1,.int .i64 5,SB [],SB [97,110,110],SB [98,101,110],.int .i64 2,.int .i64 3,SB [],SB [98,101,110],SB [97,110,110],.int .i64 1,.int .i64 4,SB []]
def mbC:List D:=[SB [97,110,110],SB [108,105,110,107,115],.int .i64 0,SB [98,101,110],SB [108,105,110,107,115],.int .i64 2]
def uC(k:Nat):List D:=[match k with|0=> .nils|_=> .slc false 1 [SB [108,105,110,107,115]],match k with|0=> .nils|1=> .nils|2=> .slc false 1 (mbC.take 3)|_=> .slc false 2 mbC,match k with|0=> .nils|1=> .nils|2=> .nils|3=> .nils|_=> .slc false 2 [.int .i64 4,.int .i64 2,.int .i64 3,.int .i64 1],
 match Nat.sub k 4 with|0=> .nils|m=> .slc false m (mkC.take (5*m)),.nils,.nils]
def Ql:Nat→List D
 |0=>[]
 |k+1=>Ql k++(uC k).map canon0
def hC(k:Nat):List D:=uC k++[match k with|0=> .nils|k=> .slc false k (MJ k),match k with|0=> .nils|k=> .slc false k (Ql k)]
def hD(k:Nat):D:= .agg (hC k)
def uD:D:= .agg ((uC 8).map canon0)
def MK:D:= .slc true 8 [SB (ga 1),SB (ga 2),SB (ga 3),SB (ga 4),SB (ga 5),SB (ga 6),SB (ga 7),SB (ga 8)]
def Dv:D:= .slc false 8 (MJ 8)
def bJ:Nat→Int
 |1=>3025347
 |2=>7649311
 |3=>11553383
 |4=>1217935
 |5=>3380265
 |6=>9444044
 |7=>12176769
 |8=>6273512
 |_=>0
def kL:Nat→List UInt8
 |1=>[49,32,99,108,117,98,32,108,105,110,107,115]
 |2=>[50,32,109,101,109,98,101,114,32,97,110,110,32,108,105,110,107,115,32,48]
 |3=>[51,32,109,101,109,98,101,114,32,98,101,110,32,108,105,110,107,115,32,50]
 |4=>[52,32,104,111,108,101,115,32,52,58,50,32,51,58,49]
 |5=>[53,32,109,97,114,107,32,97,110,110,32,98,101,110,32,49,32,53]
 |6=>[54,32,99,108,97,105,109,32,97,110,110,32,49,32,53]
 |7=>[55,32,109,97,114,107,32,97,110,110,32,98,101,110,32,50,32,51]
 |8=>[56,32,109,97,114,107,32,98,101,110,32,97,110,110,32,49,32,52]
 |_=>[]
def kM:Nat→List UInt8
 |1=>[50,101,50,57,99,51]
 |2=>[55,52,98,56,49,102]
 |3=>[98,48,52,97,54,55]
 |4=>[49,50,57,53,56,102]
 |5=>[51,51,57,52,50,57]
 |6=>[57,48,49,97,99,99]
 |7=>[98,57,99,100,56,49]
 |8=>[53,102,98,57,101,56]
 |_=>[]
def lz(k:Nat):List UInt8:=kL k++[35]++kM k
def FU:Nat→List UInt8
 |0=>[]
 |k+1=>FU k++lz (k+1)++[10]
def Dw:List UInt8:=FU 8++[57]
def nI(n:Int):D:= .int .i64 n
def lA(d:D):D:= .tup [d,nI 0]
def fD:D:= .agg [.slc true 2 [SB [100],nI 1,SB [97,110,110],nI 1,nI 4,SB [],SB [100],nI 3,SB [97,110,110],nI 2,nI 3,SB []]]
end Go.Pd
end
