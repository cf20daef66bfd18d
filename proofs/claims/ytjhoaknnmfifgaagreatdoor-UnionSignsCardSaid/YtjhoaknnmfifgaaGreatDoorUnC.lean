import Derived.Test.YtjhoaknnmfifgaaGreatDoorUnB
import Derived.Test.YtjhoaknnmfifgaaGreatDoorUnA
section
namespace Go.Pd
open Go Go.Proofs Go.RowKit
set_option maxRecDepth 100000
def qt(f:D→D→Bool):List D→List D→Bool
 |[],[]=>true
 |x::xs,y::ys=>(match f x y with
  |true=>qt f xs ys
  |false=>false)
 |_,_=>false
def rD:Nat→D→D→Bool
 |0,_,_=>false
 |n+1,a,b=>match a,b with
  | .int k x,.int k' y=>decide (k=k')&&decide (x=y)
  | .str x,.str y=>x.data.toList==y.data.toList
  | .bool x,.bool y=>x==y
  | .nils,.nils=>true
  | .slc f n1 cs,.slc f' n1' cs'=>(f==f')&&(decide (n1=n1')&&qt (rD n) cs cs')
  | .agg cs,.agg cs'=>qt (rD n) cs cs'
  | .snap cs o,.snap cs' o'=>decide (o=o')&&qt (rD n) cs cs'
  | .fn (.func g) x y,.fn (.func g') x' y'=>decide (g=g')&&(qt (rD n) x x'&&qt (rD n) y y')
  |_,_=>false
theorem kz{f:D→D→Bool}(hf:∀a b,f a b=true→a=b):∀xs ys,qt f xs ys=true→xs=ys
 |[],[],_=>rfl
 |x::xs,y::ys,h=>by
  simp only[qt] at h;split at h
  ·rename_i hx;rw[hf _ _ hx,kz hf xs ys h]
  ·cases h
 |[],_::_,h=>by cases h
 |_::_,[],h=>by cases h
theorem mL:∀(n:Nat) (a b:D),rD n a b=true→a=b
 |0,_,_,h=>by cases h
 |n+1,a,b,h=>by
  have ih:=kz (mL n);unfold rD at h;split at h
  ·simp only[zc0,zc3] at h;rw[h.1,h.2]
  ·rename_i x y;have h2:x.data=y.data:=by
    have:=eq_of_beq h;rw[←Array.toArray_toList (xs:=x.data),this]
   rw[ByteArray.ext h2]
  ·rw[eq_of_beq h]
  ·rfl
  ·simp only[zc0,zc3,zd5] at h;rw[h.1,h.2.1,ih _ _ h.2.2]
  ·rw[ih _ _ h]
  ·simp only[zc0,zc3] at h;rw[h.1,ih _ _ h.2]
  ·simp only[zc0,zc3] at h;rw[h.1,ih _ _ h.2.1,ih _ _ h.2.2]
  ·cases h
abbrev lR:=FuncId×List D×D
def v6:List lR→FuncId→List D→Option D
 |[],_,_=>none
 |e::l,k,ds=>match decide (e.1=k) with
  |true=>(match qt (rD 8) e.2.1 ds with
   |true=>some e.2.2
   |false=>v6 l k ds)
  |false=>v6 l k ds
theorem yR:∀{l:List lR},(∀e∈l,co e.1 e.2.1 e.2.2)→fc (v6 l)
 |[],_=>fun _ _ _ h=>by cases h
 |e::l,hl=>fun k ds r h=>by
  have ih:=yR fun e he=>hl e (za4 _ he);simp only[v6] at h;split at h
  ·rename_i hk;simp only[zc3] at hk;split at h
   ·rename_i hd;cases h;rw[←hk,←kz (mL 8) _ _ hd];exact hl e (za3 ..)
   ·exact ih k ds r h
  ·exact ih k ds r h
theorem yS{a b:Nat}(h:Nat.blt a b=true):a<b:=Nat.le_of_ble_eq_true h
theorem Gj{a b:Nat}(h:a<b):Nat.blt a b=true:=Nat.ble_eq_true_of_le h
theorem qu(s:ByteArray):SB s.data.toList= .str s:=congrArg D.str (yM s)
def zZ:Nat→Nat→List UInt8→List UInt8
 |0,_,a=>a
 |k+1,n,a=>match Nat.blt n 10 with
  |true=>UInt8.ofNat (48+n)::a
  |false=>zZ k (n/10) (UInt8.ofNat (48+n%10)::a)
theorem t7:∀(k n:Nat) (a:List UInt8),n<10^k→0<k→zZ k n a=Lib.decDigits n++a
 |0,_,_,_,h=>absurd h (zc4 _)
 |k+1,n,a,h,_=>by
  unfold zZ;rw[Lib.decDigits];cases hb:Nat.blt n 10 with
  |true=>
   have:n<10:=yS hb;rw[dif_pos this];rfl
  |false=>
   have hn:¬n<10:=fun h=>by
    have:Nat.blt n 10=true:=Gj h;rw[this] at hb;cases hb
   rw[dif_neg hn];have hk:0<k:=by
    rcases Nat.eq_zero_or_pos k with h0|h0
    ·subst h0;simp at h;omega
    ·exact h0
   show zZ k (n/10) (UInt8.ofNat (48+n%10)::a)=_;rw[t7 k (n/10) _ (by rw[Nat.div_lt_iff_lt_mul (by omega),←Nat.pow_succ];exact h) hk];simp
def Gk:List D→Option D
 |[.int .i64 n]=>(match decide (-9223372036854775808≤n∧n<9223372036854775808),n with
  |true,.ofNat n=>some (SB (zZ 20 n []))
  |true,.negSucc n=>some (SB (45::zZ 20 (n+1) []))
  |false,_=>none)
 |_=>none
theorem DW:∀ds r,Gk ds=some r→co 138 ds r:=by
 intro ds r h;unfold Gk at h;split at h
 ·rename_i n0;split at h
  ·rename_i n hb;cases h;have hb:=of_decide_eq_true hb;have hb': -9223372036854775808≤(n:Int)∧(n:Int)<9223372036854775808:=hb;rw[t7 20 n [] (by omega) (by omega),zb2];have:=Fj (.ofNat n) hb;unfold Lib.itoa at this;rw[if_neg (by simp)] at this;exact this
  ·rename_i n hb;cases h;have hb:=of_decide_eq_true hb;rw[t7 20 (n+1) [] (by omega) (by omega),zb2];have:=Fj (.negSucc n) hb;unfold Lib.itoa at this;rw[if_pos (Int.negSucc_lt_zero n)] at this;exact this
  ·cases h
 ·cases h
def DX(c:UInt8):List UInt8→Int
 |[]=> -1
 |b::l=>match b==c with
  |true=>0
  |false=>(match DX c l with
   | .ofNat n=> .ofNat (n+1)
   | .negSucc _=> -1)
theorem yT(c:UInt8):∀l,DX c l=Lib.indexByte l c
 |[]=>rfl
 |b::l=>by
  unfold DX Lib.indexByte;have hge:=Lib.indexByte_ge l c;rw[yT c l];cases hb:b==c with
  |true=>rfl
  |false=>
   simp only[Bool.false_eq_true,if_false];cases hi:Lib.indexByte l c with
   |ofNat n=>
    have:(Int.ofNat n== -1)=false:=by simp
    simp only[this,Bool.false_eq_true,if_false];rfl
   |negSucc n=>
    rw[hi] at hge;have:n=0:=by omega
    subst this;rfl
def Mq:List D→Option D
 |[.str s,.int .u8 (.ofNat n)]=>(match Nat.blt n 256 with
  |true=>some (.int .i64 (DX (UInt8.ofNat n) s.data.toList))
  |false=>none)
 |_=>none
theorem Gm:∀ds r,Mq ds=some r→co 306 ds r:=by
 intro ds r h;unfold Mq at h;split at h
 ·rename_i s n;split at h
  ·rename_i hb;cases h;have hn:n<256:=yS hb;have:=Kg s.data.toList (UInt8.ofNat n);rw[qu,←yT] at this;have he:((UInt8.ofNat n).toNat:Int)= .ofNat n:=by
    rw[UInt8.toNat_ofNat',Nat.mod_eq_of_lt hn];rfl
   rw[he] at this;exact this
  ·cases h
 ·cases h
def Gn:List D→Option D
 |[.str s,.str c]=>(match c.data.toList with
  |[b]=>some (.int .i64 (Lib.countByte s.data.toList b:Nat))
  |_=>none)
 |_=>none
theorem BO{c:ByteArray}{b:UInt8}(h:c.data.toList=[b]):c=bs [b]:=by rw[←h,yM]
theorem DY:∀ds r,Gn ds=some r→co 254 ds r:=by
 intro ds r h;unfold Gn at h;split at h
 ·rename_i s c;split at h
  ·rename_i b hb;cases h;have:=Kh s.data.toList b;rw[qu] at this;rw[BO hb];exact this
  ·cases h
 ·cases h
def Gp:List D→Option D
 |[.str s]=>(match Nat.ble s.data.toList.length 18,Lib.atoi s.data.toList with
  |true,some n=>some (.tup [.int .i64 n,.nilif])
  |_,_=>none)
 |_=>none
theorem DZ:∀ds r,Gp ds=some r→co 262 ds r:=by
 intro ds r h;unfold Gp at h;split at h
 ·rename_i s;split at h
  ·rename_i n hb hn;cases h;have:=Ki s.data.toList n (Nat.le_of_ble_eq_true hb) hn;rw[qu] at this;exact this
  ·cases h
 ·cases h
def BP:List D→Option D
 |[.str s,.str c]=>(match Nat.ble s.data.toList.length 1000000&&(Nat.ble c.data.toList.length 1000&&c.data.toList.all fun b=>decide (b.toNat<128)) with
  |true=>some (SB (Lib.trimS s.data.toList c.data.toList))
  |false=>none)
 |_=>none
theorem BQ:∀ds r,BP ds=some r→co 261 ds r:=by
 intro ds r h;unfold BP at h;split at h
 ·rename_i s c;split at h
  ·rename_i hb;cases h;simp only[zc0] at hb;have:=Kj s.data.toList c.data.toList (Nat.le_of_ble_eq_true hb.1) (Nat.le_of_ble_eq_true hb.2.1) hb.2.2;rw[qu,qu] at this;exact this
  ·cases h
 ·cases h
def yU:List D→Option (List (List UInt8))
 |[]=>some []
 | .str s::l=>(match yU l with
  |some r=>some (s.data.toList::r)
  |none=>none)
 |_=>none
theorem v7:∀(l:List D) {r:List (List UInt8)},yU l=some r→l=r.map SB
 |[],r,h=>by cases h;rfl
 |d::l,r,h=>by
  unfold yU at h;split at h
  ·rename_i heq;cases heq
  ·rename_i s l' heq;cases heq;split at h
   ·rename_i r' hr;cases h;rw[List.map_cons,←v7 l hr,qu]
   ·cases h
  ·cases h
def BR(c:List UInt8):List (List UInt8)→List UInt8
 |[]=>[]
 |x::l=>match l with
  |[]=>x
  |y::l'=>x++c++BR c (y::l')
theorem yV(c:List UInt8):∀l,BR c l=Lib.join l c
 |[]=>rfl
 |[x]=>by rw[Lib.join_one];rfl
 |x::y::l=>by
  have ih:=yV c (y::l);show x++c++BR c (y::l)=_;rw[ih];unfold Lib.join;simp[List.intercalate]
def Gq:List D→Option D
 |[.slc _ n cs,.str c]=>(match yU cs with
  |some ws=>(match Nat.ble n 1000000&&(Nat.beq ws.length n&&Nat.ble (BR c.data.toList ws).length 1000000) with
   |true=>some (SB (BR c.data.toList ws))
   |false=>none)
  |none=>none)
 |_=>none
theorem D0:∀ds r,Gq ds=some r→co 206 ds r:=by
 intro ds r h;unfold Gq at h;split at h
 ·rename_i f n cs c;split at h
  ·rename_i ws hws;split at h
   ·rename_i hb;cases h;simp only[zc0] at hb;obtain⟨h1,h2,h3⟩:=hb;have h1:=Nat.le_of_ble_eq_true h1;have h2:=Nat.eq_of_beq_eq_true h2;have h3:=Nat.le_of_ble_eq_true h3;rw[yV] at h3 ⊢;have:=Kk (f:=f) ws c.data.toList (by omega) (by omega);rw[h2,←v7 cs hws,qu] at this;exact this
   ·cases h
  ·cases h
 ·cases h
def D1(m:Nat):List D→Option D
 |[.nils]=>some (.slc true 0 [])
 |[.slc _ n cs]=>(match(Nat.ble n 1000000&&Nat.beq cs.length (n*m))&&(cs.all D.plain&&cs.all D.one) with
  |true=>some (LS n cs)
  |false=>none)
 |_=>none
theorem yW{k:FuncId}{m:Nat}(h0:∀{f:Bool} {n:Nat} {cs:List D},n≤1000000→cs.length=n*m→cs.all D.plain=true→cs.all D.one=true→co k [.slc f n cs] (LS n cs)):∀ds r,D1 m ds=some r→co k ds r:=by
 intro ds r h;unfold D1 at h;split at h
 ·cases h;exact CallOK.cnL (b:=true) (h0 (f:=true) (n:=0) (cs:=[]) (Nat.zero_le _) (by simp) rfl rfl)
 ·split at h
  ·rename_i hb;cases h;simp only[zc0] at hb;exact h0 (Nat.le_of_ble_eq_true hb.1.1) (Nat.eq_of_beq_eq_true hb.1.2) hb.2.1 hb.2.2
  ·cases h
 ·cases h
def XL:L0:=fun k=>match k with
 |138=>some (fun _=>Gk)
 |206=>some (fun _=>Gq)
 |208=>some (fun _=>D1 1)
 |209=>some (fun _=>D1 1)
 |254=>some (fun _=>Gn)
 |261=>some (fun _=>BP)
 |262=>some (fun _=>Gp)
 |306=>some (fun _=>Mq)
 |_=>none
theorem Fk:∀f g,XL f=some g→∀call ds r,g call ds=some r→co f ds r:=by
 intro f g h call ds r hr;unfold XL at h;split at h<;>(first|(cases h;done)|cases h)
 ·exact DW ds r hr
 ·exact D0 ds r hr
 ·exact yW Ke ds r hr
 ·exact yW Kf ds r hr
 ·exact DY ds r hr
 ·exact BQ ds r hr
 ·exact DZ ds r hr
 ·exact Gm ds r hr
def BS:List D→Option (List UInt8)
 |[]=>some []
 | .int .u8 (.ofNat n)::l=>(match Nat.blt n 256,BS l with
  |true,some r=>some (UInt8.ofNat n::r)
  |_,_=>none)
 |_=>none
theorem t8:∀(l:List D) {r:List UInt8},BS l=some r→l=wJ r
 |[],r,h=>by cases h;rfl
 |d::l,r,h=>by
  unfold BS at h;split at h
  ·rename_i heq;cases heq
  ·rename_i n l' heq;cases heq;split at h
   ·rename_i r' hb hr;cases h;have hn:n<256:=yS hb;unfold wJ;rw[List.map_cons];have:=t8 l hr;unfold wJ at this;rw[←this,UInt8.toNat_ofNat',Nat.mod_eq_of_lt hn];rfl
   ·cases h
  ·cases h
def Gr:List D→Option D
 |[.agg cells,.str s]=>(match Nat.ble s.data.toList.length 1000000&&Nat.blt 0 s.data.toList.length with
  |true=>(match cells with
   |[]=>some (.tup [.agg [.tup [],.slc false s.size (wJ s.data.toList)],.tup [.int .i64 (s.size:Nat),.nilif]])
   |[.tup [],.slc false n cs]=>(match BS cs with
    |some l=>(match Nat.ble n 1000000&&Nat.beq l.length n with
     |true=>some (.tup [.agg [.tup [],.slc false (n+s.size) (wJ (l++s.data.toList))],.tup [.int .i64 (s.size:Nat),.nilif]])
     |false=>none)
    |none=>none)
   |_=>none)
  |false=>none)
 |_=>none
def Gs:List D→Option D
 |[.agg [.tup [],.slc false n cs]]=>(match BS cs with
  |some (x::l)=>(match Nat.beq (x::l).length n with
   |true=>some (.tup [.agg [.tup [],.junk],.str ⟨(x::l).toArray⟩])
   |false=>none)
  |_=>none)
 |_=>none
theorem Kl{ds:List D}{x:D}{l:List D}(hp:0<ds.length)(h:ds.set 0 x=l):∃y r,ds=y::r∧l=x::r:=by
 cases ds with
 |nil=>cases hp
 |cons y r=>exact⟨y,r,rfl,h.symm⟩
theorem D2(ds cells cells':List D)(r:D)(hp:0<ds.length)(h:Gr (ds.set 0 (.agg cells))=some (.tup [.agg cells',r])):DJ Tryz.prog jI 141 0 243 BJ BJ ds cells cells' r:=by
 obtain⟨y,rs,rfl,_⟩:=Kl (x:= .agg cells) hp rfl;rw[List.set_cons_zero] at h;unfold Gr at h;split at h
 ·rename_i cl s heq;cases heq;split at h
  ·rename_i hb;simp only[zc0] at hb;have h1:=Nat.le_of_ble_eq_true hb.1;have h2:0<s.data.toList.length:=yS hb.2;have hs:=BM s;split at h
   ·cases h;exact Gf y s (by omega) (by omega)
   ·rename_i n cs _;split at h
    ·rename_i l hl;split at h
     ·rename_i hn;cases h;simp only[zc0] at hn;have h3:=Nat.le_of_ble_eq_true hn.1;have h4:=Nat.eq_of_beq_eq_true hn.2;rw[t8 cs hl,←h4];exact Ge y s l (by omega) (by omega)
     ·cases h
    ·cases h
   ·cases h
  ·cases h
 ·cases h
theorem D3(ds cells cells':List D)(r:D)(hp:0<ds.length)(h:Gs (ds.set 0 (.agg cells))=some (.tup [.agg cells',r])):DJ Tryz.prog jI 142 0 243 BJ L2 ds cells cells' r:=by
 obtain⟨y,rs,rfl,_⟩:=Kl (x:= .agg cells) hp rfl;rw[List.set_cons_zero] at h;unfold Gs at h;split at h
 ·rename_i n cs heq;cases heq;split at h
  ·rename_i x l hl;split at h
   ·rename_i hn;cases h;rw[t8 cs hl,←Nat.eq_of_beq_eq_true hn];exact Gg y (x::l) (by simp)
   ·cases h
  ·cases h
 ·cases h
def v8(P:Program)(od:Nat→Option iB):List Nat→Bool
 |[]=>true
 |f::l=>match od f,P.funcs[f]? with
  |some o,some fn=>(match j3 P o fn with
   |true=>v8 P od l
   |false=>false)
  |_,_=>v8 P od l
theorem nJ{P:Program}{od:Nat→Option iB}:∀(l:List Nat),v8 P od l=true→∀f∈l,∀o fn,od f=some o→P.funcs[f]?=some fn→j3 P o fn=true
 |[],_,f,hf,_,_,_,_=>by cases hf
 |g::l,h,f,hf,o,fn,ho,hfn=>by
  unfold v8 at h;rcases List.mem_cons.1 hf with rfl|hf
  ·rw[ho,hfn] at h;dsimp only at h;split at h
   ·assumption
   ·cases h
  ·split at h
   ·split at h
    ·exact nJ l h f hf o fn ho hfn
    ·cases h
   ·exact nJ l h f hf o fn ho hfn
theorem NH:v8 Tryz.prog zW listA=true:=by kernel_rfl
theorem BT{f:FuncId}{od:iB}(h:zW f=some od):f∈listA:=by
 unfold zW at h;split at h
 ·cases h
 ·rename_i hc;exact List.contains_iff_mem.1 hc
theorem Nt:∀f od fn,zW f=some od→Tryz.prog.funcs[f]?=some fn→j3 Tryz.prog od fn=true:=fun f od fn ho hf=>nJ listA NH f (BT ho) od fn ho hf
noncomputable def NI:Run:={P:=Tryz.prog,gl:=jI,X:=XL,ord:=zW,N:=nA,K:=fun _=>false,cst:=fun _ _=>none,sq:=fun _ _=>none,M:=fun _=>none,L:=1000000,C:=fun _=>1}
noncomputable def Mr:RunB:={R:=NI,Q:=fun _=>none,Tp:=fun _=>none,B:=fun _ _=>([],[]),S:=fun _=>[],I:=fun _=>none,tb:=none,ns:=true}
theorem Ms:∀k ds r,fS Mr 40 false k ds=some r→co k ds r:=fun k ds r h=>
 (xO (X:=Mr) lQ (fun f g hg call _ ds r hr=>Fk f g hg call ds r hr) (fun _ _ _ h=>by cases h) (fun _ _ _ h=>by cases h) (fun _ _ h=>by cases h) (fun _ _ _ h=>by cases h) Nt (fun _ _ h=>by cases h) (fun _ _ _ h=>by cases h) (fun _ _ h=>by cases h) 40).1 k ds r h
noncomputable def Fl(M:FuncId→Option Mu):TE:={E:={P:=Tryz.prog,gl:=jI,call:=fS Mr 40 false,L:=1000,wr:=M},cst:=fun _ _=>none,C:=fun _=>1}
theorem Nu{M:FuncId→Option Mu}(hM:∀k g,M k=some g→uT Tryz.prog jI k g)(ho:∀k e n,M k≠some (.own e n)):EnvOK (Fl M).E:=
 ⟨AL Ms,hM,fun k e n h=>absurd h (ho k e n),fun _ _ h=>by cases h⟩
noncomputable def BV(ds:List D):Option D:=match bX (Fl fun _=>none) O0 (nA 102) .own Tryz.f102 ds with
 |some (.tup [.int .u64 e,.int .u64 n,.slc false len cs])=>(match decide (e=78)&&decide (n=2) with
  |true=>some (.slc false len cs)
  |false=>none)
 |_=>none
theorem Fm:∀vs w,(callFunc 102 vs).run Tryz.prog w= .ok (.enter 102 vs) w:=enters_of Tryz.func102 (by kernel_rfl) rfl
theorem wa(ds:List D)(len:Nat)(cs:List D)(h:BV ds=some (.slc false len cs)):w6 Tryz.prog jI 102 78 2 ds len cs:=by
 unfold BV at h;split at h
 ·rename_i e n len0 cs0 he;split at h
  ·rename_i hb;cases h;simp only[zc0,zc3] at hb;obtain⟨rfl,rfl⟩:=hb;have hw:=zP (Te:=Fl fun _=>none) lQ (Nu (fun _ _ h=>by cases h) fun _ _ _ h=>by cases h) (fun _ _ _ h=>by cases h) rfl (fun _ _ _ h=>by cases h) Tryz.func102 (ord:=O0) (N:=nA 102) (by kernel_rfl) he;intro I w vs h1 h2 h3 h4;refine(hw.2 I w vs h1 h2 h3 h4).mono ?_
   rintro en w' ⟨hbel,⟨h,_⟩|⟨e,n,len,cs,b,cap,c,h,k1,k2,k3,k4,k5,k6,k7,k8⟩⟩
   ·cases h
   ·simp only[D.tup.injEq,zc1,D.int.injEq,D.slc.injEq,true_and,and_true] at h;obtain⟨ha,hb,rfl,rfl⟩:=h;have ha:e=78:=by omega
    have hb:n=2:=by omega
    subst ha hb;exact⟨hbel,b,cap,c,k1,k2,k3,k4,k5,k6,k7,k8⟩
  ·cases h
 ·cases h
theorem D4(ds:List D)(r:D)(h:BV ds=some r):co 102 ds r:=by
 have:∃len cs,r= .slc false len cs:=by
  unfold BV at h;split at h
  ·split at h
   ·cases h;exact⟨_,_,rfl⟩
   ·cases h
  ·cases h
 obtain⟨len,cs,rfl⟩:=this;exact qr Fm (wa ds len cs h)
def ki:List UInt8:=[97,110,110]
def Km:List UInt8:=[98,101,110]
def Mt:List D:=[SB ki,.int .i64 2,.int .i64 1,SB Km,.int .i64 1,.int .i64 (-1)]
def Iw:List D:=[SB Km,.int .i64 1,.int .i64 (-1),SB ki,.int .i64 2,.int .i64 1]
def sG:D:= .fn (.func 162) [] []
def Ix:List D:=[SB ki,.int .i64 1,.int .i64 0]
abbrev wb:=Nat×List D×List D×List D
def wc:List wb→List D→Option D
 |[],_=>none
 |c::G,ds=>match qt (rD 8) (.slc false c.1 c.2.1::c.2.2.1) ds with
  |true=>some (.slc false c.1 c.2.2.2)
  |false=>wc G ds
theorem wd:∀{G:List wb} {ds:List D} {r:D},wc G ds=some r→∃c∈G,ds= .slc false c.1 c.2.1::c.2.2.1∧r= .slc false c.1 c.2.2.2
 |[],_,_,h=>by cases h
 |c::G,ds,r,h=>by
  unfold wc at h;split at h
  ·rename_i hb;cases h;exact⟨c,za3 ..,(kz (mL 8) _ _ hb).symm,rfl⟩
  ·obtain⟨c',h1,h2⟩:=wd h;exact⟨c',za4 _ h1,h2⟩
theorem BW{k:FuncId}{fn:Func}{M:FuncId→Option Mu}{N:bN}{G:List wb}(hM:∀k g,M k=some g→uT Tryz.prog jI k g)(ho:∀k e n,M k≠some (.own e n))(hf:Tryz.prog.funcs[k]?=some fn)(hok:j3 Tryz.prog O0 fn=true)(h0:xJ fn=true)
  (hen:∀vs w,(callFunc k vs).run Tryz.prog w= .ok (.enter k vs) w) (hl:∀c∈G,0<c.1∧c.2.1.length=c.1*3) (he:∀c∈G,∀e,nB (Fl M) O0 N e 3 fn c.1 c.2.1 c.2.2.1=bW (decide (e=e)) (some (.slc false c.1 c.2.2.2))):uT Tryz.prog jI k (.tab false (wc G)):=by
 refine vN hen fun cs len rs cs' m hg=> ?_;have hg:Aw false (wc G) cs len rs=some (cs',m):=hg;unfold Aw at hg;split at hg
 ·rename_i f m' cs2 hmu;obtain⟨c,hc,h1,h2⟩:=wd hmu;simp only[zc1,D.slc.injEq,true_and] at h1;obtain⟨⟨rfl,rfl⟩,rfl⟩:=h1;cases h2;cases hg;refine zQ (Te:=Fl M) lQ (Nu hM ho) (fun _ _ _ h=>by cases h) rfl (fun _ _ _ h=>by cases h) hf (ord:=O0) (N:=N) hok h0 fun e n hn=> ?_;obtain⟨q1,q2⟩:=hl c hc;have:n=3:=Nat.eq_of_mul_eq_mul_left q1 (by omega);subst this;exact(he c hc e).trans (by simp[bW])
 ·cases hg
theorem Iy{p:wb→Prop}{a b:wb}(ha:p a)(hb:p b):∀c∈[a,b],p c:=fun c hc=>by
 rcases List.mem_cons.1 hc with rfl|hc
 ·exact ha
 ·rw[zc7.1 hc];exact hb
def Kn:List wb:=[(2,Mt,[.int .i64 0,.int .i64 2,sG],Iw),(1,Ix,[.int .i64 0,.int .i64 1,sG],Ix)]
def D5:FuncId→Option Mu:=fun k=>match k with
 |281=>some (.tab false (wc Kn))
 |_=>none
theorem Mv:∀c∈Kn,∀e,nB (Fl fun _=>none) O0 (nA 281) e 3 Tryz.f281 c.1 c.2.1 c.2.2.1=bW (decide (e=e)) (some (.slc false c.1 c.2.2.2)):=Iy (fun e=>by kernel_rfl) fun e=>by kernel_rfl
theorem Mw:∀k g,D5 k=some g→uT Tryz.prog jI k g:=by
 intro k g h;unfold D5 at h;split at h
 ·cases h;exact BW (fun _ _ h=>by cases h) (fun _ _ _ h=>by cases h) Tryz.func281 (by kernel_rfl) (by kernel_rfl) (enters_of Tryz.func281 (by kernel_rfl) rfl) (Iy ⟨by decide,rfl⟩ ⟨by decide,rfl⟩) Mv
 ·cases h
def Ko:List wb:=[(2,Mt,[.int .i64 2,sG],Iw),(1,Ix,[.int .i64 1,sG],Ix)]
def D6:FuncId→Option Mu:=fun k=>match k with
 |226=>some (.tab false (wc Ko))
 |_=>none
theorem Mx:∀c∈Ko,∀e,nB (Fl D5) O0 (nA 226) e 3 Tryz.f226 c.1 c.2.1 c.2.2.1=bW (decide (e=e)) (some (.slc false c.1 c.2.2.2)):=Iy (fun e=>by kernel_rfl) fun e=>by kernel_rfl
theorem My:∀k g,D6 k=some g→uT Tryz.prog jI k g:=by
 intro k g h;unfold D6 at h;split at h
 ·cases h;exact BW Mw (fun k e n h=>by unfold D5 at h;split at h<;>cases h) Tryz.func226 (by kernel_rfl) (by kernel_rfl) (enters_of Tryz.func226 (by kernel_rfl) rfl) (Iy ⟨by decide,rfl⟩ ⟨by decide,rfl⟩) Mx
 ·cases h
def Kp:List wb:=[(2,Mt,[sG],Iw),(1,Ix,[sG],Ix)]
theorem Mz:∀c∈Kp,∀e,nB (Fl D6) O0 (nA 161) e 3 Tryz.f161 c.1 c.2.1 c.2.2.1=bW (decide (e=e)) (some (.slc false c.1 c.2.2.2)):=Iy (fun e=>by kernel_rfl) fun e=>by kernel_rfl
def M0:FuncId→Option Mu:=fun k=>match k with
 |102=>some (.own 78 2)
 |161=>some (.tab false (wc Kp))
 |_=>none
theorem m0:∀k g,M0 k=some g→uT Tryz.prog jI k g:=by
 intro k g h;unfold M0 at h;split at h
 ·cases h;exact vN Fm fun _ _ _ _ _ h=>by cases h
 ·cases h;exact BW My (fun k e n h=>by unfold D6 at h;split at h<;>cases h) Tryz.func161 (by kernel_rfl) (by kernel_rfl) (enters_of Tryz.func161 (by kernel_rfl) rfl) (Iy ⟨by decide,rfl⟩ ⟨by decide,rfl⟩) Mz
 ·cases h
def we:List PK:=[.cl,.cl,.cl,.cl,.cl,.cl]
def C4:List PK:=we++[.own 91 5,.cl]
def BX:List Knd:=[.any,.any,.any,.any,.any,.any,.any,.any]
def MA:List Knd:=[.any,.any,.any,.any,.any,.any]
def Q0:FuncId→Option (Nat×TypeId×List PK×List PK):=fun k=>match k with
 |127=>some (0,209,C4,C4)
 |53=>some (0,223,C4,C4)
 |135=>some (0,223,C4,C4)
 |55=>some (0,223,C4,C4)
 |56=>some (0,223,C4,C4)
 |141=>some (0,243,BJ,BJ)
 |142=>some (0,243,BJ,L2)
 |169=>some (0,28,we,we)
 |171=>some (0,28,we,we)
 |172=>some (0,28,we,we)
 |174=>some (0,28,we,we)
 |175=>some (0,28,we,we)
 |176=>some (0,28,we,we)
 |234=>some (0,28,we,we)
 |235=>some (0,28,we,we)
 |_=>none
def Bs:FuncId→FuncId→List Knd×List Nat:=fun f k=>match k with
 |127=>(BX,[match f with|122=>0|53=>2|_=>1])
 |53=>(BX,[20])
 |56=>(BX,[20])
 |135=>(BX,[2])
 |55=>(BX,[1])
 |141=>([.any,.any],[5])
 |142=>([.any,.any],[])
 |_=>(MA,[])
def S0:FuncId→List Nat:=fun k=>match k with
 |127=>[1]
 |53=>[2]
 |135=>[3]
 |55=>[1]
 |56=>[1]
 |_=>[]
def PF(k:FuncId)(args:List D)(r:D):Prop:=∀q,Q0 k=some q→∀ds cells cells' x,q.1<ds.length→args=ds.set q.1 (.agg cells)→r= .tup [.agg cells',x]→DJ Tryz.prog jI k q.1 q.2.1 q.2.2.1 q.2.2.2 ds cells cells' x
def MB(tp:List lR):FuncId→Option (List D→Option D):=fun k=>match k with
 |141=>some Gr
 |142=>some Gs
 |k=>(match tp.any fun e=>decide (e.1=k) with
  |true=>some (v6 tp k)
  |false=>none)
noncomputable def X1(l:List lR):L0:=fun k=>match decide (k=102) with
 |true=>some fun _=>BV
 |false=>(match l.any fun e=>decide (e.1=k) with
  |true=>some (fun _=>v6 l k)
  |false=>XL k)
def Nv:List D:=[.nils,.nils,.nils,.nils,.nils,.nils,.nils,.nils]
def MC:FuncId→Option Inl:=fun k=>match k with
 |78=>some (IZ 165 Nv)
 |_=>none
abbrev wg:=FuncId×List D×List (List D)
def BY:List wg→FuncId→List D→Option (List (List D))
 |[],_,_=>none
 |e::l,k,ds=>match decide (e.1=k) with
  |true=>(match qt (rD 8) e.2.1 ds with
   |true=>some e.2.2
   |false=>BY l k ds)
  |false=>BY l k ds
noncomputable def BU(l tp:List lR)(sq:List wg):RunB:={R:={P:=Tryz.prog,gl:=jI,X:=X1 l,ord:=zW,N:=nA,K:=fun k=>decide (k=102),cst:=fun _ _=>none,sq:=BY sq,M:=M0,L:=1000000,C:=fun _=>1},Q:=Q0,Tp:=MB tp,B:=Bs,S:=S0,I:=MC,tb:=some 243,ns:=true}
theorem qv:∀{l:List lR} {k:FuncId} {ds:List D} {r:D},v6 l k ds=some r→(k,ds,r)∈l
 |[],_,_,_,h=>by cases h
 |e::l,k,ds,r,h=>by
  simp only[v6] at h;split at h
  ·rename_i hk;simp only[zc3] at hk;split at h
   ·rename_i hd;cases h;have hd:=kz (mL 8) _ _ hd;subst hk hd;exact za3 ..
   ·exact za4 _ (qv h)
  ·exact za4 _ (qv h)
theorem yX:∀{l:List wg},(∀e∈l,SeqOK Tryz.prog jI e.1 e.2.1 e.2.2)→∀g cs ys,BY l g cs=some ys→SeqOK Tryz.prog jI g cs ys
 |[],_=>fun _ _ _ h=>by cases h
 |e::l,hl=>fun k ds r h=>by
  have ih:=yX fun e he=>hl e (za4 _ he);simp only[BY] at h;split at h
  ·rename_i hk;simp only[zc3] at hk;split at h
   ·rename_i hd;cases h;rw[←hk,←kz (mL 8) _ _ hd];exact hl e (za3 ..)
   ·exact ih k ds r h
  ·exact ih k ds r h
theorem Kq:IY Tryz.prog 78 Nv:=by
 intro w
 go_enter Tryz.func78,Tryz.ntmps78
 go_wp2
 go_ret
 refine⟨_,_,rfl,rfl,rfl,fun j d v hd hv=> ?_⟩
 match j,hd,hv with
 |0,hd,hv=>cases hd;cases hv;rfl
 |1,hd,hv=>cases hd;cases hv;rfl
 |2,hd,hv=>cases hd;cases hv;rfl
 |3,hd,hv=>cases hd;cases hv;rfl
 |4,hd,hv=>cases hd;cases hv;rfl
 |5,hd,hv=>cases hd;cases hv;rfl
 |6,hd,hv=>cases hd;cases hv;rfl
 |7,hd,hv=>cases hd;cases hv;rfl
 |j+8,hd,_=>cases hd
theorem MD:∀vs w,(callFunc 78 vs).run Tryz.prog w= .ok (.enter 78 vs) w:=enters_of Tryz.func78 (by kernel_rfl) rfl
theorem Ks{l tp:List lR}{sq:List wg}(hl:∀e∈l,co e.1 e.2.1 e.2.2)(ht:∀e∈tp,PF e.1 e.2.1 e.2.2)(hs:∀e∈sq,SeqOK Tryz.prog jI e.1 e.2.1 e.2.2)(n:Nat):
  (∀(f:FuncId) (ds:List D) (r:D),fS (BU l tp sq) n false f ds=some r→co f ds r)∧
  (∀(f:FuncId) (q:Nat×TypeId×List PK×List PK),Q0 f=some q→∀(ds cells cells':List D) (r:D),q.1<ds.length→fS (BU l tp sq) n true f (ds.set q.1 (.agg cells))=some (.tup [.agg cells',r])→DJ Tryz.prog jI f q.1 q.2.1 q.2.2.1 q.2.2.2 ds cells cells' r):=by
 refine xO (X:=BU l tp sq) lQ (fun f g hg call _ ds r hr=> ?_) (fun _ _ _ h=>by cases h) (yX hs) m0 (fun k e n h=> ?_) Nt (fun k q hq=> ?_) (fun k g q hg hq ds cells cells' r hp h=> ?_) (fun k i hi=> ?_) n
 ·have hg:X1 l f=some g:=hg;unfold X1 at hg;split at hg
  ·rename_i hk;cases hg;have hk:=of_decide_eq_true hk;subst hk;exact D4 ds r hr
  ·split at hg
   ·cases hg;exact yR hl f ds r hr
   ·exact Fk f g hg call ds r hr
 ·have h:M0 k=some (.own e n):=h;unfold M0 at h;split at h
  ·cases h;exact⟨rfl,fun _=>rfl,_,rfl,fun call ds len cs hg=>wa ds len cs hg⟩
  ·cases h
  ·cases h
 ·have hq:Q0 k=some q:=hq;unfold Q0 at hq;split at hq
  ·exact enters_of Tryz.func127 (by kernel_rfl) rfl
  ·exact enters_of Tryz.func53 (by kernel_rfl) rfl
  ·exact enters_of Tryz.func135 (by kernel_rfl) rfl
  ·exact enters_of Tryz.func55 (by kernel_rfl) rfl
  ·exact enters_of Tryz.func56 (by kernel_rfl) rfl
  ·exact enters_of Tryz.func141 (by kernel_rfl) rfl
  ·exact enters_of Tryz.func142 (by kernel_rfl) rfl
  ·exact enters_of Tryz.func169 (by kernel_rfl) rfl
  ·exact enters_of Tryz.func171 (by kernel_rfl) rfl
  ·exact enters_of Tryz.func172 (by kernel_rfl) rfl
  ·exact enters_of Tryz.func174 (by kernel_rfl) rfl
  ·exact enters_of Tryz.func175 (by kernel_rfl) rfl
  ·exact enters_of Tryz.func176 (by kernel_rfl) rfl
  ·exact enters_of Tryz.func234 (by kernel_rfl) rfl
  ·exact enters_of Tryz.func235 (by kernel_rfl) rfl
  ·cases hq
 ·have hg:MB tp k=some g:=hg;have hq:Q0 k=some q:=hq;unfold MB at hg;split at hg
  ·cases hg;cases hq;exact D2 ds cells cells' r hp h
  ·cases hg;cases hq;exact D3 ds cells cells' r hp h
  ·split at hg
   ·cases hg;exact ht _ (qv h) q hq ds cells cells' r hp rfl rfl
   ·cases hg
 ·have hi:MC k=some i:=hi;unfold MC at hi;split at hi
  ·cases hi;exact DM MD Kq
  ·cases hi
theorem Aa{l tp:List lR}{sq:List wg}(hl:∀e∈l,co e.1 e.2.1 e.2.2)(ht:∀e∈tp,PF e.1 e.2.1 e.2.2)(hs:∀e∈sq,SeqOK Tryz.prog jI e.1 e.2.1 e.2.2){k:FuncId}{ds:List D}{r:D}(h:fS (BU l tp sq) 60 false k ds=some r):co k ds r:=(Ks hl ht hs 60).1 k ds r h
theorem jJ{l tp:List lR}{sq:List wg}(hl:∀e∈l,co e.1 e.2.1 e.2.2)(ht:∀e∈tp,PF e.1 e.2.1 e.2.2)(hs:∀e∈sq,SeqOK Tryz.prog jI e.1 e.2.1 e.2.2){k:FuncId}{args:List D}{r:D}(h:fS (BU l tp sq) 60 true k args=some r):PF k args r:=by
 intro q hq ds cells cells' x hp ha hr;subst ha hr;exact(Ks hl ht hs 60).2 k q hq ds cells cells' x hp h
theorem kU:∀e∈([]:List lR),co e.1 e.2.1 e.2.2:=fun _ h=>by cases h
theorem pj:∀e∈([]:List lR),PF e.1 e.2.1 e.2.2:=fun _ h=>by cases h
theorem qw:∀e∈([]:List wg),SeqOK Tryz.prog jI e.1 e.2.1 e.2.2:=fun _ h=>by cases h
theorem eE{k:FuncId}{ds:List D}{r:D}(h:fS (BU [] [] []) 60 false k ds=some r):co k ds r:=Aa kU pj qw h
theorem fT{l:List lR}(hl:∀e∈l,co e.1 e.2.1 e.2.2){k:FuncId}{ds:List D}{r:D}(h:fS (BU l [] []) 60 false k ds=some r):co k ds r:=Aa hl pj qw h
theorem bS{e:lR}{l:List lR}(h:co e.1 e.2.1 e.2.2)(hl:∀e∈l,co e.1 e.2.1 e.2.2):∀x∈e::l,co x.1 x.2.1 x.2.2:=fun x hx=>by
 rcases List.mem_cons.1 hx with rfl|hx
 ·exact h
 ·exact hl x hx
theorem d4{e:lR}{l:List lR}(h:PF e.1 e.2.1 e.2.2)(hl:∀e∈l,PF e.1 e.2.1 e.2.2):∀x∈e::l,PF x.1 x.2.1 x.2.2:=fun x hx=>by
 rcases List.mem_cons.1 hx with rfl|hx
 ·exact h
 ·exact hl x hx
def fK:Nat→List UInt8
 |1=>[99,108,117,98,32,108,105,110,107,115]
 |2=>[109,101,109,98,101,114,32,97,110,110,32,108,105,110,107,115,32,48]
 |3=>[109,101,109,98,101,114,32,98,101,110,32,108,105,110,107,115,32,50]
 |4=>[104,111,108,101,115,32,52,58,50,32,51,58,49]
 |5=>[109,97,114,107,32,97,110,110,32,98,101,110,32,49,32,53]
 |6=>[99,108,97,105,109,32,97,110,110,32,49,32,53]
 |7=>[109,97,114,107,32,97,110,110,32,98,101,110,32,50,32,51]
 |8=>[109,97,114,107,32,98,101,110,32,97,110,110,32,49,32,52]
 |_=>[]
def Nw:Nat→List D
 |1=>[.int .i64 1,SB [99,108,117,98],.slc false 1 [SB [108,105,110,107,115]],.slc true 0 [],SB []]
 |2=>[.int .i64 2,SB [109,101,109,98,101,114],.slc false 2 [SB [97,110,110],SB [108,105,110,107,115]],.slc true 0 [],SB [48]]
 |3=>[.int .i64 3,SB [109,101,109,98,101,114],.slc false 2 [SB [98,101,110],SB [108,105,110,107,115]],.slc true 0 [],SB [50]]
 |4=>[.int .i64 4,SB [104,111,108,101,115],.slc true 0 [],.slc true 0 [],SB [52,58,50,32,51,58,49]]
 |5=>[.int .i64 5,SB [109,97,114,107],.slc false 2 [SB [97,110,110],SB [98,101,110]],.slc false 1 [.int .i64 1],SB [53]]
 |6=>[.int .i64 6,SB [99,108,97,105,109],.slc false 1 [SB [97,110,110]],.slc false 1 [.int .i64 1],SB [53]]
 |7=>[.int .i64 7,SB [109,97,114,107],.slc false 2 [SB [97,110,110],SB [98,101,110]],.slc false 1 [.int .i64 2],SB [51]]
 |8=>[.int .i64 8,SB [109,97,114,107],.slc false 2 [SB [98,101,110],SB [97,110,110]],.slc false 1 [.int .i64 1],SB [52]]
 |_=>[]
def cT(k:Nat):D:= .agg (Nw k)
def Kt:Nat→List D
 |0=>[]
 |k+1=>Kt k++Nw (k+1)
def mkC:List D:=[SB [97,110,110],SB [98,101,110],.int .i64 1,.int .i64 5,SB [],SB [97,110,110],SB [97,110,110],.int .i64 1,.int .i64 5,SB [],SB [97,110,110],SB [98,101,110],.int .i64 2,.int .i64 3,SB [],SB [98,101,110],SB [97,110,110],.int .i64 1,.int .i64 4,SB []]
def mbC:List D:=[SB [97,110,110],SB [108,105,110,107,115],.int .i64 0,SB [98,101,110],SB [108,105,110,107,115],.int .i64 2]
def uC(k:Nat):List D:=[match k with|0=> .nils|_=> .slc false 1 [SB [108,105,110,107,115]],match k with|0=> .nils|1=> .nils|2=> .slc false 1 (mbC.take 3)|_=> .slc false 2 mbC,match k with|0=> .nils|1=> .nils|2=> .nils|3=> .nils|_=> .slc false 2 [.int .i64 4,.int .i64 2,.int .i64 3,.int .i64 1],
 match Nat.sub k 4 with|0=> .nils|m=> .slc false m (mkC.take (5*m)),.nils,.nils]
def Nx:Nat→List D
 |0=>[]
 |k+1=>Nx k++(uC k).map canon0
def hC(k:Nat):List D:=uC k++[match k with|0=> .nils|k=> .slc false k (Kt k),match k with|0=> .nils|k=> .slc false k (Nx k)]
def hD(k:Nat):D:= .agg (hC k)
def uD:D:= .agg ((uC 8).map canon0)
def Ku:D:= .slc true 8 [SB (fK 1),SB (fK 2),SB (fK 3),SB (fK 4),SB (fK 5),SB (fK 6),SB (fK 7),SB (fK 8)]
def BZ:D:= .slc false 8 (Kt 8)
def bE:Nat→Int
 |1=>3025347
 |2=>7649311
 |3=>11553383
 |4=>1217935
 |5=>3380265
 |6=>9444044
 |7=>12176769
 |8=>6273512
 |_=>0
def kj:Nat→List UInt8
 |1=>[49,32,99,108,117,98,32,108,105,110,107,115]
 |2=>[50,32,109,101,109,98,101,114,32,97,110,110,32,108,105,110,107,115,32,48]
 |3=>[51,32,109,101,109,98,101,114,32,98,101,110,32,108,105,110,107,115,32,50]
 |4=>[52,32,104,111,108,101,115,32,52,58,50,32,51,58,49]
 |5=>[53,32,109,97,114,107,32,97,110,110,32,98,101,110,32,49,32,53]
 |6=>[54,32,99,108,97,105,109,32,97,110,110,32,49,32,53]
 |7=>[55,32,109,97,114,107,32,97,110,110,32,98,101,110,32,50,32,51]
 |8=>[56,32,109,97,114,107,32,98,101,110,32,97,110,110,32,49,32,52]
 |_=>[]
def kk:Nat→List UInt8
 |1=>[50,101,50,57,99,51]
 |2=>[55,52,98,56,49,102]
 |3=>[98,48,52,97,54,55]
 |4=>[49,50,57,53,56,102]
 |5=>[51,51,57,52,50,57]
 |6=>[57,48,49,97,99,99]
 |7=>[98,57,99,100,56,49]
 |8=>[53,102,98,57,101,56]
 |_=>[]
def kV(k:Nat):List UInt8:=kj k++[35]++kk k
def D7:Nat→List UInt8
 |0=>[]
 |k+1=>D7 k++kV (k+1)++[10]
def B0:List UInt8:=D7 8++[57]
def nI(n:Int):D:= .int .i64 n
def kW(d:D):D:= .tup [d,nI 0]
def fD:D:= .agg [.slc true 2 [SB [100],nI 1,SB [97,110,110],nI 1,nI 4,SB [],SB [100],nI 3,SB [97,110,110],nI 2,nI 3,SB []]]
end Go.Pd
end
