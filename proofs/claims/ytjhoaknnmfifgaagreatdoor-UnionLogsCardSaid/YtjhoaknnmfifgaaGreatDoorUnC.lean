import Derived.Test.YtjhoaknnmfifgaaGreatDoorUnB
import Derived.Test.YtjhoaknnmfifgaaGreatDoorUnA
section
namespace Go.Pd
open Go Go.Proofs Go.RowKit
set_option maxRecDepth 100000
def qa(f:D→D→Bool):List D→List D→Bool
 |[],[]=>true
 |x::xs,y::ys=>(match f x y with
  |true=>qa f xs ys
  |false=>false)
 |_,_=>false
def rn:Nat→D→D→Bool
 |0,_,_=>false
 |n+1,a,b=>match a,b with
  | .int k x,.int k' y=>decide (k=k')&&decide (x=y)
  | .str x,.str y=>x.data.toList==y.data.toList
  | .bool x,.bool y=>x==y
  | .nils,.nils=>true
  | .slc f n1 cs,.slc f' n1' cs'=>(f==f')&&(decide (n1=n1')&&qa (rn n) cs cs')
  | .agg cs,.agg cs'=>qa (rn n) cs cs'
  | .snap cs o,.snap cs' o'=>decide (o=o')&&qa (rn n) cs cs'
  | .fn (.func g) x y,.fn (.func g') x' y'=>decide (g=g')&&(qa (rn n) x x'&&qa (rn n) y y')
  |_,_=>false
theorem kr{f:D→D→Bool}(hf:∀a b,f a b=true→a=b):∀xs ys,qa f xs ys=true→xs=ys
 |[],[],_=>rfl
 |x::xs,y::ys,h=>by
  simp only[qa] at h;split at h
  ·rename_i hx;rw[hf _ _ hx,kr hf xs ys h]
  ·cases h
 |[],_::_,h=>by cases h
 |_::_,[],h=>by cases h
theorem mq:∀(n:Nat) (a b:D),rn n a b=true→a=b
 |0,_,_,h=>by cases h
 |n+1,a,b,h=>by
  have ih:=kr (mq n);unfold rn at h;split at h
  ·simp only[zc4,zc7] at h;rw[h.1,h.2]
  ·rename_i x y;have h2:x.data=y.data:=by
    have:=eq_of_beq h;rw[←Array.toArray_toList (xs:=x.data),this]
   rw[ByteArray.ext h2]
  ·rw[eq_of_beq h]
  ·rfl
  ·simp only[zc4,zc7,ze4] at h;rw[h.1,h.2.1,ih _ _ h.2.2]
  ·rw[ih _ _ h]
  ·simp only[zc4,zc7] at h;rw[h.1,ih _ _ h.2]
  ·simp only[zc4,zc7] at h;rw[h.1,ih _ _ h.2.1,ih _ _ h.2.2]
  ·cases h
abbrev lF:=FuncId×List D×D
def wq:List lF→FuncId→List D→Option D
 |[],_,_=>none
 |e::l,k,ds=>match decide (e.1=k) with
  |true=>(match qa (rn 8) e.2.1 ds with
   |true=>some e.2.2
   |false=>wq l k ds)
  |false=>wq l k ds
theorem zq:∀{l:List lF},(∀e∈l,bR e.1 e.2.1 e.2.2)→gY (wq l)
 |[],_=>fun _ _ _ h=>by cases h
 |e::l,hl=>fun k ds r h=>by
  have ih:=zq fun e he=>hl e (za5 _ he);simp only[wq] at h;split at h
  ·rename_i hk;simp only[zc7] at hk;split at h
   ·rename_i hd;cases h;rw[←hk,←kr (mq 8) _ _ hd];exact hl e (za4 ..)
   ·exact ih k ds r h
  ·exact ih k ds r h
theorem zr{a b:Nat}(h:Nat.blt a b=true):a<b:=Nat.le_of_ble_eq_true h
theorem Im{a b:Nat}(h:a<b):Nat.blt a b=true:=Nat.ble_eq_true_of_le h
theorem qb(s:ByteArray):SB s.data.toList= .str s:=congrArg D.str (oE s)
def AU:Nat→Nat→List UInt8→List UInt8
 |0,_,a=>a
 |k+1,n,a=>match Nat.blt n 10 with
  |true=>UInt8.ofNat (48+n)::a
  |false=>AU k (n/10) (UInt8.ofNat (48+n%10)::a)
theorem tZ:∀(k n:Nat) (a:List UInt8),n<10^k→0<k→AU k n a=Lib.decDigits n++a
 |0,_,_,_,h=>absurd h (zc8 _)
 |k+1,n,a,h,_=>by
  unfold AU;rw[Lib.decDigits];cases hb:Nat.blt n 10 with
  |true=>
   have:n<10:=zr hb;rw[dif_pos this];rfl
  |false=>
   have hn:¬n<10:=fun h=>by
    have:Nat.blt n 10=true:=Im h;rw[this] at hb;cases hb
   rw[dif_neg hn];have hk:0<k:=by
    rcases Nat.eq_zero_or_pos k with h0|h0
    ·subst h0;simp at h;omega
    ·exact h0
   show AU k (n/10) (UInt8.ofNat (48+n%10)::a)=_;rw[tZ k (n/10) _ (by rw[Nat.div_lt_iff_lt_mul (by omega),←Nat.pow_succ];exact h) hk];simp
def Io:List D→Option D
 |[.int .i64 n]=>(match decide (-9223372036854775808≤n∧n<9223372036854775808),n with
  |true,.ofNat n=>some (SB (AU 20 n []))
  |true,.negSucc n=>some (SB (45::AU 20 (n+1) []))
  |false,_=>none)
 |_=>none
theorem Fi:∀ds r,Io ds=some r→bR 138 ds r:=by
 intro ds r h;unfold Io at h;split at h
 ·rename_i n0;split at h
  ·rename_i n hb;cases h;have hb:=of_decide_eq_true hb;have hb': -9223372036854775808≤(n:Int)∧(n:Int)<9223372036854775808:=hb;rw[tZ 20 n [] (by omega) (by omega),zb6];have:=CQ (.ofNat n) hb;unfold Lib.itoa at this;rw[if_neg (by simp)] at this;exact this
  ·rename_i n hb;cases h;have hb:=of_decide_eq_true hb;rw[tZ 20 (n+1) [] (by omega) (by omega),zb6];have:=CQ (.negSucc n) hb;unfold Lib.itoa at this;rw[if_pos (Int.negSucc_lt_zero n)] at this;exact this
  ·cases h
 ·cases h
def Fj(c:UInt8):List UInt8→Int
 |[]=> -1
 |b::l=>match b==c with
  |true=>0
  |false=>(match Fj c l with
   | .ofNat n=> .ofNat (n+1)
   | .negSucc _=> -1)
theorem zt(c:UInt8):∀l,Fj c l=Lib.indexByte l c
 |[]=>rfl
 |b::l=>by
  unfold Fj Lib.indexByte;have hge:=Lib.indexByte_ge l c;rw[zt c l];cases hb:b==c with
  |true=>rfl
  |false=>
   simp only[Bool.false_eq_true,if_false];cases hi:Lib.indexByte l c with
   |ofNat n=>
    have:(Int.ofNat n== -1)=false:=by simp
    simp only[this,Bool.false_eq_true,if_false];rfl
   |negSucc n=>
    rw[hi] at hge;have:n=0:=by omega
    subst this;rfl
def OW:List D→Option D
 |[.str s,.int .u8 (.ofNat n)]=>(match Nat.blt n 256 with
  |true=>some (.int .i64 (Fj (UInt8.ofNat n) s.data.toList))
  |false=>none)
 |_=>none
theorem Ip:∀ds r,OW ds=some r→bR 306 ds r:=by
 intro ds r h;unfold OW at h;split at h
 ·rename_i s n;split at h
  ·rename_i hb;cases h;have hn:n<256:=zr hb;have:=G6 s.data.toList (UInt8.ofNat n);rw[qb,←zt] at this;have he:((UInt8.ofNat n).toNat:Int)= .ofNat n:=by
    rw[UInt8.toNat_ofNat',Nat.mod_eq_of_lt hn];rfl
   rw[he] at this;exact this
  ·cases h
 ·cases h
def Iq:List D→Option D
 |[.str s,.str c]=>(match c.data.toList with
  |[b]=>some (.int .i64 (Lib.countByte s.data.toList b:Nat))
  |_=>none)
 |_=>none
theorem CS{c:ByteArray}{b:UInt8}(h:c.data.toList=[b]):c=bs [b]:=by rw[←h,oE]
theorem Fk:∀ds r,Iq ds=some r→bR 254 ds r:=by
 intro ds r h;unfold Iq at h;split at h
 ·rename_i s c;split at h
  ·rename_i b hb;cases h;have:=Me s.data.toList b;rw[qb] at this;rw[CS hb];exact this
  ·cases h
 ·cases h
def Is:List D→Option D
 |[.str s]=>(match Nat.ble s.data.toList.length 18,Lib.atoi s.data.toList with
  |true,some n=>some (.tup [.int .i64 n,.nilif])
  |_,_=>none)
 |_=>none
theorem Fl:∀ds r,Is ds=some r→bR 262 ds r:=by
 intro ds r h;unfold Is at h;split at h
 ·rename_i s;split at h
  ·rename_i n hb hn;cases h;have:=G7 s.data.toList n (Nat.le_of_ble_eq_true hb) hn;rw[qb] at this;exact this
  ·cases h
 ·cases h
def CT:List D→Option D
 |[.str s,.str c]=>(match Nat.ble s.data.toList.length 1000000&&(Nat.ble c.data.toList.length 1000&&c.data.toList.all fun b=>decide (b.toNat<128)) with
  |true=>some (SB (Lib.trimS s.data.toList c.data.toList))
  |false=>none)
 |_=>none
theorem CU:∀ds r,CT ds=some r→bR 261 ds r:=by
 intro ds r h;unfold CT at h;split at h
 ·rename_i s c;split at h
  ·rename_i hb;cases h;simp only[zc4] at hb;have:=CR s.data.toList c.data.toList (Nat.le_of_ble_eq_true hb.1) (Nat.le_of_ble_eq_true hb.2.1) hb.2.2;rw[qb,qb] at this;exact this
  ·cases h
 ·cases h
def zu:List D→Option (List (List UInt8))
 |[]=>some []
 | .str s::l=>(match zu l with
  |some r=>some (s.data.toList::r)
  |none=>none)
 |_=>none
theorem wt:∀(l:List D) {r:List (List UInt8)},zu l=some r→l=r.map SB
 |[],r,h=>by cases h;rfl
 |d::l,r,h=>by
  unfold zu at h;split at h
  ·rename_i heq;cases heq
  ·rename_i s l' heq;cases heq;split at h
   ·rename_i r' hr;cases h;rw[List.map_cons,←wt l hr,qb]
   ·cases h
  ·cases h
def CV(c:List UInt8):List (List UInt8)→List UInt8
 |[]=>[]
 |x::l=>match l with
  |[]=>x
  |y::l'=>x++c++CV c (y::l')
theorem zw(c:List UInt8):∀l,CV c l=Lib.join l c
 |[]=>rfl
 |[x]=>by rw[Lib.join_one];rfl
 |x::y::l=>by
  have ih:=zw c (y::l);show x++c++CV c (y::l)=_;rw[ih];unfold Lib.join;simp[List.intercalate]
def Iu:List D→Option D
 |[.slc _ n cs,.str c]=>(match zu cs with
  |some ws=>(match Nat.ble n 1000000&&(Nat.beq ws.length n&&Nat.ble (CV c.data.toList ws).length 1000000) with
   |true=>some (SB (CV c.data.toList ws))
   |false=>none)
  |none=>none)
 |_=>none
theorem Fm:∀ds r,Iu ds=some r→bR 206 ds r:=by
 intro ds r h;unfold Iu at h;split at h
 ·rename_i f n cs c;split at h
  ·rename_i ws hws;split at h
   ·rename_i hb;cases h;simp only[zc4] at hb;obtain⟨h1,h2,h3⟩:=hb;have h1:=Nat.le_of_ble_eq_true h1;have h2:=Nat.eq_of_beq_eq_true h2;have h3:=Nat.le_of_ble_eq_true h3;rw[zw] at h3 ⊢;have:=G8 (f:=f) ws c.data.toList (by omega) (by omega);rw[h2,←wt cs hws,qb] at this;exact this
   ·cases h
  ·cases h
 ·cases h
def Fo(m:Nat):List D→Option D
 |[.nils]=>some (.slc true 0 [])
 |[.slc _ n cs]=>(match(Nat.ble n 1000000&&Nat.beq cs.length (n*m))&&(cs.all D.plain&&cs.all D.one) with
  |true=>some (Oh n cs)
  |false=>none)
 |_=>none
theorem zx{k:FuncId}{m:Nat}(h0:∀{f:Bool} {n:Nat} {cs:List D},n≤1000000→cs.length=n*m→cs.all D.plain=true→cs.all D.one=true→bR k [.slc f n cs] (Oh n cs)):∀ds r,Fo m ds=some r→bR k ds r:=by
 intro ds r h;unfold Fo at h;split at h
 ·cases h;exact CallOK.cnL (b:=true) (h0 (f:=true) (n:=0) (cs:=[]) (Nat.zero_le _) (by simp) rfl rfl)
 ·split at h
  ·rename_i hb;cases h;simp only[zc4] at hb;exact h0 (Nat.le_of_ble_eq_true hb.1.1) (Nat.eq_of_beq_eq_true hb.1.2) hb.2.1 hb.2.2
  ·cases h
 ·cases h
def XL:Ov:=fun k=>match k with
 |138=>some (fun _=>Io)
 |206=>some (fun _=>Iu)
 |208=>some (fun _=>Fo 1)
 |209=>some (fun _=>Fo 1)
 |254=>some (fun _=>Iq)
 |261=>some (fun _=>CT)
 |262=>some (fun _=>Is)
 |306=>some (fun _=>OW)
 |_=>none
theorem G9:∀f g,XL f=some g→∀call ds r,g call ds=some r→bR f ds r:=by
 intro f g h call ds r hr;unfold XL at h;split at h<;>(first|(cases h;done)|cases h)
 ·exact Fi ds r hr
 ·exact Fm ds r hr
 ·exact zx Mc ds r hr
 ·exact zx Md ds r hr
 ·exact Fk ds r hr
 ·exact CU ds r hr
 ·exact Fl ds r hr
 ·exact Ip ds r hr
def CW:List D→Option (List UInt8)
 |[]=>some []
 | .int .u8 (.ofNat n)::l=>(match Nat.blt n 256,CW l with
  |true,some r=>some (UInt8.ofNat n::r)
  |_,_=>none)
 |_=>none
theorem t6:∀(l:List D) {r:List UInt8},CW l=some r→l=w8 r
 |[],r,h=>by cases h;rfl
 |d::l,r,h=>by
  unfold CW at h;split at h
  ·rename_i heq;cases heq
  ·rename_i n l' heq;cases heq;split at h
   ·rename_i r' hb hr;cases h;have hn:n<256:=zr hb;unfold w8;rw[List.map_cons];have:=t6 l hr;unfold w8 at this;rw[←this,UInt8.toNat_ofNat',Nat.mod_eq_of_lt hn];rfl
   ·cases h
  ·cases h
def Iv:List D→Option D
 |[.agg cells,.str s]=>(match Nat.ble s.data.toList.length 1000000&&Nat.blt 0 s.data.toList.length with
  |true=>(match cells with
   |[]=>some (.tup [.agg [.tup [],.slc false s.size (w8 s.data.toList)],.tup [.int .i64 (s.size:Nat),.nilif]])
   |[.tup [],.slc false n cs]=>(match CW cs with
    |some l=>(match Nat.ble n 1000000&&Nat.beq l.length n with
     |true=>some (.tup [.agg [.tup [],.slc false (n+s.size) (w8 (l++s.data.toList))],.tup [.int .i64 (s.size:Nat),.nilif]])
     |false=>none)
    |none=>none)
   |_=>none)
  |false=>none)
 |_=>none
def Iw:List D→Option D
 |[.agg [.tup [],.slc false n cs]]=>(match CW cs with
  |some (x::l)=>(match Nat.beq (x::l).length n with
   |true=>some (.tup [.agg [.tup [],.junk],.str ⟨(x::l).toArray⟩])
   |false=>none)
  |_=>none)
 |_=>none
theorem Mf{ds:List D}{x:D}{l:List D}(hp:0<ds.length)(h:ds.set 0 x=l):∃y r,ds=y::r∧l=x::r:=by
 cases ds with
 |nil=>cases hp
 |cons y r=>exact⟨y,r,rfl,h.symm⟩
theorem Fp(ds cells cells':List D)(r:D)(hp:0<ds.length)(h:Iv (ds.set 0 (.agg cells))=some (.tup [.agg cells',r])):E7 Tryz.prog je 141 0 243 CM CM ds cells cells' r:=by
 obtain⟨y,rs,rfl,_⟩:=Mf (x:= .agg cells) hp rfl;rw[List.set_cons_zero] at h;unfold Iv at h;split at h
 ·rename_i cl s heq;cases heq;split at h
  ·rename_i hb;simp only[zc4] at hb;have h1:=Nat.le_of_ble_eq_true hb.1;have h2:0<s.data.toList.length:=zr hb.2;have hs:=CO s;split at h
   ·cases h;exact Ij y s (by omega) (by omega)
   ·rename_i n cs _;split at h
    ·rename_i l hl;split at h
     ·rename_i hn;cases h;simp only[zc4] at hn;have h3:=Nat.le_of_ble_eq_true hn.1;have h4:=Nat.eq_of_beq_eq_true hn.2;rw[t6 cs hl,←h4];exact Ii y s l (by omega) (by omega)
     ·cases h
    ·cases h
   ·cases h
  ·cases h
 ·cases h
theorem Fq(ds cells cells':List D)(r:D)(hp:0<ds.length)(h:Iw (ds.set 0 (.agg cells))=some (.tup [.agg cells',r])):E7 Tryz.prog je 142 0 243 CM Oz ds cells cells' r:=by
 obtain⟨y,rs,rfl,_⟩:=Mf (x:= .agg cells) hp rfl;rw[List.set_cons_zero] at h;unfold Iw at h;split at h
 ·rename_i n cs heq;cases heq;split at h
  ·rename_i x l hl;split at h
   ·rename_i hn;cases h;rw[t6 cs hl,←Nat.eq_of_beq_eq_true hn];exact Ik y (x::l) (by simp)
   ·cases h
  ·cases h
 ·cases h
def wu(P:Program)(od:Nat→Option hZ):List Nat→Bool
 |[]=>true
 |f::l=>match od f,P.funcs[f]? with
  |some o,some fn=>(match jQ P o fn with
   |true=>wu P od l
   |false=>false)
  |_,_=>wu P od l
theorem nb{P:Program}{od:Nat→Option hZ}:∀(l:List Nat),wu P od l=true→∀f∈l,∀o fn,od f=some o→P.funcs[f]?=some fn→jQ P o fn=true
 |[],_,f,hf,_,_,_,_=>by cases hf
 |g::l,h,f,hf,o,fn,ho,hfn=>by
  unfold wu at h;rcases List.mem_cons.1 hf with rfl|hf
  ·rw[ho,hfn] at h;dsimp only at h;split at h
   ·assumption
   ·cases h
  ·split at h
   ·split at h
    ·exact nb l h f hf o fn ho hfn
    ·cases h
   ·exact nb l h f hf o fn ho hfn
theorem Qd:wu Tryz.prog AR listA=true:=by kernel_rfl
theorem CX{f:FuncId}{od:hZ}(h:AR f=some od):f∈listA:=by
 unfold AR at h;split at h
 ·cases h
 ·rename_i hc;exact List.contains_iff_mem.1 hc
theorem PR:∀f od fn,AR f=some od→Tryz.prog.funcs[f]?=some fn→jQ Tryz.prog od fn=true:=fun f od fn ho hf=>nb listA Qd f (CX ho) od fn ho hf
noncomputable def Qe:Run:={P:=Tryz.prog,gl:=je,X:=XL,ord:=AR,N:=nA,K:=fun _=>false,cst:=fun _ _=>none,sq:=fun _ _=>none,M:=fun _=>none,L:=1000000,C:=fun _=>1}
noncomputable def OX:RunB:={R:=Qe,Q:=fun _=>none,Tp:=fun _=>none,B:=fun _ _=>([],[]),S:=fun _=>[],I:=fun _=>none,tb:=none,ns:=true}
theorem OY:∀k ds r,fj OX 40 false k ds=some r→bR k ds r:=fun k ds r h=>
 (yj (X:=OX) fk (fun f g hg call _ ds r hr=>G9 f g hg call ds r hr) (fun _ _ _ h=>by cases h) (fun _ _ _ h=>by cases h) (fun _ _ h=>by cases h) (fun _ _ _ h=>by cases h) PR (fun _ _ h=>by cases h) (fun _ _ _ h=>by cases h) (fun _ _ h=>by cases h) 40).1 k ds r h
noncomputable def Ha(M:FuncId→Option Mu):TE:={E:={P:=Tryz.prog,gl:=je,call:=fj OX 40 false,L:=1000,wr:=M},cst:=fun _ _=>none,C:=fun _=>1}
theorem PS{M:FuncId→Option Mu}(hM:∀k g,M k=some g→vd Tryz.prog je k g)(ho:∀k e n,M k≠some (.own e n)):EnvOK (Ha M).E:=
 ⟨pA OY,hM,fun k e n h=>absurd h (ho k e n),fun _ _ h=>by cases h⟩
noncomputable def CY(ds:List D):Option D:=match bF (Ha fun _=>none) O0 (nA 102) .own Tryz.f102 ds with
 |some (.tup [.int .u64 e,.int .u64 n,.slc false len cs])=>(match decide (e=78)&&decide (n=2) with
  |true=>some (.slc false len cs)
  |false=>none)
 |_=>none
theorem Hb:∀vs w,(callFunc 102 vs).run Tryz.prog w= .ok (.enter 102 vs) w:=enters_of Tryz.func102 (by kernel_rfl) rfl
theorem wv(ds:List D)(len:Nat)(cs:List D)(h:CY ds=some (.slc false len cs)):xu Tryz.prog je 102 78 2 ds len cs:=by
 unfold CY at h;split at h
 ·rename_i e n len0 cs0 he;split at h
  ·rename_i hb;cases h;simp only[zc4,zc7] at hb;obtain⟨rfl,rfl⟩:=hb;have hw:=AJ (Te:=Ha fun _=>none) fk (PS (fun _ _ h=>by cases h) fun _ _ _ h=>by cases h) (fun _ _ _ h=>by cases h) rfl (fun _ _ _ h=>by cases h) Tryz.func102 (ord:=O0) (N:=nA 102) (by kernel_rfl) he;intro I w vs h1 h2 h3 h4;refine(hw.2 I w vs h1 h2 h3 h4).mono ?_
   rintro en w' ⟨hbel,⟨h,_⟩|⟨e,n,len,cs,b,cap,c,h,k1,k2,k3,k4,k5,k6,k7,k8⟩⟩
   ·cases h
   ·simp only[D.tup.injEq,zc5,D.int.injEq,D.slc.injEq,true_and,and_true] at h;obtain⟨ha,hb,rfl,rfl⟩:=h;have ha:e=78:=by omega
    have hb:n=2:=by omega
    subst ha hb;exact⟨hbel,b,cap,c,k1,k2,k3,k4,k5,k6,k7,k8⟩
  ·cases h
 ·cases h
theorem Fr(ds:List D)(r:D)(h:CY ds=some r):bR 102 ds r:=by
 have:∃len cs,r= .slc false len cs:=by
  unfold CY at h;split at h
  ·split at h
   ·cases h;exact⟨_,_,rfl⟩
   ·cases h
  ·cases h
 obtain⟨len,cs,rfl⟩:=this;exact p8 Hb (wv ds len cs h)
def jY:List UInt8:=[97,110,110]
def Mg:List UInt8:=[98,101,110]
def OZ:List D:=[SB jY,.int .i64 2,.int .i64 1,SB Mg,.int .i64 1,.int .i64 (-1)]
def Ky:List D:=[SB Mg,.int .i64 1,.int .i64 (-1),SB jY,.int .i64 2,.int .i64 1]
def sE:D:= .fn (.func 162) [] []
def Kz:List D:=[SB jY,.int .i64 1,.int .i64 0]
abbrev ww:=Nat×List D×List D×List D
def wx:List ww→List D→Option D
 |[],_=>none
 |c::G,ds=>match qa (rn 8) (.slc false c.1 c.2.1::c.2.2.1) ds with
  |true=>some (.slc false c.1 c.2.2.2)
  |false=>wx G ds
theorem wy:∀{G:List ww} {ds:List D} {r:D},wx G ds=some r→∃c∈G,ds= .slc false c.1 c.2.1::c.2.2.1∧r= .slc false c.1 c.2.2.2
 |[],_,_,h=>by cases h
 |c::G,ds,r,h=>by
  unfold wx at h;split at h
  ·rename_i hb;cases h;exact⟨c,za4 ..,(kr (mq 8) _ _ hb).symm,rfl⟩
  ·obtain⟨c',h1,h2⟩:=wy h;exact⟨c',za5 _ h1,h2⟩
theorem CZ{k:FuncId}{fn:Func}{M:FuncId→Option Mu}{N:bA}{G:List ww}(hM:∀k g,M k=some g→vd Tryz.prog je k g)(ho:∀k e n,M k≠some (.own e n))(hf:Tryz.prog.funcs[k]?=some fn)(hok:jQ Tryz.prog O0 fn=true)(h0:yd fn=true)
  (hen:∀vs w,(callFunc k vs).run Tryz.prog w= .ok (.enter k vs) w) (hl:∀c∈G,0<c.1∧c.2.1.length=c.1*3) (he:∀c∈G,∀e,m5 (Ha M) O0 N e 3 fn c.1 c.2.1 c.2.2.1=bu (decide (e=e)) (some (.slc false c.1 c.2.2.2))):vd Tryz.prog je k (.tab false (wx G)):=by
 refine v7 hen fun cs len rs cs' m hg=> ?_;have hg:BF false (wx G) cs len rs=some (cs',m):=hg;unfold BF at hg;split at hg
 ·rename_i f m' cs2 hmu;obtain⟨c,hc,h1,h2⟩:=wy hmu;simp only[zc5,D.slc.injEq,true_and] at h1;obtain⟨⟨rfl,rfl⟩,rfl⟩:=h1;cases h2;cases hg;refine AK (Te:=Ha M) fk (PS hM ho) (fun _ _ _ h=>by cases h) rfl (fun _ _ _ h=>by cases h) hf (ord:=O0) (N:=N) hok h0 fun e n hn=> ?_;obtain⟨q1,q2⟩:=hl c hc;have:n=3:=Nat.eq_of_mul_eq_mul_left q1 (by omega);subst this;exact(he c hc e).trans (by simp[bu])
 ·cases hg
theorem Hc{p:ww→Prop}{a b:ww}(ha:p a)(hb:p b):∀c∈[a,b],p c:=fun c hc=>by
 rcases List.mem_cons.1 hc with rfl|hc
 ·exact ha
 ·rw[zd1.1 hc];exact hb
def Mh:List ww:=[(2,OZ,[.int .i64 0,.int .i64 2,sE],Ky),(1,Kz,[.int .i64 0,.int .i64 1,sE],Kz)]
def Fs:FuncId→Option Mu:=fun k=>match k with
 |281=>some (.tab false (wx Mh))
 |_=>none
theorem O1:∀c∈Mh,∀e,m5 (Ha fun _=>none) O0 (nA 281) e 3 Tryz.f281 c.1 c.2.1 c.2.2.1=bu (decide (e=e)) (some (.slc false c.1 c.2.2.2)):=Hc (fun e=>by kernel_rfl) fun e=>by kernel_rfl
theorem O3:∀k g,Fs k=some g→vd Tryz.prog je k g:=by
 intro k g h;unfold Fs at h;split at h
 ·cases h;exact CZ (fun _ _ h=>by cases h) (fun _ _ _ h=>by cases h) Tryz.func281 (by kernel_rfl) (by kernel_rfl) (enters_of Tryz.func281 (by kernel_rfl) rfl) (Hc ⟨by decide,rfl⟩ ⟨by decide,rfl⟩) O1
 ·cases h
def Mi:List ww:=[(2,OZ,[.int .i64 2,sE],Ky),(1,Kz,[.int .i64 1,sE],Kz)]
def Ft:FuncId→Option Mu:=fun k=>match k with
 |226=>some (.tab false (wx Mi))
 |_=>none
theorem O4:∀c∈Mi,∀e,m5 (Ha Fs) O0 (nA 226) e 3 Tryz.f226 c.1 c.2.1 c.2.2.1=bu (decide (e=e)) (some (.slc false c.1 c.2.2.2)):=Hc (fun e=>by kernel_rfl) fun e=>by kernel_rfl
theorem O5:∀k g,Ft k=some g→vd Tryz.prog je k g:=by
 intro k g h;unfold Ft at h;split at h
 ·cases h;exact CZ O3 (fun k e n h=>by unfold Fs at h;split at h<;>cases h) Tryz.func226 (by kernel_rfl) (by kernel_rfl) (enters_of Tryz.func226 (by kernel_rfl) rfl) (Hc ⟨by decide,rfl⟩ ⟨by decide,rfl⟩) O4
 ·cases h
def Mj:List ww:=[(2,OZ,[sE],Ky),(1,Kz,[sE],Kz)]
theorem O6:∀c∈Mj,∀e,m5 (Ha Ft) O0 (nA 161) e 3 Tryz.f161 c.1 c.2.1 c.2.2.1=bu (decide (e=e)) (some (.slc false c.1 c.2.2.2)):=Hc (fun e=>by kernel_rfl) fun e=>by kernel_rfl
def M0:FuncId→Option Mu:=fun k=>match k with
 |102=>some (.own 78 2)
 |161=>some (.tab false (wx Mj))
 |_=>none
theorem m0:∀k g,M0 k=some g→vd Tryz.prog je k g:=by
 intro k g h;unfold M0 at h;split at h
 ·cases h;exact v7 Hb fun _ _ _ _ _ h=>by cases h
 ·cases h;exact CZ O5 (fun k e n h=>by unfold Ft at h;split at h<;>cases h) Tryz.func161 (by kernel_rfl) (by kernel_rfl) (enters_of Tryz.func161 (by kernel_rfl) rfl) (Hc ⟨by decide,rfl⟩ ⟨by decide,rfl⟩) O6
 ·cases h
def wz:List PK:=[.cl,.cl,.cl,.cl,.cl,.cl]
def El:List PK:=wz++[.own 91 5,.cl]
def C0:List Knd:=[.any,.any,.any,.any,.any,.any,.any,.any]
def O7:List Knd:=[.any,.any,.any,.any,.any,.any]
def Q0:FuncId→Option (Nat×TypeId×List PK×List PK):=fun k=>match k with
 |127=>some (0,209,El,El)
 |53=>some (0,223,El,El)
 |135=>some (0,223,El,El)
 |55=>some (0,223,El,El)
 |56=>some (0,223,El,El)
 |141=>some (0,243,CM,CM)
 |142=>some (0,243,CM,Oz)
 |169=>some (0,28,wz,wz)
 |171=>some (0,28,wz,wz)
 |172=>some (0,28,wz,wz)
 |174=>some (0,28,wz,wz)
 |175=>some (0,28,wz,wz)
 |176=>some (0,28,wz,wz)
 |234=>some (0,28,wz,wz)
 |235=>some (0,28,wz,wz)
 |_=>none
def Bs:FuncId→FuncId→List Knd×List Nat:=fun f k=>match k with
 |127=>(C0,[match f with|122=>0|53=>2|_=>1])
 |53=>(C0,[20])
 |56=>(C0,[20])
 |135=>(C0,[2])
 |55=>(C0,[1])
 |141=>([.any,.any],[5])
 |142=>([.any,.any],[])
 |_=>(O7,[])
def S0:FuncId→List Nat:=fun k=>match k with
 |127=>[1]
 |53=>[2]
 |135=>[3]
 |55=>[1]
 |56=>[1]
 |_=>[]
def PF(k:FuncId)(args:List D)(r:D):Prop:=∀q,Q0 k=some q→∀ds cells cells' x,q.1<ds.length→args=ds.set q.1 (.agg cells)→r= .tup [.agg cells',x]→E7 Tryz.prog je k q.1 q.2.1 q.2.2.1 q.2.2.2 ds cells cells' x
def O8(tp:List lF):FuncId→Option (List D→Option D):=fun k=>match k with
 |141=>some Iv
 |142=>some Iw
 |k=>(match tp.any fun e=>decide (e.1=k) with
  |true=>some (wq tp k)
  |false=>none)
noncomputable def X1(l:List lF):Ov:=fun k=>match decide (k=102) with
 |true=>some fun _=>CY
 |false=>(match l.any fun e=>decide (e.1=k) with
  |true=>some (fun _=>wq l k)
  |false=>XL k)
def PT:List D:=[.nils,.nils,.nils,.nils,.nils,.nils,.nils,.nils]
def Pa:FuncId→Option Inl:=fun k=>match k with
 |78=>some (K4 165 PT)
 |_=>none
abbrev wA:=FuncId×List D×List (List D)
def C2:List wA→FuncId→List D→Option (List (List D))
 |[],_,_=>none
 |e::l,k,ds=>match decide (e.1=k) with
  |true=>(match qa (rn 8) e.2.1 ds with
   |true=>some e.2.2
   |false=>C2 l k ds)
  |false=>C2 l k ds
noncomputable def BU(l tp:List lF)(sq:List wA):RunB:={R:={P:=Tryz.prog,gl:=je,X:=X1 l,ord:=AR,N:=nA,K:=fun k=>decide (k=102),cst:=fun _ _=>none,sq:=C2 sq,M:=M0,L:=1000000,C:=fun _=>1},Q:=Q0,Tp:=O8 tp,B:=Bs,S:=S0,I:=Pa,tb:=some 243,ns:=true}
theorem qc:∀{l:List lF} {k:FuncId} {ds:List D} {r:D},wq l k ds=some r→(k,ds,r)∈l
 |[],_,_,_,h=>by cases h
 |e::l,k,ds,r,h=>by
  simp only[wq] at h;split at h
  ·rename_i hk;simp only[zc7] at hk;split at h
   ·rename_i hd;cases h;have hd:=kr (mq 8) _ _ hd;subst hk hd;exact za4 ..
   ·exact za5 _ (qc h)
  ·exact za5 _ (qc h)
theorem zy:∀{l:List wA},(∀e∈l,SeqOK Tryz.prog je e.1 e.2.1 e.2.2)→∀g cs ys,C2 l g cs=some ys→SeqOK Tryz.prog je g cs ys
 |[],_=>fun _ _ _ h=>by cases h
 |e::l,hl=>fun k ds r h=>by
  have ih:=zy fun e he=>hl e (za5 _ he);simp only[C2] at h;split at h
  ·rename_i hk;simp only[zc7] at hk;split at h
   ·rename_i hd;cases h;rw[←hk,←kr (mq 8) _ _ hd];exact hl e (za4 ..)
   ·exact ih k ds r h
  ·exact ih k ds r h
theorem Mk:K3 Tryz.prog 78 PT:=by
 intro w
 go_enter Tryz.func78,Tryz.ntmps78
 go_wp2
 go_ret
 refine⟨_,_,rfl,rfl,rfl,fun j d v hd hv=> ?_⟩
 match j,hd,hv with
 |0,hd,hv=>cases hd;cases hv;rfl
 |1,hd,hv=>cases hd;cases hv;rfl
 |2,hd,hv=>cases hd;cases hv;rfl
 |3,hd,hv=>cases hd;cases hv;rfl
 |4,hd,hv=>cases hd;cases hv;rfl
 |5,hd,hv=>cases hd;cases hv;rfl
 |6,hd,hv=>cases hd;cases hv;rfl
 |7,hd,hv=>cases hd;cases hv;rfl
 |j+8,hd,_=>cases hd
theorem Pb:∀vs w,(callFunc 78 vs).run Tryz.prog w= .ok (.enter 78 vs) w:=enters_of Tryz.func78 (by kernel_rfl) rfl
theorem Ml{l tp:List lF}{sq:List wA}(hl:∀e∈l,bR e.1 e.2.1 e.2.2)(ht:∀e∈tp,PF e.1 e.2.1 e.2.2)(hs:∀e∈sq,SeqOK Tryz.prog je e.1 e.2.1 e.2.2)(n:Nat):
  (∀(f:FuncId) (ds:List D) (r:D),fj (BU l tp sq) n false f ds=some r→bR f ds r)∧
  (∀(f:FuncId) (q:Nat×TypeId×List PK×List PK),Q0 f=some q→∀(ds cells cells':List D) (r:D),q.1<ds.length→fj (BU l tp sq) n true f (ds.set q.1 (.agg cells))=some (.tup [.agg cells',r])→E7 Tryz.prog je f q.1 q.2.1 q.2.2.1 q.2.2.2 ds cells cells' r):=by
 refine yj (X:=BU l tp sq) fk (fun f g hg call _ ds r hr=> ?_) (fun _ _ _ h=>by cases h) (zy hs) m0 (fun k e n h=> ?_) PR (fun k q hq=> ?_) (fun k g q hg hq ds cells cells' r hp h=> ?_) (fun k i hi=> ?_) n
 ·have hg:X1 l f=some g:=hg;unfold X1 at hg;split at hg
  ·rename_i hk;cases hg;have hk:=of_decide_eq_true hk;subst hk;exact Fr ds r hr
  ·split at hg
   ·cases hg;exact zq hl f ds r hr
   ·exact G9 f g hg call ds r hr
 ·have h:M0 k=some (.own e n):=h;unfold M0 at h;split at h
  ·cases h;exact⟨rfl,fun _=>rfl,_,rfl,fun call ds len cs hg=>wv ds len cs hg⟩
  ·cases h
  ·cases h
 ·have hq:Q0 k=some q:=hq;unfold Q0 at hq;split at hq
  ·exact enters_of Tryz.func127 (by kernel_rfl) rfl
  ·exact enters_of Tryz.func53 (by kernel_rfl) rfl
  ·exact enters_of Tryz.func135 (by kernel_rfl) rfl
  ·exact enters_of Tryz.func55 (by kernel_rfl) rfl
  ·exact enters_of Tryz.func56 (by kernel_rfl) rfl
  ·exact enters_of Tryz.func141 (by kernel_rfl) rfl
  ·exact enters_of Tryz.func142 (by kernel_rfl) rfl
  ·exact enters_of Tryz.func169 (by kernel_rfl) rfl
  ·exact enters_of Tryz.func171 (by kernel_rfl) rfl
  ·exact enters_of Tryz.func172 (by kernel_rfl) rfl
  ·exact enters_of Tryz.func174 (by kernel_rfl) rfl
  ·exact enters_of Tryz.func175 (by kernel_rfl) rfl
  ·exact enters_of Tryz.func176 (by kernel_rfl) rfl
  ·exact enters_of Tryz.func234 (by kernel_rfl) rfl
  ·exact enters_of Tryz.func235 (by kernel_rfl) rfl
  ·cases hq
 ·have hg:O8 tp k=some g:=hg;have hq:Q0 k=some q:=hq;unfold O8 at hg;split at hg
  ·cases hg;cases hq;exact Fp ds cells cells' r hp h
  ·cases hg;cases hq;exact Fq ds cells cells' r hp h
  ·split at hg
   ·cases hg;exact ht _ (qc h) q hq ds cells cells' r hp rfl rfl
   ·cases hg
 ·have hi:Pa k=some i:=hi;unfold Pa at hi;split at hi
  ·cases hi;exact E9 Pb Mk
  ·cases hi
theorem AV{l tp:List lF}{sq:List wA}(hl:∀e∈l,bR e.1 e.2.1 e.2.2)(ht:∀e∈tp,PF e.1 e.2.1 e.2.2)(hs:∀e∈sq,SeqOK Tryz.prog je e.1 e.2.1 e.2.2){k:FuncId}{ds:List D}{r:D}(h:fj (BU l tp sq) 60 false k ds=some r):bR k ds r:=(Ml hl ht hs 60).1 k ds r h
theorem jx{l tp:List lF}{sq:List wA}(hl:∀e∈l,bR e.1 e.2.1 e.2.2)(ht:∀e∈tp,PF e.1 e.2.1 e.2.2)(hs:∀e∈sq,SeqOK Tryz.prog je e.1 e.2.1 e.2.2){k:FuncId}{args:List D}{r:D}(h:fj (BU l tp sq) 60 true k args=some r):PF k args r:=by
 intro q hq ds cells cells' x hp ha hr;subst ha hr;exact(Ml hl ht hs 60).2 k q hq ds cells cells' x hp h
theorem kO:∀e∈([]:List lF),bR e.1 e.2.1 e.2.2:=fun _ h=>by cases h
theorem oG:∀e∈([]:List lF),PF e.1 e.2.1 e.2.2:=fun _ h=>by cases h
theorem qd:∀e∈([]:List wA),SeqOK Tryz.prog je e.1 e.2.1 e.2.2:=fun _ h=>by cases h
theorem dE{k:FuncId}{ds:List D}{r:D}(h:fj (BU [] [] []) 60 false k ds=some r):bR k ds r:=AV kO oG qd h
theorem fp{l:List lF}(hl:∀e∈l,bR e.1 e.2.1 e.2.2){k:FuncId}{ds:List D}{r:D}(h:fj (BU l [] []) 60 false k ds=some r):bR k ds r:=AV hl oG qd h
theorem bK{e:lF}{l:List lF}(h:bR e.1 e.2.1 e.2.2)(hl:∀e∈l,bR e.1 e.2.1 e.2.2):∀x∈e::l,bR x.1 x.2.1 x.2.2:=fun x hx=>by
 rcases List.mem_cons.1 hx with rfl|hx
 ·exact h
 ·exact hl x hx
theorem dF{e:lF}{l:List lF}(h:PF e.1 e.2.1 e.2.2)(hl:∀e∈l,PF e.1 e.2.1 e.2.2):∀x∈e::l,PF x.1 x.2.1 x.2.2:=fun x hx=>by
 rcases List.mem_cons.1 hx with rfl|hx
 ·exact h
 ·exact hl x hx
def fb:Nat→List UInt8
 |1=>[99,108,117,98,32,108,105,110,107,115]
 |2=>[109,101,109,98,101,114,32,97,110,110,32,108,105,110,107,115,32,48]
 |3=>[109,101,109,98,101,114,32,98,101,110,32,108,105,110,107,115,32,50]
 |4=>[104,111,108,101,115,32,52,58,50,32,51,58,49]
 |5=>[109,97,114,107,32,97,110,110,32,98,101,110,32,49,32,53]
 |6=>[99,108,97,105,109,32,97,110,110,32,49,32,53]
 |7=>[109,97,114,107,32,97,110,110,32,98,101,110,32,50,32,51]
 |8=>[109,97,114,107,32,98,101,110,32,97,110,110,32,49,32,52]
 |_=>[]
def PU:Nat→List D
 |1=>[.int .i64 1,SB [99,108,117,98],.slc false 1 [SB [108,105,110,107,115]],.slc true 0 [],SB []]
 |2=>[.int .i64 2,SB [109,101,109,98,101,114],.slc false 2 [SB [97,110,110],SB [108,105,110,107,115]],.slc true 0 [],SB [48]]
 |3=>[.int .i64 3,SB [109,101,109,98,101,114],.slc false 2 [SB [98,101,110],SB [108,105,110,107,115]],.slc true 0 [],SB [50]]
 |4=>[.int .i64 4,SB [104,111,108,101,115],.slc true 0 [],.slc true 0 [],SB [52,58,50,32,51,58,49]]
 |5=>[.int .i64 5,SB [109,97,114,107],.slc false 2 [SB [97,110,110],SB [98,101,110]],.slc false 1 [.int .i64 1],SB [53]]
 |6=>[.int .i64 6,SB [99,108,97,105,109],.slc false 1 [SB [97,110,110]],.slc false 1 [.int .i64 1],SB [53]]
 |7=>[.int .i64 7,SB [109,97,114,107],.slc false 2 [SB [97,110,110],SB [98,101,110]],.slc false 1 [.int .i64 2],SB [51]]
 |8=>[.int .i64 8,SB [109,97,114,107],.slc false 2 [SB [98,101,110],SB [97,110,110]],.slc false 1 [.int .i64 1],SB [52]]
 |_=>[]
def cF(k:Nat):D:= .agg (PU k)
def Mm:Nat→List D
 |0=>[]
 |k+1=>Mm k++PU (k+1)
def mkC:List D:=[SB [97,110,110],SB [98,101,110],.int .i64 1,.int .i64 5,SB [],SB [97,110,110],SB [97,110,110],.int .i64 1,.int .i64 5,SB [],SB [97,110,110],SB [98,101,110],.int .i64 2,.int .i64 3,SB [],SB [98,101,110],SB [97,110,110],.int .i64 1,.int .i64 4,SB []]
def mbC:List D:=[SB [97,110,110],SB [108,105,110,107,115],.int .i64 0,SB [98,101,110],SB [108,105,110,107,115],.int .i64 2]
def uC(k:Nat):List D:=[match k with|0=> .nils|_=> .slc false 1 [SB [108,105,110,107,115]],match k with|0=> .nils|1=> .nils|2=> .slc false 1 (mbC.take 3)|_=> .slc false 2 mbC,match k with|0=> .nils|1=> .nils|2=> .nils|3=> .nils|_=> .slc false 2 [.int .i64 4,.int .i64 2,.int .i64 3,.int .i64 1],
 match Nat.sub k 4 with|0=> .nils|m=> .slc false m (mkC.take (5*m)),.nils,.nils]
def PV:Nat→List D
 |0=>[]
 |k+1=>PV k++(uC k).map canon0
def hC(k:Nat):List D:=uC k++[match k with|0=> .nils|k=> .slc false k (Mm k),match k with|0=> .nils|k=> .slc false k (PV k)]
def hD(k:Nat):D:= .agg (hC k)
def uD:D:= .agg ((uC 8).map canon0)
def Mn:D:= .slc true 8 [SB (fb 1),SB (fb 2),SB (fb 3),SB (fb 4),SB (fb 5),SB (fb 6),SB (fb 7),SB (fb 8)]
def C3:D:= .slc false 8 (Mm 8)
def bq:Nat→Int
 |1=>3025347
 |2=>7649311
 |3=>11553383
 |4=>1217935
 |5=>3380265
 |6=>9444044
 |7=>12176769
 |8=>6273512
 |_=>0
def jZ:Nat→List UInt8
 |1=>[49,32,99,108,117,98,32,108,105,110,107,115]
 |2=>[50,32,109,101,109,98,101,114,32,97,110,110,32,108,105,110,107,115,32,48]
 |3=>[51,32,109,101,109,98,101,114,32,98,101,110,32,108,105,110,107,115,32,50]
 |4=>[52,32,104,111,108,101,115,32,52,58,50,32,51,58,49]
 |5=>[53,32,109,97,114,107,32,97,110,110,32,98,101,110,32,49,32,53]
 |6=>[54,32,99,108,97,105,109,32,97,110,110,32,49,32,53]
 |7=>[55,32,109,97,114,107,32,97,110,110,32,98,101,110,32,50,32,51]
 |8=>[56,32,109,97,114,107,32,98,101,110,32,97,110,110,32,49,32,52]
 |_=>[]
def j0:Nat→List UInt8
 |1=>[50,101,50,57,99,51]
 |2=>[55,52,98,56,49,102]
 |3=>[98,48,52,97,54,55]
 |4=>[49,50,57,53,56,102]
 |5=>[51,51,57,52,50,57]
 |6=>[57,48,49,97,99,99]
 |7=>[98,57,99,100,56,49]
 |8=>[53,102,98,57,101,56]
 |_=>[]
def kP(k:Nat):List UInt8:=jZ k++[35]++j0 k
def Fv:Nat→List UInt8
 |0=>[]
 |k+1=>Fv k++kP (k+1)++[10]
def C4:List UInt8:=Fv 8++[57]
def nI(n:Int):D:= .int .i64 n
def kQ(d:D):D:= .tup [d,nI 0]
def fD:D:= .agg [.slc true 2 [SB [100],nI 1,SB [97,110,110],nI 1,nI 4,SB [],SB [100],nI 3,SB [97,110,110],nI 2,nI 3,SB []]]
end Go.Pd
end
