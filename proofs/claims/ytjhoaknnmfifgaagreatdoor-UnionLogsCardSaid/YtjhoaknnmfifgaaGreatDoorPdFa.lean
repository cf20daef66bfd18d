import Derived.CallsIn
import Derived.OrdersIn
import Derived.Below
import Derived.OwnWalkIn
import Derived.Deep.AppendLies
section
namespace Go.Pd
abbrev za0:=@Option.some.injEq
abbrev za1:=@decide_eq_true
abbrev za2:=@decide_eq_false
abbrev za3:=@Int.toNat_natCast
abbrev za4:=@List.mem_cons_self
abbrev za5:=@List.mem_cons_of_mem
abbrev za6:=@List.length_append
abbrev za7:=@List.length_cons
abbrev za8:=@List.append_assoc
abbrev za9:=@List.mem_append
abbrev zb0:=@Nat.le_refl
abbrev zb1:=@Nat.le_trans
abbrev zb2:=@Nat.lt_of_lt_of_le
abbrev zb3:=@Prod.mk.injEq
abbrev zb4:=@List.length_singleton
abbrev zb5:=@List.length_nil
abbrev zb6:=@List.append_nil
abbrev zb7:=@List.nil_append
abbrev zb8:=@List.getElem?_append_right
abbrev zb9:=@List.getElem?_append_left
abbrev zc0:=@Array.getElem?_eq_some_iff
abbrev zc1:=@List.getElem?_eq_some_iff
abbrev zc2:=@List.length_map
abbrev zc3:=@List.getElem?_map
abbrev zc4:=@Bool.and_eq_true
abbrev zc5:=@List.cons.injEq
abbrev zc6:=@Bool.not_eq_true
abbrev zc7:=@decide_eq_true_eq
abbrev zc8:=@Nat.lt_irrefl
abbrev zc9:=@Bool.or_eq_false_iff
abbrev zd0:=@Array.getElem?_eq_none
abbrev zd1:=@List.mem_singleton
abbrev zd2:=@List.getElem?_eq_getElem
abbrev zd3:=@List.getElem?_eq_none
abbrev zd4:=@Option.map_eq_some_iff
abbrev zd5:=@List.flatMap_append
abbrev zd6:=@List.mem_map
abbrev zd7:=@List.all_eq_true
abbrev zd8:=@List.any_eq_false
abbrev zd9:=@Nat.mod_lt
abbrev ze0:=@Nat.add_assoc
abbrev ze1:=@List.length_drop
abbrev ze2:=@List.length_take
abbrev ze3:=@beq_self_eq_true
abbrev ze4:=@beq_iff_eq
abbrev ze5:=@bne_iff_ne
inductive D where
 |bool (b:Bool)
 |int (k:IntKind) (n:Int)
 |str (s:ByteArray)
 |nilp
 |nils
 |mnil
 |nilf
 |nilif
 |snap (cells:List D) (off:Nat)
 |slc (full:Bool) (len:Nat) (cells:List D)
 |msnap (ks vs:List D)
 |fn (f:Fn) (first caps:List D)
 |ifc (t:TypeId) (d:D)
 |agg (cs:List D)
 |tup (ds:List D)
 |loc (s g off:Nat)
 |own (s g len:Nat)
 |win (s g off len n:Nat)
 |mloc (s g:Nat)
 |junk
 |osl (nil:Bool) (len:Nat) (cells:List D)
 deriving Inhabited
inductive Ob where
 |box (cs:List D) (fz:Bool)
 |arr (e:TypeId) (size:Nat) (cs:List D) (fz:Bool)
 |map (ks vs:List D) (fz:Bool)
 |sit (s:ByteArray) (pos:Nat)
 |nst (e er:TypeId) (nr:Nat) (cs:List D)
 |raw (c:Array Value) (e:TypeId)
 |mrf (ks vs:List D) (fz:Bool)
 deriving Inhabited
def Ob.isNst:Ob→Bool
 | .nst _ _ _ _=>true
 |_=>false
def Ob.fzb:Ob→Bool
 | .nst _ _ _ _=>false
 | .sit _ _=>false
 | .raw _ _=>false
 |_=>true
structure St where
 T:List D
 H:List (Nat×Option Ob)
inductive Knd where
 |int (k:IntKind)
 |bool
 |str
 |slc
 |map
 |any
 |nil
 |osl
 |ifc
inductive Tree where
 |fail
 |leaf (r:Option D)
 |ite (b:Bool) (t e:Tree)
 |chk (b:Bool) (t:Tree)
 |opt (o:Option D) (k:D→Tree)
 |int (k:IntKind) (d:D) (c:Int→Tree)
 |bool (d:D) (c:Bool→Tree)
 |str (d:D) (c:ByteArray→Tree)
 |slc (d:D) (c:Bool→Nat→List D→Tree)
 |map (d:D) (c:List D→List D→Tree)
 |agg (d:D) (n:Nat) (c:List D→Tree)
 |tup (d:D) (n:Nat) (c:List D→Tree)
 |cell (cs:List D) (i:Nat) (c:D→Tree)
 |find (o:Option (Option Nat)) (e:Tree) (c:Nat→Tree)
 |upd (o:Option (List D×List D)) (c:List D→List D→Tree)
 |stop (tag:Nat) (σ:St) (t:Tree)
 |emit (ds:List D) (k:Bool→Tree)
 |seq (o:Option (List (List D))) (k:List (List D)→Tree)
 |nil (d:D) (t:Tree) (c:Bool→Nat→List D→Tree)
 |osl (d:D) (c:Bool→Nat→List D→Tree)
def bo{α:Type}(b:Bool)(t e:α):α:=match b with
 |true=>t
 |false=>e
def bu{α:Type}(b:Bool)(t:Option α):Option α:=match b with
 |true=>t
 |false=>none
def bn{α β:Type}(o:Option α)(c:α→Option β):Option β:=match o with
 |some x=>c x
 |none=>none
def bw{α:Type}(k:IntKind)(d:D)(c:Int→Option α):Option α:=match d with
 | .int k' n=>if k'=k then c n else none
 |_=>none
def bM{α:Type}(d:D)(c:Bool→Option α):Option α:=match d with
 | .bool b=>c b
 |_=>none
def bH{α:Type}(d:D)(c:ByteArray→Option α):Option α:=match d with
 | .str b=>c b
 |_=>none
def cP{α:Type}(d:D)(c:Bool→Nat→List D→Option α):Option α:=match d with
 | .slc f n cs=>c f n cs
 |_=>none
def HJ{α:Type}(d:D)(t:Option α)(c:Bool→Nat→List D→Option α):Option α:=match d with
 | .nils=>t
 | .slc f n cs=>c f n cs
 |_=>none
def HL{α:Type}(d:D)(c:Bool→Nat→List D→Option α):Option α:=match d with
 | .osl b n cs=>c b n cs
 |_=>none
def HM{α:Type}(d:D)(c:List D→List D→Option α):Option α:=match d with
 | .msnap ks vs=>c ks vs
 |_=>none
def fK{α:Type}(d:D)(n:Nat)(c:List D→Option α):Option α:=match d with
 | .agg cs=>if cs.length=n then c cs else none
 |_=>none
def cJ{α:Type}(d:D)(n:Nat)(c:List D→Option α):Option α:=match d with
 | .tup cs=>if cs.length=n then c cs else none
 |_=>none
def bc{α:Type}(cs:List D)(i:Nat)(c:D→Option α):Option α:=match cs[i]? with
 |some d=>c d
 |none=>none
def BE{α:Type}(o:Option (Option Nat))(e:Option α)(c:Nat→Option α):Option α:=match o with
 |some (some i)=>c i
 |some none=>e
 |none=>none
def HN{α:Type}(o:Option (List D×List D))(c:List D→List D→Option α):Option α:=match o with
 |some (ks,vs)=>c ks vs
 |none=>none
noncomputable def bv{α:Type}(lf:Option D→Option α)(ef:List D→(Bool→Option α)→Option α)(t:Tree):Option α:=
 Tree.rec (motive:=fun _=>Option α) none (fun r=>lf r) (fun b _ _ t e=>bo b t e) (fun b _ t=>bu b t) (fun o _ c=>bn o c) (fun k d _ c=>bw k d c) (fun d _ c=>bM d c) (fun d _ c=>bH d c) (fun d _ c=>cP d c)
  (fun d _ c=>HM d c) (fun d n _ c=>fK d n c) (fun d n _ c=>cJ d n c) (fun cs i _ c=>bc cs i c) (fun o _ _ e c=>BE o e c) (fun o _ c=>HN o c) (fun _ _ _ t=>t) (fun ds _ c=>ef ds c) (fun o _ c=>bn o c) (fun d _ _ t c=>HJ d t c) (fun d _ c=>HL d c) t
noncomputable def run(t:Tree):Option D:=bv (fun r=>r) (fun _ _=>none) t
def fP(ds:List D)(t f:Option (List (List D))):Option (List (List D)):=match f with
 |some []=>(match t with
  |some ys=>some (ds::ys)
  |none=>none)
 |_=>none
def KE(r:Option D):Option (List (List D)):=match r with
 |some _=>some []
 |none=>none
noncomputable def jv(t:Tree):Option (List (List D)):=bv KE (fun ds c=>fP ds (c true) (c false)) t
abbrev lM:=List D→Nat→List D→Option (List D×Option Nat)
def BF(t:Bool)(g:List D→Option D):lM:=fun cs len rest=>match g (.slc false len cs::rest) with
 |some (.slc _ m cs')=>some (cs',match t with|true=>some m|false=>none)
 |_=>none
inductive Mu where
 |fn (g:lM)
 |tab (t:Bool) (g:List D→Option D)
 |own (e:TypeId) (n:Nat)
 |plc (p:Nat) (g:List D→Option D)
 |plw (p:Nat) (g:List D→Option D)
def Mu.f:Mu→lM
 | .fn g=>g
 | .tab t g=>BF t g
 | .own _ _=>fun _ _ _=>none
 | .plc _ _=>fun _ _ _=>none
 | .plw _ _=>fun _ _ _=>none
structure Inl where
 g:List (Nat×Option Ob)→List D→Option (D×List (Nat×Option Ob))
 t:List (Nat×Option Ob)→List D→(D→List (Nat×Option Ob)→Tree)→Tree
structure Env where
 P:Program
 gl:Nat→Option D
 call:FuncId→List D→Option D
 L:Nat
 wr:FuncId→Option Mu:=fun _=>none
 spl:FuncId→Bool:=fun _=>false
 osl:Bool:=false
 nst:Bool:=false
 inl:FuncId→Option Inl:=fun _=>none
 tb:Option TypeId:=none
def Env.still(E:Env):Env:={E with wr:=fun _=>none,nst:=false,inl:=fun _=>none}
def Env.stillF(E:Env)(fs:List (Nat×Nat)):Env:={E with nst:=false,inl:=fun _=>none,wr:=fun k=>match fs,E.wr k with
 |_::_,some (.own e n)=>some (.own e n)
 |_,_=>none}
def cZ{α β:Type}(f:α→Option β):List α→Option (List β)
 |[]=>some []
 |x::xs=>match f x with
  |none=>none
  |some y=>match cZ f xs with
   |none=>none
   |some ys=>some (y::ys)
def D.flat?:D→Option Value
 | .bool b=>some (.bool b)
 | .int k n=>some (.int k n)
 | .str s=>some (.string s)
 | .nilp=>some (.pointer none)
 | .nils=>some (.slice none 0 0)
 | .mnil=>some (.map none)
 | .nilf=>some .nilFunc
 | .nilif=>some .nilIface
 | .fn f [] []=>some (.func f #[] #[])
 |_=>none
def D.toV1:D→Option Value
 | .agg cs=>match cZ D.flat? cs with
  |some vs=>some (.agg vs.toArray)
  |none=>none
 |d=>d.flat?
def D.toV:D→Option Value
 | .tup ds=>match cZ D.toV1 ds with
  |some vs=>some (.tuple vs.toArray)
  |none=>none
 |d=>d.toV1
def D.plain(d:D):Bool:=d.toV.isSome
def D.toVZ:D→Option Value
 | .osl true 0 []=>some (.slice none 0 0)
 |d=>d.toV
def D.plainZ(d:D):Bool:=d.toVZ.isSome
def Bz:Bool→D→Bool
 |false=>D.plain
 |true=>D.plainZ
def Ai:Value→Option D
 | .bool b=>some (.bool b)
 | .int k n=>some (.int k n)
 | .string s=>some (.str s)
 | .pointer none=>some .nilp
 | .slice none 0 0=>some .nils
 | .map none=>some .mnil
 | .nilFunc=>some .nilf
 | .nilIface=>some .nilif
 | .func f a b=>match a.toList,b.toList with
  |[],[]=>some (.fn f [] [])
  |_,_=>none
 |_=>none
def Aj:Value→Option D
 | .agg cs=>match cZ Ai cs.toList with
  |some ds=>some (.agg ds)
  |none=>none
 |v=>Ai v
def BA:Value→Option D
 | .tuple vs=>match cZ Aj vs.toList with
  |some ds=>some (.tup ds)
  |none=>none
 |v=>Aj v
def D.cells:D→List D
 | .agg cs=>cs
 |d=>[d]
def D.one:D→Bool
 | .agg _| .tup _| .junk=>false
 |_=>true
def D.nj:D→Bool
 | .junk=>false
 |_=>true
def cb{α:Type}(P:Program):Sem α→Option α
 | .pure a=>some a
 | .program k=>cb P (k P)
 | .mark _ k=>cb P k
 |_=>none
def sz(P:Program)(t:TypeId):Option Nat:=match P.info? t with
 |some i=>some i.size
 |none=>none
def Ak(P:Program)(t:TypeId):Option Nat:=match P.info? t with
 |some i=>some i.bytes
 |none=>none
def ia(P:Program)(t:TypeId):Option D:=match P.info? t with
 |some i=>match i.zero with
  |some v=>BA v
  |none=>none
 |none=>none
def c5(P:Program)(t:TypeId):Option Bool:=match P.underlying t with
 |some (.struct _)=>some true
 |some (.array _ _)=>some true
 |some _=>some false
 |none=>none
def fx(P:Program)(t:TypeId):Option TypeId:=match P.underlying t with
 |some (.slice e)=>some e
 |_=>none
def lN(P:Program)(t:TypeId):Option (Array Field):=match P.underlying t with
 |some (.struct fs)=>some fs
 |_=>none
def bi(H:List (Nat×Option Ob))(s g:Nat):Option Ob:=match H[s]? with
 |some (n,some o)=>if n=g+1 then some o else none
 |_=>none
def bl(H:List (Nat×Option Ob))(s:Nat):Nat:=match H[s]? with
 |some (n,_)=>n
 |none=>0
def St.put(σ:St)(dst:Option Tmp)(d:D):St:=match dst with
 |some t=>{σ with T:=σ.T.set t d}
 |none=>σ
def St.setOb(σ:St)(s:Nat)(o:Option Ob):St:={σ with H:=σ.H.set s (bl σ.H s,o)}
def St.newOb(σ:St)(s:Nat)(o:Ob):St:={σ with H:=σ.H.set s (bl σ.H s+1,some o)}
def St.grow(σ:St):St:=⟨σ.T,σ.H++[(0,none)]⟩
def Ob.freeze:Ob→Ob
 | .box cs _=> .box cs true
 | .arr e n cs _=> .arr e n cs true
 | .map ks vs _=> .map ks vs true
 | .mrf ks vs _=> .mrf ks vs true
 |o=>o
def HO:Option (Nat×Option Ob)→Option Ob
 |some (_,some o)=>some o.freeze
 |_=>none
def br(H:List (Nat×Option Ob)):List Nat→List (Nat×Option Ob)
 |[]=>H
 |s::ss=>br (H.set s (bl H s,HO H[s]?)) ss
def St.freeze(σ:St)(ss:List Nat):St:={σ with H:=br σ.H ss}
def St.val(E:Env)(σ:St):Operand→Option D
 | .tmp t=>σ.T[t]?
 | .const v=>BA v
 | .global g=>E.gl g
 | .func f=>some (.fn (.func f) [] [])
def cA(f:D→Option (D×List Nat)):List D→Option (List D×List Nat)
 |[]=>some ([],[])
 |d::ds=>match f d with
  |none=>none
  |some (d',ss)=>match cA f ds with
   |none=>none
   |some (ds',ss')=>some (d'::ds',ss++ss')
def bJ(H:List (Nat×Option Ob)):Nat→D→Option (D×List Nat)
 |0,_=>none
 |n+1,d=>match d with
  | .loc s g off=>match bi H s g with
   |some (.box cs _)=>match cA (bJ H n) cs with
    |some (cs',ss)=>some (.snap cs' off,s::ss)
    |none=>none
   |some (.arr _ _ cs _)=>some (.snap cs off,[s])
   |_=>none
  | .own s g len=>match bi H s g with
   |some (.arr _ _ cs _)=>some (.slc false len cs,[s])
   |_=>none
  | .win s g off len _=>match bi H s g with
   |some (.arr _ n cs _)=>some (.slc false len ((cs.drop off).take (len*n)),[s])
   |_=>none
  | .mloc s g=>match bi H s g with
   |some (.map ks vs _)=>some (.msnap ks vs,[s])
   |some (.mrf ks vs _)=>match cA (bJ H n) vs with
    |some (vs',ss)=>some (.msnap ks vs',s::ss)
    |none=>none
   |_=>none
  | .agg cs=>match cA (bJ H n) cs with
   |some (cs',ss)=>some (.agg cs',ss)
   |none=>none
  | .tup cs=>match cA (bJ H n) cs with
   |some (cs',ss)=>some (.tup cs',ss)
   |none=>none
  | .fn f a b=>match cA (bJ H n) a with
   |some (a',ss)=>match cA (bJ H n) b with
    |some (b',ss')=>some (.fn f a' b',ss++ss')
    |none=>none
   |none=>none
  | .ifc t x=>match bJ H n x with
   |some (x',ss)=>some (.ifc t x',ss)
   |none=>none
  |d=>some (d,[])
def depth:Nat:=8
inductive PK where
 |cl
 |own (e:TypeId) (n:Nat)
 |slf
def GT(H:List (Nat×Option Ob))(s g:Nat):PK→D→Option (D×List Nat×List Nat)
 | .cl,d=>(match bJ H depth d with
  |some p=>some (p.1,[],p.2)
  |none=>none)
 | .own e n,.own q g' len=>(match bi H q g' with
  |some (.arr e' n' cs false)=>if e'=e∧n'=n then some (.slc false len cs,[q],[]) else none
  |_=>none)
 | .own _ _,.nils=>some (.nils,[],[])
 | .slf,.nilp=>some (.nilp,[],[])
 | .slf,.loc s' g' 0=>if s'=s∧g'=g then some (.tup [],[],[]) else none
 |_,_=>none
def uG(H:List (Nat×Option Ob))(s g:Nat):List PK→List D→Option (List D×List Nat×List Nat)
 |[],[]=>some ([],[],[])
 |k::ks,d::ds=>(match GT H s g k d with
  |some p=>(match uG H s g ks ds with
   |some q=>some (p.1::q.1,p.2.1++q.2.1,p.2.2++q.2.2)
   |none=>none)
  |none=>none)
 |_,_=>none
def c6(H:List (Nat×Option Ob)):List Nat→List (Nat×Option Ob)
 |[]=>H
 |s::ss=>c6 (H.set s (bl H s,none)) ss
def gh(E:Env)(σ:St)(x:Operand):Value:=match σ.val E x with
 |some d=>match d.toV with
  |some v=>v
  |none=>undef
 |none=>undef
def dS(E:Env)(σ:St)(x:Operand):Bool:=match σ.val E x with
 |some d=>d.plain
 |none=>false
def dD(E:Env)(σ:St)(o:Oper):Option D:=match o.op with
 | .select _ _=>none
 |_=>if o.op.operands.all (dS E σ) then
   match cb E.P (execOp (gh E σ) o) with
   |some (.value v)=>BA v
   |_=>none
  else none
def fq(H:List (Nat×Option Ob)):D→Option (List D×Nat)
 | .loc s g off=>match bi H s g with
  |some (.box cs _)=>some (cs,off)
  |some (.arr _ _ cs _)=>some (cs,off)
  |_=>none
 | .snap cs off=>some (cs,off)
 |_=>none
def dT(E:Env)(σ:St)(t:TypeId)(a:D):Option D:=match fq σ.H a with
 |none=>none
 |some (cs,off)=>match c5 E.P t with
  |some true=>match sz E.P t with
   |some n=>if off+n≤cs.length then some (.agg ((cs.drop off).take n)) else none
   |none=>none
  |some false=>cs[off]?
  |none=>none
def isNst(H:List (Nat×Option Ob)):D→Bool
 | .loc s g _=>(match bi H s g with
  |some o=>o.isNst
  |none=>false)
 |_=>false
def jC(E:Env)(σ:St)(dst:Option Tmp)(t:TypeId)(a:D):Option (D×St):=match c5 E.P t,a with
 |some false,.loc s g off=>(match bi σ.H s g with
  |some (.nst e er nr cs)=>(match cs[off]?,dst with
   |some .nils,_=>some (.nils,σ)
   |some (.slc false len rs),some d=>if d<σ.H.length then some (.own d (bl (σ.setOb s (some (.nst e er nr (cs.set off .junk)))).H d) len,(σ.setOb s (some (.nst e er nr (cs.set off .junk)))).newOb d (.arr er nr rs false)) else none
   |_,_=>none)
  |_=>none)
 |_,_=>none
def nt(E:Env)(σ:St)(t:TypeId)(a x:D):Option St:=match a,x with
 | .loc s g off,.own s2 g2 len=>(match sz E.P t,bi σ.H s g,bi σ.H s2 g2 with
  |some 1,some (.nst e er nr cs),some (.arr er' nr' rs false)=>if er'=er∧nr'=nr∧off<cs.length then some ((σ.setOb s2 none).setOb s (some (.nst e er nr (cs.set off (.slc false len rs))))) else none
  |_,_,_=>none)
 |_,_=>none
def co(cs:List D)(off:Nat):List D→List D
 |[]=>cs
 |d::ds=>co (cs.set off d) (off+1) ds
def dN(E:Env)(σ:St)(t:TypeId)(a x:D):Option St:=match a with
 | .loc s g off=>match sz E.P t with
  |none=>none
  |some n=>if x.cells.length=n then
    match bi σ.H s g with
    |some (.box cs false)=>if off+n≤cs.length&&x.cells.all D.one then some (σ.setOb s (some (.box (co cs off x.cells) false))) else none
    |some (.arr e m cs false)=>if off+n≤cs.length&&x.cells.all D.one then
      match cA (bJ σ.H depth) x.cells with
      |some (ds,ss)=>if ss.contains s then none else some ((σ.freeze ss).setOb s (some (.arr e m (co cs off ds) false)))
      |none=>none
     else none
    |_=>none
   else none
 |_=>none
def ce(σ:St)(dst:Option Tmp)(o:Ob)(d:Nat→Nat→D):Option (D×St):=match dst with
 |some s=>if s<σ.H.length then some (d s (bl σ.H s),σ.newOb s o) else none
 |none=>none
def GU:D→Bool
 | .agg [.nilp,.nils]=>true
 |_=>false
def BG:Array Value:= #[.pointer none,.slice none 0 0]
def iF(E:Env)(σ:St)(dst:Option Tmp)(t:TypeId):Option (D×St):=match ia E.P t with
 |some z=>if z.cells.all D.one then(match E.tb==some t&&GU z with
  |true=>ce σ dst (.raw BG t) (fun s g=> .loc s g 0)
  |false=>ce σ dst (.box z.cells false) (fun s g=> .loc s g 0)) else none
 |none=>none
def o9(σ:St)(dst:Option Tmp)(x:D):Option (D×St):=
 if x.cells.all D.one then ce σ dst (.box x.cells false) (fun s g=> .loc s g 0) else none
def pb(place:Nat→Option (Nat×Nat))(cells:List D):List (Nat×D)→Option (List D)
 |[]=>some cells
 |(i,x)::rest=>match place i with
  |none=>none
  |some (off,size)=>if x.cells.length≠size||off+x.cells.length>cells.length then none
   else pb place (co cells off x.cells) rest
def eM(E:Env)(σ:St):List (Nat×Operand)→Option (List (Nat×D))
 |[]=>some []
 |(i,x)::rest=>match σ.val E x with
  |none=>none
  |some d=>match eM E σ rest with
   |none=>none
   |some r=>some ((i,d)::r)
def lO(P:Program):List Field→Option (List (Nat×Nat))
 |[]=>some []
 |f::fs=>match sz P f.type with
  |none=>none
  |some n=>match lO P fs with
   |none=>none
   |some r=>some ((f.offset,n)::r)
def tf(E:Env)(t:TypeId)(parts:List (Nat×D)):Option D:=match lN E.P t,ia E.P t with
 |some fs,some z=>if !parts.all (fun p=>p.2.nj) then none else match lO E.P fs.toList with
  |none=>none
  |some pl=>match pb (pl[·]?) z.cells parts with
   |some cs=>some (.agg cs)
   |none=>none
 |_,_=>none
def dz(H:List (Nat×Option Ob)):List (Nat×D)→Option (List (Nat×D)×List Nat)
 |[]=>some ([],[])
 |(i,d)::rest=>match bJ H depth d with
  |none=>none
  |some (d',ss)=>match dz H rest with
   |none=>none
   |some (r,ss')=>some ((i,d')::r,ss++ss')
def dQ:Nat→List D→List D
 |0,_=>[]
 |n+1,z=>z++dQ n z
def cQ(E:Env)(σ:St)(t:TypeId)(len:Nat)(parts:List (Nat×D)):Option (D×St):=match fx E.P t with
 |none=>none
 |some e=>match sz E.P e,ia E.P e,dz σ.H parts with
  |some n,some z,some (ps,ss)=>
   if len*n≤16777216&&z.cells.length=n&&ps.all (fun p=>p.2.nj&&p.2.cells.all D.one) then
    match pb (fun i=>some (i*n,n)) (dQ len z.cells) ps with
    |some cs=>some (.slc true len cs,σ.freeze ss)
    |none=>none
   else none
  |_,_,_=>none
def lP(E:Env)(t:TypeId)(f:Nat):Option Nat:=match lN E.P t with
 |none=>none
 |some fs=>match fs[f]? with
  |none=>none
  |some fd=>match sz E.P fd.type with
   |some 0=>none
   |some _=>some fd.offset
   |none=>none
def jD(E:Env)(t:TypeId)(x:D)(f:Nat):Option D:=match lP E t f with
 |none=>none
 |some k=>match x with
  | .loc s g off=>some (.loc s g (off+k))
  | .snap cs off=>some (.snap cs (off+k))
  |_=>none
def tg(E:Env)(t:TypeId)(x:D)(f:Nat):Option D:=match lN E.P t,x with
 |some fs,.agg cs=>match fs[f]? with
  |none=>none
  |some fd=>match c5 E.P fd.type with
   |some true=>match sz E.P fd.type with
    |some n=>some (.agg ((cs.drop fd.offset).take n))
    |none=>none
   |some false=>cs[fd.offset]?
   |none=>none
 |_,_=>none
def fy(E:Env)(t:TypeId)(x i:D):Option D:=match i with
 | .int _ n=>match E.P.underlying t with
  |some (.slice e)=>match sz E.P e with
   |none=>none
   |some k=>match x with
    | .own s g len=>if 0≤n∧n<len then some (.loc s g (n.toNat*k)) else none
    | .win s g off len _=>if 0≤n∧n<len then some (.loc s g (off+n.toNat*k)) else none
    | .slc _ len cs=>if 0≤n∧n<len then some (.snap cs (n.toNat*k)) else none
    |_=>none
  |some (.array len e)=>match sz E.P e with
   |none=>none
   |some k=>match x with
    | .loc s g off=>if 0≤n∧n<len then some (.loc s g (off+n.toNat*k)) else none
    | .snap cs off=>if 0≤n∧n<len then some (.snap cs (off+n.toNat*k)) else none
    |_=>none
  |_=>none
 |_=>none
def BH:D→Option D
 | .own _ _ n=>some (.int .i64 n)
 | .win _ _ _ n _=>some (.int .i64 n)
 | .slc _ n _=>some (.int .i64 n)
 | .nils=>some (.int .i64 0)
 |_=>none
def lh(H:List (Nat×Option Ob)):D→Option D
 | .mloc s g=>match bi H s g with
  |some (.map ks _ _)=>some (.int .i64 ks.length)
  |_=>none
 | .msnap ks _=>some (.int .i64 ks.length)
 | .mnil=>some (.int .i64 0)
 |_=>none
def cg:Nat:=140737488355328
def mO:D→Option (Nat×List D)
 | .nils=>some (0,[])
 | .slc _ m news=>some (m,news)
 |_=>none
def cK(σ:St)(dst:Option Tmp)(e:TypeId)(n by_ m:Nat)(news:List D)(ss:List Nat):D→Option (D×St)
 | .nils=>
  if m=0 then some (.nils,σ.freeze ss)
  else if m*by_≤cg∧m≤9223372036854775807 then ce (σ.freeze ss) dst (.arr e n news false) (fun s g=> .own s g m)
  else none
 | .slc f k olds=>
  if m=0 then some (.slc f k olds,σ.freeze ss)
  else if f=true∧0<m∧olds.length=k*n∧(k+m)*by_≤cg∧k+m≤4611686018427387903 then
   ce (σ.freeze ss) dst (.arr e n (olds++news) false) (fun s g=> .own s g (k+m))
  else none
 | .own s0 g0 k=>
  if ss.contains s0 then none else
  match bi σ.H s0 g0 with
  |some (.arr e' n' olds false)=>
   if e'=e∧n'=n∧(k+m)*by_≤cg∧k+m≤9223372036854775807 then
    ce ((σ.freeze ss).setOb s0 none) dst (.arr e n (olds++news) false) (fun s g=> .own s g (k+m))
   else none
  |_=>none
 |_=>none
def dJ(E:Env)(σ:St)(dst:Option Tmp)(t:TypeId)(s x:D):Option (D×St):=
 match fx E.P t with
 |none=>none
 |some e=>
  match sz E.P e,Ak E.P e,ia E.P e,bJ σ.H depth x with
  |some n,some by_,some z,some (x',ss)=>
   match mO x' with
   |none=>none
   |some (m,news)=>
    if z.cells.length=n∧0<n∧news.length=m*n∧news.all D.one=true then cK σ dst e n by_ m news ss s else none
  |_,_,_,_=>none
def rH(E:Env)(e:TypeId)(n:Nat)(z:D):Option (TypeId×Nat):=match E.nst,n,z with
 |true,1,.nils=>(match fx E.P e with
  |some er=>(match sz E.P er with
   |some nr=>if 0<nr then some (er,nr) else none
   |none=>none)
  |none=>none)
 |_,_,_=>none
def dg(E:Env)(σ:St)(dst:Option Tmp)(t:TypeId)(len cap:D):Option (D×St):=match fx E.P t,len,cap with
 |some e,.int _ l,.int _ c=>match sz E.P e,Ak E.P e,ia E.P e with
  |some n,some by_,some z=>
   if z.cells.length=n&&z.cells.all D.one&&0<n&&decide (0≤l∧l≤c∧c*by_≤140737488355328∧c≤9223372036854775807) then
    (match rH E e n z with
     |none=>ce σ dst (.arr e n (dQ l.toNat z.cells) false) (fun s g=> .own s g l.toNat)
     |some q=>ce σ dst (.nst e q.1 q.2 (dQ l.toNat z.cells)) (fun s g=> .own s g l.toNat)) else none
  |_,_,_=>none
 |_,_,_=>none
def cR(d:Nat):Option D→Option Int
 |none=>some d
 |some (.int _ n)=>some n
 |_=>none
def Es(P:Program)(t:TypeId):Option (Nat×TypeId):=match P.underlying t with
 |some (.array n e)=>some (n,e)
 |_=>none
def uH(E:Env)(t:TypeId)(x:D)(lo hi:Option D):Option D:=match Es E.P t,x,lo,hi with
 |some (n,e),.snap cs off,none,none=>match sz E.P e with
  |some m=>if 0<n∧off+n*m≤cs.length then some (.slc true n ((cs.drop off).take (n*m))) else none
  |none=>none
 |_,_,_,_=>none
def gx:D→Option (Nat×Nat×Nat×Nat)
 | .own s g len=>some (s,g,0,len)
 | .win s g off len _=>some (s,g,off,len)
 |_=>none
def xb:D→Nat→Bool
 | .win _ _ _ _ m,n=>m==n
 |_,_=>true
def pc(E:Env)(σ:St)(e:TypeId)(d:D)(x:Nat×Nat×Nat×Nat)(lo hi:Option D):Option (D×St):=match sz E.P e,cR 0 lo,cR x.2.2.2 hi with
 |some n,some l,some h=>if(0<n∧xb d n=true)∧0≤l∧l≤h∧h≤x.2.2.2 then some (.win x.1 x.2.1 (x.2.2.1+l.toNat*n) (h-l).toNat n,σ) else none
 |_,_,_=>none
def eN(E:Env)(σ:St)(t:TypeId)(x:D)(lo hi:Option D):Option (D×St):=match Es E.P t,x with
 |some (n,e),.loc s g 0=>(match sz E.P e,bi σ.H s g,cR 0 lo,cR n hi with
  |some m,some (.box cs _),some l,some h=>if cs.all D.plain=true∧(0≤l∧l≤h∧h≤n)∧cs.length=n*m then some (.slc (decide (h=n)) (h-l).toNat ((cs.drop (l.toNat*m)).take ((h-l).toNat*m)),σ.freeze [s]) else none
  |_,_,_,_=>none)
 |_,_=>none
def dn(E:Env)(σ:St)(t:TypeId)(x:D)(lo hi:Option D):Option (D×St):=match fx E.P t with
 |none=>match uH E t x lo hi with
  |some d=>some (d,σ)
  |none=>eN E σ t x lo hi
 |some e=>match gx x with
  |some y=>pc E σ e x y lo hi
  |none=>match sz E.P e,bJ σ.H depth x with
  |some n,some (.slc full len cs,ss)=>match cR 0 lo,cR len hi with
   |some l,some h=>if 0≤l∧l≤h∧h≤len then
     some (.slc (full&&decide (h=len)) (h-l).toNat ((cs.drop (l.toNat*n)).take ((h-l).toNat*n)),σ.freeze ss) else none
   |_,_=>none
  |some _,some (.nils,_)=>match cR 0 lo,cR 0 hi with
   |some l,some h=>if l=0∧h=0 then some (.nils,σ) else none
   |_,_=>none
  |_,_=>none
def fR(E:Env)(σ:St)(t:TypeId)(x:D):Option (D×St):=match fx E.P t,gx x with
 |some e,some y=>match sz E.P e,ia E.P e,bi σ.H y.1 y.2.1 with
  |some n,some z,some (.arr e' m cs false)=>
   if y.2.2.2=0 then some (.tup [],σ)
   else if z.cells.length=n&&(z.cells.all D.one&&decide (y.2.2.1+y.2.2.2*n≤cs.length)) then some (.tup [],σ.setOb y.1 (some (.arr e' m (co cs y.2.2.1 (dQ y.2.2.2 z.cells)) false)))
   else none
  |_,_,_=>none
 |_,_=>none
def eC(σ:St)(n:Nat)(q r:Nat×Nat×Nat×Nat):Option (D×St):=match bi σ.H q.1 q.2.1 with
 |some (.arr e' n' cs false)=>if(r.1=q.1∧r.2.1=q.2.1)∧((cs.drop r.2.2.1).take (r.2.2.2*n)).length=r.2.2.2*n∧((cs.drop r.2.2.1).take (r.2.2.2*n)).all D.one=true∧q.2.2.1+q.2.2.2*n≤cs.length then
   some (.int .i64 (min r.2.2.2 q.2.2.2:Nat),σ.setOb q.1 (some (.arr e' n' (co cs q.2.2.1 (((cs.drop r.2.2.1).take (r.2.2.2*n)).take (min r.2.2.2 q.2.2.2*n))) false)))
  else none
 |_=>none
def iG(E:Env)(σ:St)(t:TypeId)(x y:D):Option (D×St):=match fx E.P t,gx x,bJ σ.H depth y with
 |some e,some q,some (y',ss)=>(match sz E.P e,mO y',bi σ.H q.1 q.2.1 with
  |some n,some (m,news),some (.arr e' n' cs false)=>if ss.contains q.1 then(match gx y with
    |some r=>eC σ n q r
    |none=>none)
   else if news.length=m*n∧news.all D.one=true∧q.2.2.1+q.2.2.2*n≤cs.length then
    some (.int .i64 (min m q.2.2.2:Nat),(σ.freeze ss).setOb q.1 (some (.arr e' n' (co cs q.2.2.1 (news.take (min m q.2.2.2*n))) false)))
   else none
  |_,_,_=>none)
 |_,_,_=>none
def GV:D→D→Option Bool
 | .int k a,.int k' b=>if k=k' then some (a==b) else none
 | .str a,.str b=>some (a==b)
 | .bool a,.bool b=>some (a==b)
 |_,_=>none
def uI:List D→List D→Option Bool
 |[],[]=>some true
 |x::xs,y::ys=>(match GV x y with
  |some b=>(match uI xs ys with
   |some q=>some (b&&q)
   |none=>none)
  |none=>none)
 |_,_=>none
def jr:D→D→Option Bool
 | .int k a,.int k' b=>if k=k' then some (a==b) else none
 | .str a,.str b=>some (a==b)
 | .bool a,.bool b=>some (a==b)
 | .agg xs,.agg ys=>uI xs ys
 |_,_=>none
def fQ(k:D):List D→Nat→Option (Option Nat)
 |[],_=>some none
 |x::xs,i=>match jr k x with
  |some true=>some (some i)
  |some false=>fQ k xs (i+1)
  |none=>none
def HP(P:Program)(t:TypeId):D→Bool
 | .int k _=>(match P.underlying t with
  |some (.int k')=>decide (k'=k)
  |_=>false)
 | .str _=>(match P.underlying t with
  |some .string=>true
  |_=>false)
 | .bool _=>(match P.underlying t with
  |some .bool=>true
  |_=>false)
 |_=>false
def gy(P:Program):Nat→List Field→List D→Bool
 |_,[],[]=>true
 |i,f::fs,c::cs=>(f.offset==i&&f.name != "_")&&(HP P f.type c&&gy P (i+1) fs cs)
 |_,_,_=>false
def cD(P:Program)(t:TypeId)(k:D):Bool:=match P.underlying t,k with
 |some (.int _),.int _ _=>true
 |some .string,.str _=>true
 |some .bool,.bool _=>true
 |some (.struct fs),.agg cs=>(P.stoodInHeld t==false)&&gy P 0 fs.toList cs
 |_,_=>false
def fA(P:Program)(t:TypeId):Option (TypeId×TypeId):=match P.underlying t with
 |some (.map k e)=>some (k,e)
 |_=>none
def pd(H:List (Nat×Option Ob)):D→Option (List D×List D)
 | .mloc s g=>match bi H s g with
  |some (.map ks vs _)=>some (ks,vs)
  |some (.mrf ks vs _)=>some (ks,vs)
  |_=>none
 | .msnap ks vs=>some (ks,vs)
 | .mnil=>some ([],[])
 |_=>none
def eO(E:Env)(σ:St)(t:TypeId)(x k:D)(ok:Bool):Option D:=match fA E.P t with
 |none=>none
 |some (kt,et)=>if cD E.P kt k then match pd σ.H x,ia E.P et with
   |some (ks,vs),some z=>match fQ k ks 0 with
    |some (some i)=>match vs[i]? with
     |some v=>some (if ok then .tup [v,.bool true] else v)
     |none=>none
    |some none=>some (if ok then .tup [z,.bool false] else z)
    |none=>none
   |_,_=>none
  else none
def gi(σ:St)(s:Nat)(ks vs:List D)(k v:D):Option St:=match v with
 | .own s1 g1 len=>(match bi σ.H s1 g1,fQ k ks 0 with
  |some (.arr e n cs false),some none=>some ((((σ.setOb s1 none).grow).newOb σ.H.length (.arr e n cs false)).setOb s (some (.mrf (ks++[k]) (vs++[.own σ.H.length 0 len]) false)))
  |_,_=>none)
 |_=>none
def KF(E:Env)(t:TypeId):Bool:=E.nst&&(match fA E.P t with
 |some (_,et)=>(fx E.P et).isSome
 |none=>false)
def GW:Bool→Ob
 |true=> .mrf [] [] false
 |false=> .map [] [] false
def cy(E:Env)(σ:St)(t:TypeId)(m k v:D):Option St:=match fA E.P t,m with
 |some (kt,_),.mloc s g=>if cD E.P kt k then match bi σ.H s g with
   |some (.map ks vs false)=>match bJ σ.H depth v with
    |none=>none
    |some (v',ss)=>if ss.contains s then none else match fQ k ks 0 with
     |some (some i)=>some ((σ.freeze ss).setOb s (some (.map ks (vs.set i v') false)))
     |some none=>some ((σ.freeze ss).setOb s (some (.map (ks++[k]) (vs++[v']) false)))
     |none=>none
   |some (.mrf ks vs false)=>if E.nst then gi σ s ks vs k v else none
   |_=>none
  else none
 |_,_=>none
def fa(E:Env)(σ:St):List Operand→Option (List D)
 |[]=>some []
 |x::xs=>match σ.val E x with
  |none=>none
  |some d=>match fa E σ xs with
   |none=>none
   |some r=>some (d::r)
def fc(E:Env)(σ:St)(f:D)(args:List D):Option (D×St):=match f with
 | .fn (.func k) first caps=>match cA (bJ σ.H depth) (first++args++caps) with
  |none=>none
  |some (ds,ss)=>match E.call k ds with
   |none=>none
   |some r=>some (r,if r.plain then σ else σ.freeze ss)
 |_=>none
def lQ(o:Bool)(σ:St)(dst:Option Tmp)(g:lM)(args:List D):Option (D×St):=match args with
 | .own s g0 len::rest=>match bi σ.H s g0 with
  |some (.arr e n cs false)=>match cA (bJ σ.H depth) rest with
   |some (rest',ss)=>if ss.contains s|| !cs.all (Bz o) then none else match g cs len rest' with
    |some (cs',none)=>if cs'.length=cs.length&&cs'.all (Bz o) then some (.tup [],σ.setOb s (some (.arr e n cs' false))) else none
    |some (cs',some m)=>if cs'.length=m*n&&decide (m≤len)&&cs'.all (Bz o) then ce (σ.setOb s none) dst (.arr e n cs' false) (fun s g=> .own s g m) else none
    |none=>none
   |none=>none
  |_=>none
 |_=>none
def gQ(E:Env):D→Option Mu
 | .fn (.func k) [] []=>E.wr k
 |_=>none
def kT(E:Env)(g:D):Option (TypeId×Nat):=match gQ E g with
 |some (.own e n)=>some (e,n)
 |_=>none
def jE(E:Env)(σ:St)(f:D)(args:List D):Option (Nat×List D):=match f with
 | .fn (.func k) first caps=>match cA (bJ σ.H depth) (first++args++caps) with
  |none=>none
  |some (ds,_)=>match E.call k ds with
   |some (.slc false len cs)=>some (len,cs)
   |_=>none
 |_=>none
def jF(E:Env)(σ:St)(dst:Option Tmp)(e:TypeId)(n:Nat)(f:D)(args:List D):Option (D×St):=match jE E σ f args with
 |some (len,cs)=>if cs.all D.plain&&decide (cs.length=len*n) then ce σ dst (.arr e n cs false) (fun s g=> .own s g len) else none
 |none=>fc E σ f args
def nu(σ:St)(p:Nat)(g:List D→Option D)(args:List D):Option (D×St):=match args[p]? with
 |some (.own s g0 len)=>match bi σ.H s g0 with
  |some (.arr e n cs false)=>match cA (bJ σ.H depth) (args.set p .nils) with
   |some (ds,ss)=>if ss.contains s|| !cs.all D.plain then none else match g (ds.set p (.slc false len cs)) with
    |some (.tup [.slc _ _ cs',r])=>if cs'.length=cs.length&&cs'.all D.plain then some (r,(σ.freeze ss).setOb s (some (.arr e n cs' false))) else none
    |_=>none
   |none=>none
  |_=>none
 |_=>none
def nv(σ:St)(p:Nat)(g:List D→Option D)(args:List D):Option (D×St):=match args[p]? with
 |some x=>match gx x with
  |some y=>match bi σ.H y.1 y.2.1 with
   |some (.arr e n cs false)=>match cA (bJ σ.H depth) (args.set p .nils) with
    |some (ds,ss)=>if ss.contains y.1|| !(0<n&&xb x n)|| !(cs.all D.plain&&decide (0<y.2.2.2∧y.2.2.1+y.2.2.2*n≤cs.length)) then none else match g (ds.set p (.slc false y.2.2.2 ((cs.drop y.2.2.1).take (y.2.2.2*n)))) with
     |some (.tup [.slc _ _ cs',r])=>if cs'.length=y.2.2.2*n&&cs'.all D.plain then some (r,(σ.freeze ss).setOb y.1 (some (.arr e n (co cs y.2.2.1 cs') false))) else none
     |_=>none
    |none=>none
   |_=>none
  |none=>none
 |none=>none
def rI(E:Env):D→Option (Inl×List D×List D)
 | .fn (.func k) first caps=>(match E.inl k with
  |some i=>some (i,first,caps)
  |none=>none)
 |_=>none
def rJ(σ:St)(g:List (Nat×Option Ob)→List D→Option (D×List (Nat×Option Ob)))(ds:List D):Option (D×St):=match g σ.H ds with
 |some p=>some (p.1,⟨σ.T,p.2⟩)
 |none=>none
inductive MutX where
 |fst (o:Bool) (g:lM)
 |plc (p:Nat) (g:List D→Option D)
 |plw (p:Nat) (g:List D→Option D)
def jG(σ:St)(dst:Option Tmp):MutX→List D→Option (D×St)
 | .fst o g,as=>lQ o σ dst g as
 | .plc p g,as=>nu σ p g as
 | .plw p g,as=>nv σ p g as
def ph(E:Env)(g:D)(as:List D):Option MutX:=match gQ E g with
 |some (.plc p m)=>(match as[p]? with
  |some (.own _ _ _)=>some (.plc p m)
  |_=>none)
 |some (.plw p m)=>(match as[p]? with
  |some x=>if(gx x).isSome then some (.plw p m) else none
  |none=>none)
 |some mu=>(match as with
  | .own _ _ _::_=>some (.fst E.osl mu.f)
  |_=>none)
 |none=>none
def dO(E:Env)(o:BinOp)(t:TypeId)(x y:D):Option D:=match E.P.underlying t with
 |some (.slice _)=>match x,y with
  | .osl b _ _,.nils=>match o with| .eql=>some (.bool b)| .neq=>some (.bool !b)|_=>none
  | .nils,.osl b _ _=>match o with| .eql=>some (.bool b)| .neq=>some (.bool !b)|_=>none
  | .own _ _ _,.nils=>match o with| .eql=>some (.bool false)| .neq=>some (.bool true)|_=>none
  | .slc _ n _,.nils=>if 0<n then(match o with| .eql=>some (.bool false)| .neq=>some (.bool true)|_=>none) else none
  | .win _ _ _ _ _,.nils=>match o with| .eql=>some (.bool false)| .neq=>some (.bool true)|_=>none
  | .nils,.win _ _ _ _ _=>match o with| .eql=>some (.bool false)| .neq=>some (.bool true)|_=>none
  | .nils,.own _ _ _=>match o with| .eql=>some (.bool false)| .neq=>some (.bool true)|_=>none
  | .nils,.slc _ n _=>if 0<n then(match o with| .eql=>some (.bool false)| .neq=>some (.bool true)|_=>none) else none
  |_,_=>none
 |some (.pointer _)=>match x,y with
  | .loc _ _ _,.nilp=>match o with| .eql=>some (.bool false)| .neq=>some (.bool true)|_=>none
  |_,_=>none
 |_=>none
def dA(E:Env)(σ:St):Option Operand→Option (Option D)
 |none=>some none
 |some x=>match σ.val E x with
  |some d=>some (some d)
  |none=>none
def iH(E:Env)(σ:St)(dst:Option Tmp)(t:TypeId)(x:D):Option (D×St):=match E.P.underlying t,x with
 |some .string,.str s=>ce σ dst (.sit s 0) (fun s g=> .loc s g 0)
 |_,_=>none
def gR(σ:St)(it:D):Option (D×St):=match it with
 | .loc s g 0=>match bi σ.H s g with
  |some (.sit b pos)=>if pos<b.size then
    some (.tup [.bool true,.int .i64 pos,.int .i32 (Utf8.decode b pos).1],σ.setOb s (some (.sit b (pos+(Utf8.decode b pos).2))))
   else some (.tup [.bool false],σ)
  |_=>none
 |_=>none
def ep(σ:St):Option D→Option (D×St)
 |some d=>some (d,σ)
 |none=>none
def unit:Option St→Option (D×St)
 |some σ=>some (.tup [],σ)
 |none=>none
def GX:D→Option UInt8
 | .int .u8 n=>some (UInt8.ofNat n.toNat)
 |_=>none
def lR(E:Env)(src dst:TypeId):Option D→Option D
 |some (.slc _ len cs)=>(match fx E.P src,E.P.underlying dst with
  |some e,some .string=>(match E.P.underlying e,cZ GX cs with
   |some (.int .u8),some bs=>if cs.length=len then some (.str ⟨bs.toArray⟩) else none
   |_,_=>none)
  |_,_=>none)
 |_=>none
def cw(E:Env)(σ:St)(o:Oper):Option (D×St):=match o.op with
 | .move x=>ep σ (σ.val E x)
 | .assign x=>ep σ (σ.val E x)
 | .pick c a b=>match σ.val E c with
  |some (.bool t)=>ep σ (σ.val E (if t then a else b))
  |_=>none
 | .extract x i=>match σ.val E x with
  |some (.tup ds)=>ep σ ds[i]?
  |_=>none
 | .alloc t=>iF E σ o.dst t
 | .box _ x=>match σ.val E x with
  |some d=>o9 σ o.dst d
  |none=>none
 | .build t ps=>match eM E σ ps.toList with
  |some l=>ep σ (tf E t l)
  |none=>none
 | .buildSlice t n ps=>match eM E σ ps.toList with
  |some l=>cQ E σ t n l
  |none=>none
 | .load t a=>match σ.val E a with
  |some d=>(match E.nst&&isNst σ.H d with
   |true=>jC E σ o.dst t d
   |false=>ep σ (dT E σ t d))
  |none=>none
 | .store t a x=>match σ.val E a,σ.val E x with
  |some d,some y=>(match E.nst&&isNst σ.H d with
   |true=>unit (nt E σ t d y)
   |false=>unit (dN E σ t d y))
  |_,_=>none
 | .fieldAddr t x f=>match σ.val E x with
  |some d=>ep σ (jD E t d f)
  |none=>none
 | .field t x f=>match σ.val E x with
  |some d=>ep σ (tg E t d f)
  |none=>none
 | .indexAddr t x i=>match σ.val E x,σ.val E i with
  |some d,some j=>ep σ (fy E t d j)
  |_,_=>none
 | .nilCheck x=>match σ.val E x with
  |some (.loc s g k)=>some (.loc s g k,σ)
  |some (.snap cs k)=>some (.snap cs k,σ)
  |some (.fn (.func f) a b)=>some (.fn (.func f) a b,σ)
  |_=>none
 | .makeFunc f a b=>match f with
  | .func k=>match fa E σ a.toList,fa E σ b.toList with
   |some x,some y=>some (.fn (.func k) x y,σ)
   |_,_=>none
  |_=>none
 | .makeInterface t x=>match σ.val E x with
  |some d=>match E.P.underlying t with
   |some (.interface _)=>none
   |some _=>if d.one then some (.ifc t d,σ) else none
   |none=>none
  |none=>none
 | .makeMap t r=>match r with
  |none=>ce σ o.dst (GW (KF E t)) (fun s g=> .mloc s g)
  |some _=>none
 | .lookup t x k ok=>match σ.val E x,σ.val E k with
  |some d,some j=>ep σ (eO E σ t d j ok)
  |_,_=>none
 | .mapUpdate t m k v=>match σ.val E m,σ.val E k,σ.val E v with
  |some a,some b,some c=>unit (cy E σ t a b c)
  |_,_,_=>none
 | .insert t m k v=>match σ.val E m,σ.val E k,σ.val E v with
  |some a,some b,some c=>unit (cy E σ t a b c)
  |_,_,_=>none
 | .makeSlice t l c=>match σ.val E l,σ.val E c with
  |some a,some b=>dg E σ o.dst t a b
  |_,_=>none
 | .slice t x lo hi mx=>match σ.val E x with
  |some (.str _)=>ep σ (dD E σ o)
  |some d=>match mx,dA E σ lo,dA E σ hi with
   |none,some l,some h=>dn E σ t d l h
   |_,_,_=>none
  |none=>none
 | .range t x=>match σ.val E x with
  |some d=>iH E σ o.dst t d
  |none=>none
 | .next it isS=>match σ.val E it,isS with
  |some d,true=>gR σ d
  |_,_=>none
 | .call c=>match c.callee with
  | .value f=>match σ.val E f,fa E σ c.args.toList with
   |some g,some as=>(match rI E g with
    |some i=>rJ σ i.1.g (i.2.1++(as++i.2.2))
    |none=>(match kT E g with
     |some en=>jF E σ o.dst en.1 en.2 g as
     |none=>(match ph E g as with
      |some m=>jG σ o.dst m as
      |none=>fc E σ g as)))
   |_,_=>none
  | .builtin .append=>match c.args.toList,c.argTypes.toList with
   |[s,x],[t,u]=>(match σ.val E s,σ.val E x with
     |some a,some b=>if t=u then dJ E σ o.dst t a b else none
     |_,_=>none)
   |_,_=>none
  | .builtin .len=>match c.args.toList,c.argTypes.toList with
   |[x],[t]=>match σ.val E x,E.P.underlying t with
    |some d,some (.slice _)=>ep σ (BH d)
    |some d,some (.map _ _)=>ep σ (lh σ.H d)
    |some _,some .string=>ep σ (dD E σ o)
    |_,_=>none
   |_,_=>none
  | .builtin .max=>ep σ (dD E σ o)
  | .builtin .min=>ep σ (dD E σ o)
  | .builtin .clear=>match c.args.toList,c.argTypes.toList with
   |[x],[t]=>match σ.val E x with
    |some d=>fR E σ t d
    |none=>none
   |_,_=>none
  | .builtin .copy=>match c.args.toList,c.argTypes.toList with
   |[x,y],[t,_]=>match σ.val E x,σ.val E y with
    |some d,some d'=>iG E σ t d d'
    |_,_=>none
   |_,_=>none
  |_=>none
 | .binOp op t x y _=>match σ.val E x,σ.val E y with
  |some a,some b=>match dO E op t a b with
   |some d=>some (d,σ)
   |none=>ep σ (dD E σ o)
  |_,_=>none
 | .unOp _ _ _=>ep σ (dD E σ o)
 | .convert src dst x=>match lR E src dst (σ.val E x) with
  |some d=>some (d,σ)
  |none=>ep σ (dD E σ o)
 | .index _ _ _=>ep σ (dD E σ o)
 |_=>none
def lS(ops:Array Oper)(σ:St)(o:Oper):Option Bool:=match o.guard with
 |none=>some true
 |some (j,want)=>match ops[j]? with
  |none=>none
  |some p=>match p.dst with
   |none=>none
   |some t=>match σ.T[t]? with
    |some (.bool b)=>some (b==want)
    |some (.tup _)=>some false
    |some (.int _ _)=>some false
    |_=>none
def gz(E:Env)(ops:Array Oper)(σ:St)(i:Nat):Option St:=match ops[i]? with
 |none=>none
 |some o=>match lS ops σ o with
  |none=>none
  |some false=>some (σ.put o.dst (.tup []))
  |some true=>match cw E σ o with
   |none=>none
   |some (d,σ')=>some (σ'.put o.dst d)
def lT(E:Env)(ops:Array Oper):List Nat→St→Option St
 |[],σ=>some σ
 |i::l,σ=>match gz E ops σ i with
  |none=>none
  |some σ'=>lT E ops l σ'
def ib(d:D):Bool:=match bJ [] depth d with
 |some (_,[])=>true
 |_=>false
def fS(E:Env)(fs:List (Nat×Nat))(T:List D)(o:Oper):Bool:=match o.op with
 | .load _ (.tmp q)=>(match T[q]? with
  |some (.loc s _ _)=>(match fs.lookup q with
   |some s0=>s==s0
   |none=>fs.all fun e=>e.2 !=s)
  |_=>true)
 | .store _ (.tmp p) x=>(match fs.lookup p with
  |none=>true
  |some s0=>(match T[p]?,St.val E ⟨T,[]⟩ x with
   |some (.loc s _ _),some d=>s==s0&&(match cA (bJ [] depth) d.cells with
    |some (_,[])=>true
    |_=>false)
   |_,_=>false))
 | .mapUpdate _ (.tmp p) _ x=>(match fs.lookup p with
  |none=>true
  |some s0=>(match T[p]?,St.val E ⟨T,[]⟩ x with
   |some (.mloc s _),some d=>s==s0&&ib d
   |_,_=>false))
 | .call c=>(match c.callee,c.args.toList with
  | .builtin .append,[.tmp q,x]=>(match fs.lookup q with
   |none=>true
   |some s0=>(match T[q]?,St.val E ⟨T,[]⟩ x with
    |some (.own s _ _),some d=>s==s0&&ib d
    |some _,some d=>ib d
    |_,_=>false))
  | .value f,as=>fs.isEmpty||(match St.val E ⟨T,[]⟩ f with
   |some g=>(match kT E g,o.dst with
    |none,some p=>(fs.lookup p).isNone
    |none,none=>true
    |some _,some p=>fs.lookup p==some p&&(match fa E ⟨T,[]⟩ as with
     |some ds=>ds.all ib
     |none=>false)
    |some _,none=>false)
   |none=>true)
  |_,_=>true)
 | .buildSlice _ _ ps=>fs.isEmpty||(match eM E ⟨T,[]⟩ ps.toList with
  |some l=>l.all fun e=>ib e.2
  |none=>true)
 | .slice _ x _ _ _=>(match o.dst with
  |some p=>(fs.lookup p).isNone||(match St.val E ⟨T,[]⟩ x with
   |some d=>ib d
   |none=>true)
  |none=>true)
 |_=>true
def eD(E:Env)(fs:List (Nat×Nat))(ops:Array Oper)(σ:St)(i:Nat):Option St:=match ops[i]? with
 |none=>none
 |some o=>if fS E fs σ.T o then gz E ops σ i else none
def da(E:Env)(fs:List (Nat×Nat))(ops:Array Oper):List Nat→St→Option St
 |[],σ=>some σ
 |i::l,σ=>match eD E fs ops σ i with
  |none=>none
  |some σ'=>da E fs ops l σ'
inductive Out where
 |norm
 |exit (id:Nat)
 |ret
 deriving DecidableEq
def St.kill(σ:St):List Nat→St
 |[]=>σ
 |s::ss=>(σ.setOb s none).kill ss
def eP(s:Nat):Nat→D→Bool
 |0,_=>false
 |n+1,d=>match d with
  | .loc s' _ _=> !(s'==s)
  | .own s' _ _=> !(s'==s)
  | .win s' _ _ _ _=> !(s'==s)
  | .mloc s' _=> !(s'==s)
  | .fn _ a b=>a.all (eP s n)&&b.all (eP s n)
  | .agg cs=>cs.all (eP s n)
  | .tup cs=>cs.all (eP s n)
  | .ifc _ d=>eP s n d
  |_=>true
def lU(s:Nat):Nat×Option Ob→Bool
 |(_,some (.box cs _))=>cs.all (eP s depth)
 |(_,some (.mrf _ vs _))=>vs.all (eP s depth)
 |_=>true
def ic(T:List D):List Nat→List D
 |[]=>T
 |t::ts=>ic (T.set t .junk) ts
structure RegI where
 l:Option (List Nat):=none
 ks:List Nat:=[]
 jk:List Nat:=[]
 rs:List Nat:=[]
 fs:List (Nat×Nat):=[]
 bar:Bool:=false
 no:Bool:=false
abbrev hZ:=Nat→Option RegI
def RegI.order(i:RegI)(n:Nat):List Nat:=match i.l with
 |some l=>l
 |none=>List.range n
def pi(E:Env)(σ:St):ResultVar→Option D
 | .tmp t=>match σ.T[t]? with
  |some d=>match bJ σ.H depth d with
   |some (d',_)=>some d'
   |none=>none
  |none=>none
 | .cell a t=>match σ.T[a]? with
  |some p=>match dT E σ t p with
   |some d=>match bJ σ.H depth d with
    |some (d',_)=>some d'
    |none=>none
   |none=>none
  |none=>none
def qY(E:Env)(σ:St)(rs:List ResultVar):Option D:=match cZ (pi E σ) rs with
 |some [d]=>some d
 |some ds=>some (.tup ds)
 |none=>none
def gS:Nat→List D
 |0=>[]
 |n+1=> .tup []::gS n
def fB:Nat→List (Nat×Option Ob)
 |0=>[]
 |n+1=>(0,none)::fB n
def cz(fn:Func)(args:List D):St:={T:=args++gS (fn.ntmps-args.length),H:=fB (args.length+(fn.ntmps-args.length))}
abbrev Ov:=FuncId→Option ((FuncId→List D→Option D)→List D→Option D)
theorem kk(a:Addr)(i j:Nat):(a.add i).add j=a.add (i+j):=by
 unfold Addr.add;by_cases hi:i=0<;>by_cases hj:j=0<;>simp[hi,hj,ze0]
theorem eG(a:Addr)(n:Nat):(a.add n).block=a.block:=by unfold Addr.add;split<;>rfl
theorem dB(b i j:Nat):(⟨b,i,none⟩:Addr).add j=⟨b,i+j,none⟩:=by
 unfold Addr.add;split<;>simp_all
inductive RelC(I:Nat→Prop)(w:World):D→Value→Prop where
 |bool (b:Bool):RelC I w (.bool b) (.bool b)
 |int (k:IntKind) (n:Int):RelC I w (.int k n) (.int k n)
 |str (s:ByteArray):RelC I w (.str s) (.string s)
 |nilp:RelC I w .nilp (.pointer none)
 |nils:RelC I w .nils (.slice none 0 0)
 |mnil:RelC I w .mnil (.map none)
 |nilf:RelC I w .nilf .nilFunc
 |nilif:RelC I w .nilif .nilIface
 |snap (cs:List D) (off:Nat) (a:Addr) (us:Nat→Value) (hI:0<cs.length→I a.block)
   (hc:∀(j:Nat) (d:D),cs[j]?=some d→w.cell? (a.add j)=some (us j))
   (hr:∀(j:Nat) (d:D),cs[j]?=some d→RelC I w d (us j)):RelC I w (.snap cs off) (.pointer (some (a.add off)))
 |slc (full:Bool) (len:Nat) (cs:List D) (a:Addr) (cap:Nat) (us:Nat→Value) (hI:0<cs.length→I a.block)
   (hf:full=true→cap=len) (hl:len≤cap)
   (hc:∀(j:Nat) (d:D),cs[j]?=some d→w.cell? (a.add j)=some (us j))
   (hr:∀(j:Nat) (d:D),cs[j]?=some d→RelC I w d (us j)):RelC I w (.slc full len cs) (.slice (some a) len cap)
 |slcn (full:Bool):RelC I w (.slc full 0 []) (.slice none 0 0)
 |osln:RelC I w (.osl true 0 []) (.slice none 0 0)
 |osls (len:Nat) (cs:List D) (a:Addr) (cap:Nat) (hp:0<len) (h:RelC I w (.slc false len cs) (.slice (some a) len cap)):RelC I w (.osl false len cs) (.slice (some a) len cap)
 |msnap (ks vs:List D) (b:Nat) (es:Array MapEntry) (clock:Nat) (hI:I b) (hb:w.heap[b]?=some (.map es clock)) (hk:ks.length=es.size) (hv:vs.length=es.size)
   (hks:∀(j:Nat) (d:D) (e:MapEntry),ks[j]?=some d→es[j]?=some e→RelC I w d e.key)
   (hvs:∀(j:Nat) (d:D) (e:MapEntry),vs[j]?=some d→es[j]?=some e→RelC I w d e.val):RelC I w (.msnap ks vs) (.map (some b))
 |fn (f:Fn) (x y:List D) (vx vy:Array Value) (hx:x.length=vx.size) (hy:y.length=vy.size)
   (hrx:∀(j:Nat) (d:D) (v:Value),x[j]?=some d→vx[j]?=some v→RelC I w d v)
   (hry:∀(j:Nat) (d:D) (v:Value),y[j]?=some d→vy[j]?=some v→RelC I w d v):RelC I w (.fn f x y) (.func f vx vy)
 |ifc (t:TypeId) (d:D) (v:Value) (h:RelC I w d v):RelC I w (.ifc t d) (.iface t v)
 |junk (v:Value):RelC I w .junk v
 |agg (cs:List D) (vs:Array Value) (hl:cs.length=vs.size)
   (hr:∀(j:Nat) (d:D) (v:Value),cs[j]?=some d→vs[j]?=some v→RelC I w d v):RelC I w (.agg cs) (.agg vs)
 |tup (cs:List D) (vs:Array Value) (hl:cs.length=vs.size)
   (hr:∀(j:Nat) (d:D) (v:Value),cs[j]?=some d→vs[j]?=some v→RelC I w d v):RelC I w (.tup cs) (.tuple vs)
structure Gh where
 b:Nat
 cap:Nat
 len:Nat
inductive RelV(I:Nat→Prop)(A:Nat→Nat→Option Gh)(G:Nat→Nat)(w:World):D→Value→Prop where
 |clo {d:D} {v:Value} (h:RelC I w d v):RelV I A G w d v
 |loc (s g off:Nat) (ad:Addr) (hg:g<G s) (h:∀x,A s g=some x→ad=⟨x.b,off,none⟩):RelV I A G w (.loc s g off) (.pointer (some ad))
 |own (s g len:Nat) (ad:Addr) (cap:Nat) (hg:g<G s) (hl:len≤cap) (h:∀x,A s g=some x→ad=⟨x.b,0,none⟩∧cap=x.cap∧len=x.len):RelV I A G w (.own s g len) (.slice (some ad) len cap)
 |win (s g off len n:Nat) (ad:Addr) (cap:Nat) (hg:g<G s) (hl:len≤cap) (h:0<len→∀x,A s g=some x→ad=⟨x.b,off,none⟩∧(off=0→cap=x.cap)∧off+cap*n=x.cap*n):RelV I A G w (.win s g off len n) (.slice (some ad) len cap)
 |mloc (s g b:Nat) (hg:g<G s) (h:∀x,A s g=some x→b=x.b):RelV I A G w (.mloc s g) (.map (some b))
 |fn (f:Fn) (x y:List D) (vx vy:Array Value) (hx:x.length=vx.size) (hy:y.length=vy.size)
   (hrx:∀(j:Nat) (d:D) (v:Value),x[j]?=some d→vx[j]?=some v→RelV I A G w d v)
   (hry:∀(j:Nat) (d:D) (v:Value),y[j]?=some d→vy[j]?=some v→RelV I A G w d v):RelV I A G w (.fn f x y) (.func f vx vy)
 |ifc (t:TypeId) (d:D) (v:Value) (h:RelV I A G w d v):RelV I A G w (.ifc t d) (.iface t v)
 |agg (cs:List D) (vs:Array Value) (hl:cs.length=vs.size)
   (hr:∀(j:Nat) (d:D) (v:Value),cs[j]?=some d→vs[j]?=some v→RelV I A G w d v):RelV I A G w (.agg cs) (.agg vs)
 |tup (cs:List D) (vs:Array Value) (hl:cs.length=vs.size)
   (hr:∀(j:Nat) (d:D) (v:Value),cs[j]?=some d→vs[j]?=some v→RelV I A G w d v):RelV I A G w (.tup cs) (.tuple vs)
section
variable {I I':Nat→Prop}{w w':World}{A A':Nat→Nat→Option Gh}{G G':Nat→Nat}{d:D}{v:Value}
theorem RelC.mono(h:RelC I w d v)(hI:∀b,I b→I' b)(hw:∀b,I b→w'.heap[b]?=w.heap[b]?):RelC I' w' d v:=by
 induction h with
 |bool=>exact .bool _
 |int=>exact .int _ _
 |str=>exact .str _
 |nilp=>exact .nilp
 |nils=>exact .nils
 |mnil=>exact .mnil
 |nilf=>exact .nilf
 |nilif=>exact .nilif
 |snap cs off a us h1 hc _ ih=>
  refine .snap cs off a us (fun h=>hI _ (h1 h)) (fun j d hj=> ?_) ih;rw[World.cell?_of_block (w:=w) (by rw[eG];exact hw _ (h1 (by have:=(zc1.1 hj).1;omega)))];exact hc j d hj
 |slc full len cs a cap us h1 hf hl hc _ ih=>
  refine .slc full len cs a cap us (fun h=>hI _ (h1 h)) hf hl (fun j d hj=> ?_) ih;rw[World.cell?_of_block (w:=w) (by rw[eG];exact hw _ (h1 (by have:=(zc1.1 hj).1;omega)))];exact hc j d hj
 |slcn full=>exact .slcn full
 |osln=>exact .osln
 |osls len cs a cap hp _ ih=>exact .osls len cs a cap hp ih
 |msnap ks vs b es clock h1 hb hk hv _ _ ihk ihv=>exact .msnap ks vs b es clock (hI _ h1) ((hw _ h1).trans hb) hk hv ihk ihv
 |fn f x y vx vy hx hy _ _ ihx ihy=>exact .fn f x y vx vy hx hy ihx ihy
 |ifc t d v _ ih=>exact .ifc t d v ih
 |agg cs vs hl _ ih=>exact .agg cs vs hl ih
 |tup cs vs hl _ ih=>exact .tup cs vs hl ih
 |junk v=>exact .junk v
theorem RelV.mono(h:RelV I A G w d v)(hI:∀b,I b→I' b)(hw:∀b,I b→w'.heap[b]?=w.heap[b]?)(hG:∀s,G s≤G' s)
  (hA:∀s g x,g<G s→A' s g=some x→A s g=some x):RelV I' A' G' w' d v:=by
 induction h with
 |clo h=>exact .clo (h.mono hI hw)
 |loc s g off ad hg h=>exact .loc s g off ad (zb2 hg (hG s)) fun x hx=>h x (hA s g x hg hx)
 |own s g len ad cap hg hl h=>exact .own s g len ad cap (zb2 hg (hG s)) hl fun x hx=>h x (hA s g x hg hx)
 |win s g off len n ad cap hg hl h=>exact .win s g off len n ad cap (zb2 hg (hG s)) hl fun hp x hx=>h hp x (hA s g x hg hx)
 |mloc s g b hg h=>exact .mloc s g b (zb2 hg (hG s)) fun x hx=>h x (hA s g x hg hx)
 |fn f x y vx vy hx hy _ _ ihx ihy=>exact .fn f x y vx vy hx hy ihx ihy
 |ifc t d v _ ih=>exact .ifc t d v ih
 |agg cs vs hl _ ih=>exact .agg cs vs hl ih
 |tup cs vs hl _ ih=>exact .tup cs vs hl ih
theorem cT{α β:Type}{f:α→Option β}:∀{l:List α} {r:List β},cZ f l=some r→l.length=r.length∧∀(j:Nat) (x:α),l[j]?=some x→∃y,f x=some y∧r[j]?=some y
 |[],r,h=>by
  simp only[cZ,za0] at h;subst h;exact⟨rfl,fun j x hx=>by simp at hx⟩
 |a::l,r,h=>by
  simp only[cZ] at h;split at h
  ·cases h
  ·rename_i y hy;split at h
   ·cases h
   ·rename_i ys hys;simp only[za0] at h;subst h;obtain⟨h1,h2⟩:=cT hys;refine⟨by simp[h1],fun j x hx=> ?_⟩;cases j with
    |zero=>simp at hx;subst hx;exact⟨y,hy,rfl⟩
    |succ j=>simp at hx ⊢;exact h2 j x hx
theorem yZ{f:Fn}{x y:List D}{vx vy:Array Value}{u:Value}(hx:x.length=vx.size)(hy:y.length=vy.size)(hd:(D.fn f x y).flat?=some u):Value.func f vx vy=u:=by
 cases x with
 |cons=>simp[D.flat?] at hd
 |nil=>cases y with
  |cons=>simp[D.flat?] at hd
  |nil=>
   simp only[D.flat?,za0] at hd;rw[←hd,Array.eq_empty_of_size_eq_zero hx.symm,Array.eq_empty_of_size_eq_zero hy.symm]
theorem RelC.flat(h:RelC I w d v){u:Value}(hd:d.flat?=some u):v=u:=by
 cases h with
 |fn f x y vx vy hx hy _ _=>exact yZ hx hy hd
 |_=>first|(simp only[D.flat?,za0] at hd;exact hd)|(simp[D.flat?] at hd)
theorem RelV.flat(h:RelV I A G w d v){u:Value}(hd:d.flat?=some u):v=u:=by
 cases h with
 |clo h=>exact h.flat hd
 |fn f x y vx vy hx hy _ _=>exact yZ hx hy hd
 |_=>simp[D.flat?] at hd
theorem th{R:D→Value→Prop}{f:D→Option Value}(hf:∀{d v u},R d v→f d=some u→v=u){cs:List D}{vs:Array Value}{us:List Value}(hl:cs.length=vs.size)
  (hr:∀(j:Nat) (d:D) (v:Value),cs[j]?=some d→vs[j]?=some v→R d v) (hm:cZ f cs=some us):vs=us.toArray:=by
 obtain⟨h1,h2⟩:=cT hm;apply Array.ext
 ·simp[←hl,h1]
 ·intro i hi hi';have hc:cs[i]?=some (cs[i]'(by omega)):=zd2 (by omega);obtain⟨y,hy,hry⟩:=h2 i _ hc;have:=hf (hr i _ _ hc (Array.getElem?_eq_getElem hi)) hy;rw[this];have h3:=zc1.1 hry;obtain⟨_,h3⟩:=h3;simp[h3]
theorem rK{d:D}{u:Value}(h:∀cs,d≠ .agg cs):d.toV1=some u→d.flat?=some u:=by
 cases d<;>simp[D.toV1] at h ⊢
theorem uJ{d:D}{u:Value}(h:∀cs,d≠ .tup cs):d.toV=some u→d.toV1=some u:=by
 cases d<;>simp[D.toV] at h ⊢
theorem RelV.toV1(h:RelV I A G w d v){u:Value}(hd:d.toV1=some u):v=u:=by
 by_cases ha:∃cs,d= .agg cs
 ·obtain⟨cs,rfl⟩:=ha;simp only[D.toV1] at hd;split at hd
  ·rename_i us hm;simp only[za0] at hd;subst hd;cases h with
   |clo h=>cases h with
    |agg _ vs hl hr=>rw[th (R:=RelC I w) (fun h hd=>h.flat hd) hl hr hm]
   |agg _ vs hl hr=>rw[th (R:=RelV I A G w) (fun h hd=>h.flat hd) hl hr hm]
  ·cases hd
 ·exact h.flat (rK (fun cs e=>ha ⟨cs,e⟩) hd)
theorem RelC.toV1(h:RelC I w d v){u:Value}(hd:d.toV1=some u):v=u:=RelV.toV1 (A:=fun _ _=>none) (G:=fun _=>0) (.clo h) hd
theorem RelV.toV(h:RelV I A G w d v){u:Value}(hd:d.toV=some u):v=u:=by
 by_cases ha:∃cs,d= .tup cs
 ·obtain⟨cs,rfl⟩:=ha;simp only[D.toV] at hd;split at hd
  ·rename_i us hm;simp only[za0] at hd;subst hd;cases h with
   |clo h=>cases h with
    |tup _ vs hl hr=>rw[th (R:=RelC I w) (fun h hd=>h.toV1 hd) hl hr hm]
   |tup _ vs hl hr=>rw[th (R:=RelV I A G w) (fun h hd=>h.toV1 hd) hl hr hm]
  ·cases hd
 ·exact h.toV1 (uJ (fun cs e=>ha ⟨cs,e⟩) hd)
theorem uK{v:Value}{d:D}(h:Ai v=some d):RelC I w d v:=by
 unfold Ai at h;split at h<;>(try simp only[za0] at h)<;>(try subst h)
 ·exact .bool _
 ·exact .int _ _
 ·exact .str _
 ·exact .nilp
 ·exact .nils
 ·exact .mnil
 ·exact .nilf
 ·exact .nilif
 ·rename_i f a b;split at h
  ·rename_i h1 h2;simp only[za0] at h;subst h;have e1:a= #[]:=Array.toList_eq_nil_iff.1 h1;have e2:b= #[]:=Array.toList_eq_nil_iff.1 h2;subst e1 e2;exact .fn _ _ _ _ _ rfl rfl (fun j d v h=>by simp at h) (fun j d v h=>by simp at h)
  ·cases h
 ·cases h
theorem uL{v:Value}{d:D}(h:Aj v=some d):RelC I w d v:=by
 unfold Aj at h;split at h
 ·rename_i cs;split at h
  ·rename_i ds hm;simp only[za0] at h;subst h;obtain⟨h1,h2⟩:=cT hm;refine .agg _ _ (by simpa using h1.symm) fun j d v hd hv=> ?_;obtain⟨y,hy,hry⟩:=h2 j v (by simpa using hv);rw[hd] at hry;cases hry;exact uK hy
  ·cases h
 ·exact uK h
theorem eu{v:Value}{d:D}(h:BA v=some d):RelC I w d v:=by
 unfold BA at h;split at h
 ·rename_i cs;split at h
  ·rename_i ds hm;simp only[za0] at h;subst h;obtain⟨h1,h2⟩:=cT hm;refine .tup _ _ (by simpa using h1.symm) fun j d v hd hv=> ?_;obtain⟨y,hy,hry⟩:=h2 j v (by simpa using hv);rw[hd] at hry;cases hry;exact uL hy
  ·cases h
 ·exact uL h
end
theorem ti{α:Type}{P:Program}{s:Sem α}{a:α}(h:cb P s=some a)(w:World):s.run P w= .ok a w:=by
 induction s with
 |pure b=>simp only[cb,za0] at h;subst h;rfl
 |program k ih=>simp only[cb] at h;simp only[Sem.run];exact ih _ h
 |mark m k ih=>simp only[cb] at h;simp only[Sem.run];exact ih h
 |_=>simp[cb] at h
section
variable {I I':Nat→Prop}{w w':World}{d:D}{u v:Value}
theorem uM(h:d.flat?=some u):RelC I w d u:=by
 cases d<;>simp only[D.flat?,za0] at h<;>(try (subst h))<;>first
  |exact .bool _|exact .int _ _|exact .str _|exact .nilp|exact .nils|exact .mnil|exact .nilf|exact .nilif|(cases h;done)|skip
 rename_i f x y;cases x with
 |cons=>simp at h
 |nil=>cases y with
  |cons=>simp at h
  |nil=>
   simp only[za0] at h;subst h;exact .fn _ _ _ _ _ rfl rfl (fun j d v h=>by simp at h) (fun j d v h=>by simp at h)
theorem uN{R:D→Value→Prop}{f:D→Option Value}(hf:∀{d u},f d=some u→R d u){cs:List D}{us:List Value}(hm:cZ f cs=some us):
  cs.length=us.toArray.size∧∀(j:Nat) (d:D) (v:Value),cs[j]?=some d→us.toArray[j]?=some v→R d v:=by
 obtain⟨h1,h2⟩:=cT hm;refine⟨by simpa using h1,fun j d v hd hv=> ?_⟩;obtain⟨y,hy,hry⟩:=h2 j d hd;have:us[j]?=some v:=by simpa using hv
 rw[hry] at this;cases this;exact hf hy
theorem uO(h:d.toV1=some u):RelC I w d u:=by
 by_cases ha:∃cs,d= .agg cs
 ·obtain⟨cs,rfl⟩:=ha;simp only[D.toV1] at h;split at h
  ·rename_i us hm;simp only[za0] at h;subst h;obtain⟨h1,h2⟩:=uN (R:=RelC I w) uM hm;exact .agg _ _ h1 h2
  ·cases h
 ·exact uM (rK (fun cs e=>ha ⟨cs,e⟩) h)
theorem ew(h:d.toV=some u):RelC I w d u:=by
 by_cases ha:∃cs,d= .tup cs
 ·obtain⟨cs,rfl⟩:=ha;simp only[D.toV] at h;split at h
  ·rename_i us hm;simp only[za0] at h;subst h;obtain⟨h1,h2⟩:=uN (R:=RelC I w) uO hm;exact .tup _ _ h1 h2
  ·cases h
 ·exact uO (uJ (fun cs e=>ha ⟨cs,e⟩) h)
theorem RelC.toV(h:RelC I w d v)(hd:d.toV=some u):v=u:=RelV.toV (A:=fun _ _=>none) (G:=fun _=>0) (.clo h) hd
theorem Et(h:d.toV=some u):d.toVZ=some u:=by
 unfold D.toVZ;split
 ·cases h
 ·exact h
theorem lV(h:d.toVZ=some u):RelC I w d u:=by
 unfold D.toVZ at h;split at h
 ·cases h;exact .osln
 ·exact ew h
theorem RelC.toVZ(h:RelC I w d v)(hd:d.toVZ=some u):v=u:=by
 unfold D.toVZ at hd;split at hd
 ·cases hd;cases h;rfl
 ·exact h.toV hd
theorem GY{o:Bool}(h:Bz o d=true):d.plainZ=true:=by
 cases o
 ·obtain⟨u,hu⟩:=Option.isSome_iff_exists.1 (show d.toV.isSome=true from h);unfold D.plainZ;rw[Et hu];rfl
 ·exact h
theorem mP{o:Bool}{l:List D}(h:l.all (Bz o)=true):l.all D.plainZ=true:=zd7.2 fun d hd=>GY (zd7.1 h d hd)
theorem RelC.plain(h:RelC I w d v)(hp:d.plain=true):RelC I' w' d v:=by
 unfold D.plain at hp;obtain⟨u,hu⟩:=Option.isSome_iff_exists.1 hp;rw[h.toV hu];exact ew hu
theorem RelV.plain{A:Nat→Nat→Option Gh}{G:Nat→Nat}(h:RelV I A G w d v)(hp:d.plain=true):RelC I' w' d v:=by
 unfold D.plain at hp;obtain⟨u,hu⟩:=Option.isSome_iff_exists.1 hp;rw[h.toV hu];exact ew hu
end
theorem Eu{v:Value}{d:D}(h:Ai v=some d):d.nj=true:=by
 unfold Ai at h;split at h<;>first|(simp only[za0] at h;subst h;rfl)|(split at h<;>first|(simp only[za0] at h;subst h;rfl)|cases h)|cases h
theorem Ev{v:Value}{d:D}(h:Aj v=some d):d.nj=true:=by
 unfold Aj at h;split at h
 ·split at h
  ·simp only[za0] at h;subst h;rfl
  ·cases h
 ·exact Eu h
theorem tj{v:Value}{d:D}(h:BA v=some d):d.nj=true:=by
 unfold BA at h;split at h
 ·split at h
  ·simp only[za0] at h;subst h;rfl
  ·cases h
 ·exact Ev h
end Go.Pd
end
section
namespace Go.Pd
open Go.RowKit
def D.atom:D→Bool
 | .loc _ _ _| .own _ _ _| .win _ _ _ _ _| .mloc _ _| .fn _ _ _| .ifc _ _| .agg _| .tup _=>false
 |_=>true
inductive Clo:D→Prop where
 |atom {d:D} (h:d.atom=true):Clo d
 |fn (f:Fn) (x y:List D) (hx:∀d∈x,Clo d) (hy:∀d∈y,Clo d):Clo (.fn f x y)
 |ifc (t:TypeId) (d:D) (h:Clo d):Clo (.ifc t d)
 |agg (cs:List D) (h:∀d∈cs,Clo d):Clo (.agg cs)
 |tup (cs:List D) (h:∀d∈cs,Clo d):Clo (.tup cs)
theorem ol{l:List D}{vs:Array Value}(hl:l.length=vs.size)(h:∀(j:Nat) (d:D) (v:Value),l[j]?=some d→vs[j]?=some v→Clo d):∀d∈l,Clo d:=fun d hd=>by
 obtain⟨j,hj,rfl⟩:=List.getElem_of_mem hd;exact h j _ vs[j] (zd2 hj) (Array.getElem?_eq_getElem (by omega))
theorem RelC.clo{I:Nat→Prop}{w:World}{d:D}{v:Value}(h:RelC I w d v):Clo d:=by
 induction h with
 |fn f x y vx vy hx hy _ _ ihx ihy=>exact .fn f x y (ol hx ihx) (ol hy ihy)
 |ifc t d v _ ih=>exact .ifc t d ih
 |agg cs vs hl _ ih=>exact .agg cs (ol hl ih)
 |tup cs vs hl _ ih=>exact .tup cs (ol hl ih)
 |_=>exact .atom rfl
theorem RelV.toC{I:Nat→Prop}{w:World}{x:D}{v:Value}(hx:RelV I (fun _ _=>none) (fun _=>0) w x v):RelC I w x v:=by
 induction hx with
 |clo h=>exact h
 |loc _ _ _ _ hg=>exact absurd hg (Nat.not_lt_zero _)
 |own _ _ _ _ _ hg=>exact absurd hg (Nat.not_lt_zero _)
 |win _ _ _ _ _ _ _ hg=>exact absurd hg (Nat.not_lt_zero _)
 |mloc _ _ _ hg=>exact absurd hg (Nat.not_lt_zero _)
 |fn f x y vx vy hx hy _ _ ihx ihy=>exact .fn f x y vx vy hx hy ihx ihy
 |ifc t d v _ ih=>exact .ifc t d v ih
 |agg cs vs hl _ ih=>exact .agg cs vs hl ih
 |tup cs vs hl _ ih=>exact .tup cs vs hl ih
theorem RelV.closed{I:Nat→Prop}{A:Nat→Nat→Option Gh}{G:Nat→Nat}{w:World}{d:D}{v:Value}(h:RelV I A G w d v)(hc:Clo d):RelC I w d v:=by
 induction h with
 |clo h=>exact h
 |loc=>cases hc with|atom h=>cases h
 |own=>cases hc with|atom h=>cases h
 |win=>cases hc with|atom h=>cases h
 |mloc=>cases hc with|atom h=>cases h
 |fn f x y vx vy hx hy _ _ ihx ihy=>
  cases hc with
  |atom h=>cases h
  |fn _ _ _ h1 h2=>exact .fn f x y vx vy hx hy (fun j d v hd hv=>ihx j d v hd hv (h1 d (List.mem_of_getElem? hd))) (fun j d v hd hv=>ihy j d v hd hv (h2 d (List.mem_of_getElem? hd)))
 |ifc t d v _ ih=>
  cases hc with
  |atom h=>cases h
  |ifc _ _ h1=>exact .ifc t d v (ih h1)
 |agg cs vs hl _ ih=>
  cases hc with
  |atom h=>cases h
  |agg _ h1=>exact .agg cs vs hl (fun j d v hd hv=>ih j d v hd hv (h1 d (List.mem_of_getElem? hd)))
 |tup cs vs hl _ ih=>
  cases hc with
  |atom h=>cases h
  |tup _ h1=>exact .tup cs vs hl (fun j d v hd hv=>ih j d v hd hv (h1 d (List.mem_of_getElem? hd)))
structure Blw(K:Nat→Prop)(w w':World):Prop where
 os:w'.os=w.os
 tape:w'.tape=w.tape
 output:w'.output=w.output
 size:w.heap.size≤w'.heap.size
 block:∀k,K k→w'.heap[k]?=w.heap[k]?
theorem Blw.refl(K:Nat→Prop)(w:World):Blw K w w:=⟨rfl,rfl,rfl,zb0 _,fun _ _=>rfl⟩
theorem Blw.trans{K:Nat→Prop}{a b c:World}(h:Blw K a b)(k:Blw K b c):Blw K a c:=
 ⟨k.os.trans h.os,k.tape.trans h.tape,k.output.trans h.output,zb1 h.size k.size,fun i hi=>(k.block i hi).trans (h.block i hi)⟩
theorem Blw.mono{K K':Nat→Prop}{a b:World}(h:Blw K a b)(hk:∀k,K' k→K k):Blw K' a b:=⟨h.os,h.tape,h.output,h.size,fun k h'=>h.block k (hk k h')⟩
theorem Blw.below{B:Nat}{a b:World}(h:Blw (·<B) a b):Below B a b:=⟨h.os,h.tape,h.output,h.size,h.block⟩
theorem Blw.of_below{B:Nat}{a b:World}(h:Below B a b):Blw (·<B) a b:=⟨h.os,h.tape,h.output,h.size,h.block⟩
theorem Blw.of{K:Nat→Prop}{a b:World}{B:Nat}(h:Blw (·<B) a b)(hK:∀k,K k→k<B):Blw K a b:=h.mono hK
theorem Blw.drew{K:Nat→Prop}{a b:World}(h:Blw K a b):Blw K a b.drew:=⟨h.os,h.tape,h.output,h.size,h.block⟩
theorem Blw.alloc{K:Nat→Prop}{a b:World}(h:Blw K a b)(hB:∀k,K k→k<b.heap.size)(o:Obj):Blw K a (b.alloc o):=
 h.trans ((Blw.of_below (Below.refl b.heap.size b|>.alloc (zb0 _) o)).mono hB)
def OkOb(I:Nat→Prop)(A:Nat→Nat→Option Gh)(G:Nat→Nat)(w:World)(x:Gh):Ob→Prop
 | .box cs fz=>∃c e,w.heap[x.b]?=some (.cells c e (0,0))∧cs.length=c.size∧(∀(j:Nat) (d:D) (v:Value),cs[j]?=some d→c[j]?=some v→RelV I A G w d v)∧(fz=true↔I x.b)
 | .arr e n cs fz=>∃c,w.heap[x.b]?=some (.cells c e (0,0))∧c.size=x.cap*n∧x.cap≤maxLen∧x.len≤x.cap∧cs.length=x.len*n∧
   (∀(j:Nat) (d:D) (v:Value),cs[j]?=some d→c[j]?=some v→RelV I A G w d v)∧(fz=true↔I x.b)∧∀d∈cs,Clo d
 | .map ks vs fz=>∃es clock,w.heap[x.b]?=some (.map es clock)∧ks.length=es.size∧vs.length=es.size∧
   (∀(j:Nat) (d:D) (e:MapEntry),ks[j]?=some d→es[j]?=some e→RelV I A G w d e.key)∧(∀(j:Nat) (d:D) (e:MapEntry),vs[j]?=some d→es[j]?=some e→RelV I A G w d e.val)∧(fz=true↔I x.b)∧∀d,(d∈ks∨d∈vs)→Clo d
 | .mrf ks vs fz=>∃es clock,w.heap[x.b]?=some (.map es clock)∧ks.length=es.size∧vs.length=es.size∧
   (∀(j:Nat) (d:D) (e:MapEntry),ks[j]?=some d→es[j]?=some e→RelV I A G w d e.key)∧(∀(j:Nat) (d:D) (e:MapEntry),vs[j]?=some d→es[j]?=some e→RelV I A G w d e.val)∧(fz=true↔I x.b)∧∀d∈ks,Clo d
 | .sit s pos=>w.heap[x.b]?=some (.stringIter s pos)∧¬I x.b
 | .raw c e=>w.heap[x.b]?=some (.cells c e (0,0))∧¬I x.b
 | .nst e _ _ cs=>∃c,w.heap[x.b]?=some (.cells c e (0,0))∧c.size=x.cap∧x.cap≤maxLen∧x.len≤x.cap∧cs.length=x.len∧¬I x.b
def OkRow(I:Nat→Prop)(w:World)(er:TypeId)(nr:Nat):D→Value→Prop
 | .junk,_=>True
 | .nils,v=>v= .slice none 0 0
 | .slc full len rs,v=>full=false∧∃b cap c,v= .slice (some ⟨b,0,none⟩) len cap∧w.heap[b]?=some (.cells c er (0,0))∧c.size=cap*nr∧cap≤maxLen∧len≤cap∧rs.length=len*nr∧
   ∀(j:Nat) (d:D) (v:Value),rs[j]?=some d→c[j]?=some v→RelC I w d v
 |_,_=>False
structure RowAt(A:Nat→Nat→Option Gh)(H:List (Nat×Option Ob))(w:World)(x:Gh)(j b:Nat):Prop where
 ex:∃s g e er nr cs c f len rs cap,A s g=some x∧bi H s g=some (.nst e er nr cs)∧w.heap[x.b]?=some (.cells c e (0,0))∧cs[j]?=some (.slc f len rs)∧c[j]?=some (.slice (some ⟨b,0,none⟩) len cap)
structure Rows(B I:Nat→Prop)(A:Nat→Nat→Option Gh)(H:List (Nat×Option Ob))(w:World):Prop where
 ok:∀s g e er nr cs x c,bi H s g=some (.nst e er nr cs)→A s g=some x→w.heap[x.b]?=some (.cells c e (0,0))→∀(j:Nat) (d:D) (v:Value),cs[j]?=some d→c[j]?=some v→OkRow I w er nr d v
 sep:∀x j b,RowAt A H w x j b→b<w.heap.size∧¬I b∧¬B b∧∀s g z,A s g=some z→z.b≠b
 inj:∀x j x' j' b,RowAt A H w x j b→RowAt A H w x' j' b→x.b=x'.b∧j=j'
theorem OkRow.mono{I I':Nat→Prop}{w w':World}{er:TypeId}{nr:Nat}{d:D}{v:Value}(h:OkRow I w er nr d v)(hI:∀b,I b→I' b)(hwI:∀b,I b→w'.heap[b]?=w.heap[b]?)(hw:∀f len rs b cap,d= .slc f len rs→v= .slice (some ⟨b,0,none⟩) len cap→w'.heap[b]?=w.heap[b]?):OkRow I' w' er nr d v:=by
 cases d with
 |junk=>trivial
 |nils=>exact h
 |slc full len rs=>
  obtain⟨hf,b,cap,c,h1,h2,h3,h4,h5,h6,h7⟩:=h;exact⟨hf,b,cap,c,h1,(hw _ _ _ _ _ rfl h1).trans h2,h3,h4,h5,h6,fun j d v hd hv=>(h7 j d v hd hv).mono hI hwI⟩
 |_=>exact h
theorem RowAt.back{A:Nat→Nat→Option Gh}{H:List (Nat×Option Ob)}{w w':World}{x:Gh}{j b:Nat}(h:RowAt A H w' x j b)(hw:∀s g y,A s g=some y→w'.heap[y.b]?=w.heap[y.b]?):RowAt A H w x j b:=by
 obtain⟨s,g,e,er,nr,cs,c,f,len,rs,cap,h1,h2,h3,h4,h5⟩:=h;exact⟨s,g,e,er,nr,cs,c,f,len,rs,cap,h1,h2,(hw _ _ _ h1)▸h3,h4,h5⟩
def RowB(A:Nat→Nat→Option Gh)(H:List (Nat×Option Ob))(w:World)(b:Nat):Prop:=∃x j,RowAt A H w x j b
theorem RowB.back{A:Nat→Nat→Option Gh}{H:List (Nat×Option Ob)}{w w':World}{b:Nat}(h:RowB A H w' b)(hw:∀s g y,A s g=some y→w'.heap[y.b]?=w.heap[y.b]?):RowB A H w b:=by
 obtain⟨x,j,h⟩:=h;exact⟨x,j,h.back hw⟩
theorem Rows.sub{B B' I I':Nat→Prop}{A A':Nat→Nat→Option Gh}{H H':List (Nat×Option Ob)}{w w':World}(h:Rows B I A H w)
  (hm:∀s g e er nr cs x,bi H' s g=some (.nst e er nr cs)→A' s g=some x→∃s1 g1,bi H s1 g1=some (.nst e er nr cs)∧A s1 g1=some x)
  (hA:∀s g z,A' s g=some z→(∃s1 g1,A s1 g1=some z)∨∀x j b,RowAt A H w x j b→z.b≠b)
  (hwn:∀s g e er nr cs x,bi H s g=some (.nst e er nr cs)→A s g=some x→w'.heap[x.b]?=w.heap[x.b]?) (hwr:∀x j b,RowAt A H w x j b→w'.heap[b]?=w.heap[b]?∧¬I' b∧¬B' b) (hsz:w.heap.size≤w'.heap.size)
  (hI:∀b,I b→I' b) (hwI:∀b,I b→w'.heap[b]?=w.heap[b]?):Rows B' I' A' H' w':=by
 have hr:∀x j b,RowAt A' H' w' x j b→RowAt A H w x j b:=fun x j b ⟨s,g,e,er,nr,cs,c,f,len,rs,cap,h1,h2,h3,h4,h5⟩=>by
  obtain⟨s1,g1,k1,k2⟩:=hm s g e er nr cs x h2 h1;exact⟨s1,g1,e,er,nr,cs,c,f,len,rs,cap,k2,k1,(hwn _ _ _ _ _ _ _ k1 k2)▸h3,h4,h5⟩
 refine⟨fun s g e er nr cs x c h1 h2 h3 j d v hd hv=> ?_,fun x j b hb=> ?_,fun x j x' j' b h1 h2=>h.inj x j x' j' b (hr _ _ _ h1) (hr _ _ _ h2)⟩
 ·obtain⟨s1,g1,k1,k2⟩:=hm s g e er nr cs x h1 h2;have h3':=(hwn _ _ _ _ _ _ _ k1 k2)▸h3;refine(h.ok s1 g1 e er nr cs x c k1 k2 h3' j d v hd hv).mono hI hwI fun f len rs b cap e1 e2=> ?_;subst e1 e2;exact(hwr x j b ⟨s1,g1,e,er,nr,cs,c,f,len,rs,cap,k2,k1,h3',hd,hv⟩).1
 ·obtain⟨q1,q2,q3,q4⟩:=h.sep x j b (hr _ _ _ hb);obtain⟨_,q5,q6⟩:=hwr x j b (hr _ _ _ hb);refine⟨zb2 q1 hsz,q5,q6,fun s g z hz=> ?_⟩;rcases hA s g z hz with⟨s1,g1,hz1⟩|hz1
  ·exact q4 s1 g1 z hz1
  ·exact hz1 _ _ _ (hr _ _ _ hb)
theorem Rows.sub0{B I:Nat→Prop}{A A':Nat→Nat→Option Gh}{H H':List (Nat×Option Ob)}{w:World}(h:Rows B I A H w)
  (hm:∀s g e er nr cs x,bi H' s g=some (.nst e er nr cs)→A' s g=some x→∃s1 g1,bi H s1 g1=some (.nst e er nr cs)∧A s1 g1=some x)
  (hA:∀s g z,A' s g=some z→∃s1 g1,A s1 g1=some z):Rows B I A' H' w:=
 h.sub hm (fun s g z hz=> .inl (hA s g z hz)) (fun _ _ _ _ _ _ _ _ _=>rfl) (fun x j b hb=>⟨rfl,(h.sep x j b hb).2.1,(h.sep x j b hb).2.2.1⟩) (zb0 _) (fun _ hb=>hb) fun _ _=>rfl
theorem Rows.none{B I:Nat→Prop}{A:Nat→Nat→Option Gh}{H:List (Nat×Option Ob)}{w:World}(h:∀s g o,bi H s g=some o→o.isNst=false):Rows B I A H w:=by
 have hr:∀x j b,¬RowAt A H w x j b:=fun x j b ⟨s,g,e,er,nr,cs,c,f,len,rs,cap,h1,h2,_⟩=>by have:=h _ _ _ h2;cases this
 exact⟨fun s g e er nr cs x c h1=>(by have:=h _ _ _ h1;cases this),fun x j b hb=>absurd hb (hr _ _ _),fun x j x' j' b hb=>absurd hb (hr _ _ _)⟩
def Marks(B I:Nat→Prop)(w:World)(ds:List Deferred):Prop:=
 ∃rs:List Nat,rs.Nodup∧ds.map (·.target)=rs.map Target.collected∧∀r∈rs,I r∧¬B r∧w.heap[r]?=some (.deferred (some []))
theorem Marks.mono{B I I':Nat→Prop}{w w':World}{ds:List Deferred}(h:Marks B I w ds)(hI:∀b,I b→I' b)(hw:∀b,I b→w'.heap[b]?=w.heap[b]?):Marks B I' w' ds:=by
 obtain⟨rs,h1,h2,h3⟩:=h;exact⟨rs,h1,h2,fun r hr=>⟨hI _ (h3 r hr).1,(h3 r hr).2.1,(hw _ (h3 r hr).1).trans (h3 r hr).2.2⟩⟩
theorem Marks.nil{B I:Nat→Prop}{w:World}:Marks B I w []:=⟨[],List.nodup_nil,rfl,fun r hr=>by cases hr⟩
structure Inv(I0:Nat→Prop)(B:Nat→Prop)(I:Nat→Prop)(A:Nat→Nat→Option Gh)(σ:St)(a:Act)(w:World):Prop where
 tl:σ.T.length=a.tmps.size
 tv:∀(t:Nat) (d:D) (v:Value),σ.T[t]?=some d→a.tmps[t]?=some v→RelV I A (bl σ.H) w d v
 ob:∀s g o,bi σ.H s g=some o→∃x,A s g=some x∧(I x.b∨¬B x.b)∧OkOb I A (bl σ.H) w x o
 ar:∀s g x,A s g=some x→∃o,bi σ.H s g=some o
 inj:∀s g x s' g' x',A s g=some x→A s' g'=some x'→x.b=x'.b→s=s'∧g=g'
 iw:∀b,I b→b<w.heap.size
 io:∀b,I b→I0 b∨¬B b
 ii:∀b,I0 b→I b
 df:Marks B I w a.defers
 rw:Rows B I A σ.H w
theorem liveH_some{H:List (Nat×Option Ob)}{s g:Nat}{o:Ob}:bi H s g=some o↔H[s]?=some (g+1,some o):=by
 unfold bi;split
 ·rename_i n o' h;rw[h];constructor
  ·intro h1;split at h1
   ·rename_i hn;cases h1;subst hn;rfl
   ·cases h1
  ·intro h1;cases h1;simp
 ·rename_i h;constructor
  ·intro h1;cases h1
  ·intro h1;exact absurd h1 (h _ _)
theorem bT{H:List (Nat×Option Ob)}{s g:Nat}{o:Ob}(h:bi H s g=some o):bl H s=g+1:=by
 rw[liveH_some] at h;simp[bl,h]
theorem dq{H:List (Nat×Option Ob)}{s g:Nat}{o:Ob}(h:bi H s g=some o):s<H.length:=by
 rw[liveH_some] at h;exact(zc1.1 h).1
theorem cu{H:List (Nat×Option Ob)}{s n:Nat}{o:Option Ob}(h:s<H.length):bl (H.set s (n,o)) s=n:=by
 simp[bl,h]
theorem cq{H:List (Nat×Option Ob)}{s s' n:Nat}{o:Option Ob}(h:s≠s'):bl (H.set s (n,o)) s'=bl H s':=by
 simp[bl,h]
theorem bQ{H:List (Nat×Option Ob)}{s n g:Nat}{o:Option Ob}(h:s<H.length):bi (H.set s (n,o)) s g=if n=g+1 then o else none:=by
 simp only[bi,List.getElem?_set,h];cases o<;>simp
theorem bO{H:List (Nat×Option Ob)}{s s' n g:Nat}{o:Option Ob}(h:s≠s'):bi (H.set s (n,o)) s' g=bi H s' g:=by
 simp[bi,h]
section
variable {I0:Nat→Prop}{B:Nat→Prop}{I:Nat→Prop}{A:Nat→Nat→Option Gh}{σ:St}{a:Act}{w:World}
theorem Inv.A_lt(h:Inv I0 B I A σ a w){s g:Nat}{x:Gh}(hx:A s g=some x):x.b<w.heap.size:=by
 obtain⟨o,ho⟩:=h.ar s g x hx;obtain⟨x',hx',_,hok⟩:=h.ob s g o ho;rw[hx] at hx';cases hx';cases o with
 |box cs fz=>obtain⟨c,e,hb,_⟩:=hok;exact(zc0.1 hb).1
 |arr e n cs fz=>obtain⟨c,hb,_⟩:=hok;exact(zc0.1 hb).1
 |map ks vs fz=>obtain⟨c,e,hb,_⟩:=hok;exact(zc0.1 hb).1
 |mrf ks vs fz=>obtain⟨c,e,hb,_⟩:=hok;exact(zc0.1 hb).1
 |sit s pos=>exact(zc0.1 hok.1).1
 |raw c e=>exact(zc0.1 hok.1).1
 |nst e er nr cs=>obtain⟨c,hb,_⟩:=hok;exact(zc0.1 hb).1
theorem Inv.put(h:Inv I0 B I A σ a w)(dst:Option Tmp){d:D}{v:Value}(hr:RelV I A (bl σ.H) w d v):Inv I0 B I A (σ.put dst d) (a.put dst v) w:=by
 cases dst with
 |none=>exact h
 |some t=>
  refine⟨by simpa [St.put,Act.put] using h.tl,fun t' d' v' hd hv=> ?_,h.ob,h.ar,h.inj,h.iw,h.io,h.ii,h.df,h.rw⟩;simp only[St.put,Act.put,List.getElem?_set,Array.getElem?_setIfInBounds] at hd hv ⊢;by_cases e:t=t'
  ·subst e;by_cases hlt:t<σ.T.length
   ·have hlt':t<a.tmps.size:=by rw[←h.tl];exact hlt
    simp[hlt] at hd;simp[hlt'] at hv;subst hd hv;exact hr
   ·simp[hlt] at hd
  ·simp only[e,if_false] at hd hv;exact h.tv t' d' v' hd hv
theorem OkOb.carry{I':Nat→Prop}{A':Nat→Nat→Option Gh}{G G':Nat→Nat}{w':World}{x:Gh}{o:Ob}(h:OkOb I A G w x o)
  (hR:∀d v,RelV I A G w d v→RelV I' A' G' w' d v) (hb:w'.heap[x.b]?=w.heap[x.b]?) (hI:I' x.b↔I x.b):OkOb I' A' G' w' x o:=by
 cases o with
 |box cs fz=>obtain⟨c,e,h1,h2,h3,h4⟩:=h;exact⟨c,e,hb.trans h1,h2,fun j d v hd hv=>hR _ _ (h3 j d v hd hv),h4.trans hI.symm⟩
 |arr e n cs fz=>obtain⟨c,h1,h2,h3,h4,h5,h6,h7⟩:=h;exact⟨c,hb.trans h1,h2,h3,h4,h5,fun j d v hd hv=>hR _ _ (h6 j d v hd hv),h7.1.trans hI.symm,h7.2⟩
 |map ks vs fz=>obtain⟨es,ck,h1,h2,h3,h4,h5,h6⟩:=h;exact⟨es,ck,hb.trans h1,h2,h3,fun j d v hd hv=>hR _ _ (h4 j d v hd hv),fun j d v hd hv=>hR _ _ (h5 j d v hd hv),h6.1.trans hI.symm,h6.2⟩
 |mrf ks vs fz=>obtain⟨es,ck,h1,h2,h3,h4,h5,h6⟩:=h;exact⟨es,ck,hb.trans h1,h2,h3,fun j d v hd hv=>hR _ _ (h4 j d v hd hv),fun j d v hd hv=>hR _ _ (h5 j d v hd hv),h6.1.trans hI.symm,h6.2⟩
 |sit s pos=>exact⟨hb.trans h.1,fun hi=>h.2 (hI.1 hi)⟩
 |raw c e=>exact⟨hb.trans h.1,fun hi=>h.2 (hI.1 hi)⟩
 |nst e er nr cs=>obtain⟨c,h1,h2,h3,h4,h5,h6⟩:=h;exact⟨c,hb.trans h1,h2,h3,h4,h5,fun hi=>h6 (hI.1 hi)⟩
theorem Inv.world(h:Inv I0 B I A σ a w){w':World}{I':Nat→Prop}(hs:w.heap.size≤w'.heap.size)(hw:∀b,b<w.heap.size→w'.heap[b]?=w.heap[b]?)
  (hI:∀b,I b→I' b) (hI':∀b,I' b→I b∨(w.heap.size≤b∧b<w'.heap.size)) (hB:∀k,B k→k<w.heap.size):
  Inv I0 B I' A σ a w'∧∀d v,RelV I A (bl σ.H) w d v→RelV I' A (bl σ.H) w' d v:=by
 have hR:∀d v,RelV I A (bl σ.H) w d v→RelV I' A (bl σ.H) w' d v:=fun d v hr=>
  hr.mono hI (fun b hb=>hw b (h.iw b hb)) (fun _=>zb0 _) (fun _ _ _ _ hx=>hx)
 refine⟨⟨h.tl,fun t d v hd hv=>hR _ _ (h.tv t d v hd hv),fun s g o ho=> ?_,h.ar,h.inj,fun b hb=> ?_,fun b hb=> ?_,fun b hb=>hI b (h.ii b hb),h.df.mono hI fun b hb=>hw b (h.iw b hb),
  h.rw.sub (fun s g _ _ _ _ _ k1 k2=>⟨s,g,k1,k2⟩) (fun s g _ hz=> .inl ⟨s,g,hz⟩) (fun s g _ _ _ _ _ _ k2=>hw _ (h.A_lt k2)) (fun x j b hb=>by
   obtain⟨q1,q2,q3,_⟩:=h.rw.sep x j b hb;exact⟨hw b q1,fun hi=>by rcases hI' b hi with h1|h1;exact q2 h1;omega,q3⟩) hs hI fun b hb=>hw b (h.iw b hb)⟩,hR⟩
 ·obtain⟨x,hx,hxB,hok⟩:=h.ob s g o ho;have hlt:=h.A_lt hx;refine⟨x,hx,hxB.imp (hI _) id,hok.carry hR (hw _ hlt) ⟨fun hi=> ?_,hI _⟩⟩;rcases hI' _ hi with h1|h1
  ·exact h1
  ·omega
 ·rcases hI' b hb with h1|h1
  ·have:=h.iw b h1;omega
  ·exact h1.2
 ·rcases hI' b hb with h1|h1
  ·exact h.io b h1
  ·exact .inr fun hk=>by have:=hB _ hk;omega
theorem Inv.new(h:Inv I0 B I A σ a w){s:Nat}(hs:s<σ.H.length){w':World}{x:Gh}{o:Ob}
  (hB:¬B x.b) (KB:∀s' g' y,A s' g'=some y→y.b≠x.b) (hsz:w.heap.size≤w'.heap.size) (hwI:∀b,I b→w'.heap[b]?=w.heap[b]?) (hwA:∀s' g' y,A s' g'=some y→w'.heap[y.b]?=w.heap[y.b]?)
  (hok:∀A' G',(∀d v,RelV I A (bl σ.H) w d v→RelV I A' G' w' d v)→OkOb I A' G' w' x o) (hrow:∀y j b,RowAt A σ.H w y j b→x.b≠b∧w'.heap[b]?=w.heap[b]?) (hno:o.isNst=false:=by rfl):
  ∃A',Inv I0 B I A' (σ.newOb s o) a w'∧A' s (bl σ.H s)=some x∧(∀d v,RelV I A (bl σ.H) w d v→RelV I A' (bl (σ.newOb s o).H) w' d v)∧∀s' g',A' s' g'=if s'=s then(if g'=bl σ.H s then some x else none) else A s' g':=by
 let A':Nat→Nat→Option Gh:=fun s' g'=>if s'=s then(if g'=bl σ.H s then some x else none) else A s' g'
 have hgen:∀s',bl (σ.newOb s o).H s'=if s'=s then bl σ.H s+1 else bl σ.H s':=by
  intro s';by_cases e:s'=s
  ·subst e;simp only[St.newOb,cu hs,if_true]
  ·simp only[St.newOb,cq (Ne.symm e),e,if_false]
 have hlive:∀s' g',bi (σ.newOb s o).H s' g'=if s'=s then(if g'=bl σ.H s then some o else none) else bi σ.H s' g':=by
  intro s' g';by_cases e:s'=s
  ·subst e;simp only[St.newOb,bQ hs,if_true];by_cases e2:g'=bl σ.H s'<;>simp[e2];intro e3;exact absurd e3.symm e2
  ·simp only[St.newOb,bO (Ne.symm e),e,if_false]
 have hR:∀d v,RelV I A (bl σ.H) w d v→RelV I A' (bl (σ.newOb s o).H) w' d v:=fun d v hr=>
  hr.mono (fun _ hb=>hb) hwI (fun s'=>by rw[hgen];split<;>simp_all) (fun s' g' y hg hy=>by
   simp only[A'] at hy;by_cases e:s'=s
   ·subst e;have:g'≠bl σ.H s':=by omega
    simp[this] at hy
   ·simpa [e] using hy)
 refine⟨A',⟨h.tl,fun t d v hd hv=>hR _ _ (h.tv t d v hd hv),fun s' g' o' ho=> ?_,fun s' g' y hy=> ?_,fun s1 g1 x1 s2 g2 x2 h1 h2 he=> ?_,fun b hb=>by have:=h.iw b hb;omega,h.io,h.ii,h.df.mono (fun _ hb=>hb) hwI,?_⟩,by simp[A'],hR,fun _ _=>rfl⟩
 ·rw[hlive] at ho;by_cases e:s'=s
  ·subst e;simp only[if_true] at ho;split at ho
   ·rename_i e2;cases ho;refine⟨x,by simp[A',e2],.inr hB,hok _ _ hR⟩
   ·cases ho
  ·simp only[e,if_false] at ho;obtain⟨y,hy,hyB,hoky⟩:=h.ob s' g' o' ho;exact⟨y,by simp[A',e,hy],hyB,hoky.carry hR (hwA _ _ _ hy) Iff.rfl⟩
 ·simp only[A'] at hy;by_cases e:s'=s
  ·subst e;simp only[if_true] at hy;split at hy
   ·rename_i e2;exact⟨o,by rw[hlive];simp[e2]⟩
   ·cases hy
  ·simp only[e,if_false] at hy;obtain⟨o',ho'⟩:=h.ar s' g' y hy;exact⟨o',by rw[hlive];simp[e,ho']⟩
 ·simp only[A'] at h1 h2;by_cases e1:s1=s<;>by_cases e2:s2=s
  ·subst e1;subst e2;simp only[if_true] at h1 h2;split at h1<;>split at h2<;>first|(rename_i a b;exact⟨rfl,a.trans b.symm⟩)|(cases h1;done)|(cases h2;done)
  ·subst e1;simp only[if_true] at h1;simp only[e2,if_false] at h2;split at h1
   ·cases h1;exact absurd he.symm (KB _ _ _ h2)
   ·cases h1
  ·subst e2;simp only[if_true] at h2;simp only[e1,if_false] at h1;split at h2
   ·cases h2;exact absurd he (KB _ _ _ h1)
   ·cases h2
  ·simp only[e1,e2,if_false] at h1 h2;exact h.inj s1 g1 x1 s2 g2 x2 h1 h2 he
 ·refine h.rw.sub (fun s' g' e er nr cs y k1 k2=> ?_) (fun s' g' z hz=> ?_) (fun s' g' _ _ _ _ y _ k2=>hwA _ _ _ k2) (fun y j b hb=>⟨(hrow y j b hb).2,(h.rw.sep y j b hb).2.1,(h.rw.sep y j b hb).2.2.1⟩) hsz (fun _ hb=>hb) hwI
  ·rw[hlive] at k1;by_cases e1:s'=s
   ·simp only[e1,if_true] at k1;split at k1
    ·cases k1;cases hno
    ·cases k1
   ·simp only[e1,if_false] at k1;simp only[A',e1,if_false] at k2;exact⟨s',g',k1,k2⟩
  ·simp only[A'] at hz;split at hz
   ·split at hz
    ·cases hz;exact .inr fun y j b hb=>(hrow y j b hb).1
    ·cases hz
   ·exact .inl ⟨s',g',hz⟩
theorem Inv.setG(h:Inv I0 B I A σ a w){s g:Nat}{o o':Ob}{x:Gh}(ho:bi σ.H s g=some o)(hx:A s g=some x)(hnI:¬I x.b){w':World}
  (hsz:w'.heap.size=w.heap.size) (hw:∀b,b≠x.b→w'.heap[b]?=w.heap[b]?)
  (hok:(∀d v,RelV I A (bl σ.H) w d v→RelV I A (bl σ.H) w' d v)→OkOb I A (bl σ.H) w' x o') (hrw:Rows B I A (σ.setOb s (some o')).H w'):
  Inv I0 B I A (σ.setOb s (some o')) a w'∧∀d v,RelV I A (bl σ.H) w d v→RelV I A (bl (σ.setOb s (some o')).H) w' d v:=by
 have hs:=dq ho;have hg:=bT ho;have hgen:∀s',bl (σ.setOb s (some o')).H s'=bl σ.H s':=by
  intro s';by_cases e:s'=s
  ·subst e;simp only[St.setOb,cu hs]
  ·simp only[St.setOb,cq (Ne.symm e)]
 have hlive:∀s' g',bi (σ.setOb s (some o')).H s' g'=if s'=s then(if g'=g then some o' else none) else bi σ.H s' g':=by
  intro s' g';by_cases e:s'=s
  ·subst e;simp only[St.setOb,bQ hs,if_true,hg];by_cases e2:g'=g
   ·simp[e2]
   ·simp[e2,Ne.symm e2]
  ·simp only[St.setOb,bO (Ne.symm e),e,if_false]
 have hR:∀d v,RelV I A (bl σ.H) w d v→RelV I A (bl σ.H) w' d v:=fun d v hr=>
  hr.mono (fun _ hb=>hb) (fun b hb=>hw b (fun e=>hnI (e▸hb))) (fun _=>zb0 _) (fun _ _ _ _ hy=>hy)
 have hgf:bl (σ.setOb s (some o')).H=bl σ.H:=funext hgen;refine⟨⟨h.tl,fun t d v hd hv=>by rw[hgf];exact hR _ _ (h.tv t d v hd hv),fun s' g' o'' ho''=> ?_,fun s' g' y hy=> ?_,h.inj,fun b hb=>by rw[hsz];exact h.iw b hb,h.io,h.ii,h.df.mono (fun _ hb=>hb) fun b hb=>hw b fun e=>hnI (e▸hb),hrw⟩,by rw[hgf];exact hR⟩
 ·rw[hlive] at ho'';rw[hgf];by_cases e:s'=s
  ·subst e;simp only[if_true] at ho'';split at ho''
   ·rename_i e2;cases ho'';subst e2;obtain⟨y,hy,hyB,_⟩:=h.ob _ _ _ ho;rw[hx] at hy;cases hy;exact⟨x,hx,hyB,hok hR⟩
   ·cases ho''
  ·simp only[e,if_false] at ho'';obtain⟨y,hy,hyB,hoky⟩:=h.ob s' g' o'' ho'';refine⟨y,hy,hyB,hoky.carry hR (hw _ (fun eb=>e (h.inj _ _ _ _ _ _ hy hx eb).1)) Iff.rfl⟩
 ·obtain⟨o1,ho1⟩:=h.ar s' g' y hy;rw[hlive];by_cases e:s'=s
  ·subst e;have:g'=g:=by have:=bT ho1;omega
   exact⟨o',by simp[this]⟩
  ·exact⟨o1,by simp[e,ho1]⟩
theorem Inv.set(h:Inv I0 B I A σ a w){s g:Nat}{o o':Ob}{x:Gh}(ho:bi σ.H s g=some o)(hx:A s g=some x)(hnI:¬I x.b){w':World}
  (hsz:w'.heap.size=w.heap.size) (hw:∀b,b≠x.b→w'.heap[b]?=w.heap[b]?)
  (hok:(∀d v,RelV I A (bl σ.H) w d v→RelV I A (bl σ.H) w' d v)→OkOb I A (bl σ.H) w' x o') (hno:o.isNst=false:=by rfl) (hno':o'.isNst=false:=by rfl):
  Inv I0 B I A (σ.setOb s (some o')) a w'∧∀d v,RelV I A (bl σ.H) w d v→RelV I A (bl (σ.setOb s (some o')).H) w' d v:=by
 have hs:=dq ho;have hg:=bT ho;have hlive:∀s' g',bi (σ.setOb s (some o')).H s' g'=if s'=s then(if g'=g then some o' else none) else bi σ.H s' g':=by
  intro s' g';by_cases e:s'=s
  ·subst e;simp only[St.setOb,bQ hs,if_true,hg];by_cases e2:g'=g
   ·simp[e2]
   ·simp[e2,Ne.symm e2]
  ·simp only[St.setOb,bO (Ne.symm e),e,if_false]
 refine h.setG ho hx hnI hsz hw hok ?_;refine h.rw.sub (fun s' g' e er nr cs y k1 k2=> ?_) (fun s' g' z hz=> .inl ⟨s',g',hz⟩) (fun s' g' e er nr cs y k1 k2=>hw _ fun eb=> ?_) (fun y j b hb=>⟨hw _ fun eb=> ?_,(h.rw.sep y j b hb).2.1,(h.rw.sep y j b hb).2.2.1⟩) (Nat.le_of_eq hsz.symm) (fun _ hb=>hb) (fun b hb=>hw b fun e=>hnI (e▸hb))
 ·rw[hlive] at k1;split at k1
  ·split at k1
   ·cases k1;cases hno'
   ·cases k1
  ·exact⟨s',g',k1,k2⟩
 ·obtain⟨rfl,rfl⟩:=h.inj _ _ _ _ _ _ k2 hx eb;rw[k1] at ho;cases ho;cases hno
 ·exact(h.rw.sep y j b hb).2.2.2 _ _ _ hx eb.symm
theorem Inv.kill(h:Inv I0 B I A σ a w)(s:Nat)(hs:s<σ.H.length):
  ∃A',Inv I0 B I A' (σ.setOb s none) a w∧(∀s' g,s'≠s→A' s' g=A s' g)∧(∀g,A' s g=none)∧(∀d v,RelV I A (bl σ.H) w d v→RelV I A' (bl (σ.setOb s none).H) w d v):=by
 let A':Nat→Nat→Option Gh:=fun s' g'=>if s'=s then none else A s' g'
 have hgen:∀s',bl (σ.setOb s none).H s'=bl σ.H s':=by
  intro s';by_cases e:s'=s
  ·subst e;simp only[St.setOb,cu hs]
  ·simp only[St.setOb,cq (Ne.symm e)]
 have hgf:bl (σ.setOb s none).H=bl σ.H:=funext hgen;have hlive:∀s' g',bi (σ.setOb s none).H s' g'=if s'=s then none else bi σ.H s' g':=by
  intro s' g';by_cases e:s'=s
  ·subst e;simp only[St.setOb,bQ hs,if_true,ite_self]
  ·simp only[St.setOb,bO (Ne.symm e),e,if_false]
 have hR:∀d v,RelV I A (bl σ.H) w d v→RelV I A' (bl σ.H) w d v:=fun d v hr=>
  hr.mono (fun _ hb=>hb) (fun b _=>rfl) (fun _=>zb0 _) (fun s' g' y hg hy=>by
   simp only[A'] at hy;split at hy
   ·cases hy
   ·exact hy)
 refine⟨A',⟨h.tl,fun t d v hd hv=>by rw[hgf];exact hR _ _ (h.tv t d v hd hv),fun s' g' o' ho=> ?_,fun s' g' y hy=> ?_,fun s1 g1 x1 s2 g2 x2 h1 h2 he=> ?_,h.iw,h.io,h.ii,h.df,?_⟩,fun s' g e=>by simp[A',e],fun g=>by simp[A'],by rw[hgf];exact hR⟩
 ·rw[hlive] at ho;rw[hgf];split at ho
  ·cases ho
  ·rename_i e;obtain⟨y,hy,hyB,hoky⟩:=h.ob s' g' o' ho;exact⟨y,by simp[A',e,hy],hyB,hoky.carry hR rfl Iff.rfl⟩
 ·simp only[A'] at hy;split at hy
  ·cases hy
  ·rename_i e;obtain⟨o1,ho1⟩:=h.ar s' g' y hy;exact⟨o1,by rw[hlive];simp[e,ho1]⟩
 ·simp only[A'] at h1 h2;split at h1
  ·cases h1
  ·split at h2
   ·cases h2
   ·exact h.inj s1 g1 x1 s2 g2 x2 h1 h2 he
 ·refine h.rw.sub0 (fun s' g' e er nr cs y k1 k2=> ?_) (fun s' g' z hz=> ?_)
  ·rw[hlive] at k1;simp only[A'] at k2;split at k1
   ·cases k1
   ·rename_i e1;simp only[e1,if_false] at k2;exact⟨s',g',k1,k2⟩
  ·simp only[A'] at hz;split at hz
   ·cases hz
   ·exact⟨s',g',hz⟩
theorem lk(H:List (Nat×Option Ob))(s g:Nat):bi (H++[(0,none)]) s g=bi H s g:=by
 unfold bi;by_cases h:s<H.length
 ·rw[zb9 h]
 ·rw[zd3 (l:=H) (by omega),zb8 (by omega)];cases hs:s-H.length with
  |zero=>rfl
  |succ n=>rfl
theorem genH_grow(H:List (Nat×Option Ob))(s:Nat):bl (H++[(0,none)]) s=bl H s:=by
 unfold bl;by_cases h:s<H.length
 ·rw[zb9 h]
 ·rw[zd3 (l:=H) (by omega),zb8 (by omega)];cases hs:s-H.length with
  |zero=>rfl
  |succ n=>rfl
theorem Inv.grow(h:Inv I0 B I A σ a w):Inv I0 B I A σ.grow a w:=by
 have hg:bl σ.grow.H=bl σ.H:=funext (genH_grow σ.H);have hl:∀s g,bi σ.grow.H s g=bi σ.H s g:=lk σ.H;refine⟨h.tl,by rw[hg];exact h.tv,fun s g o ho=> ?_,fun s g x hx=> ?_,h.inj,h.iw,h.io,h.ii,h.df,h.rw.sub0 (fun s g _ _ _ _ _ k1 k2=>⟨s,g,by rw[hl] at k1;exact k1,k2⟩) fun s g _ hz=>⟨s,g,hz⟩⟩
 ·rw[hg];rw[hl] at ho;exact h.ob s g o ho
 ·rw[hl];exact h.ar s g x hx
theorem RowAt.unkill{A1:Nat→Nat→Option Gh}{s:Nat}{x:Gh}{j b:Nat}(h:RowAt A1 (σ.setOb s none).H w x j b)(h1:∀s' g,s'≠s→A1 s' g=A s' g)(h2:∀g,A1 s g=none):RowAt A σ.H w x j b:=by
 obtain⟨s',g',e,er,nr,cs,c,f,len,rs,cap,k1,k2,k3,k4,k5⟩:=h;by_cases es:s'=s
 ·subst es;rw[h2] at k1;cases k1
 ·rw[h1 s' g' es] at k1;simp only[St.setOb,bO (Ne.symm es)] at k2;exact⟨s',g',e,er,nr,cs,c,f,len,rs,cap,k1,k2,k3,k4,k5⟩
theorem OkOb.freeze{I':Nat→Prop}{G:Nat→Nat}{x:Gh}{o:Ob}(h:OkOb I A G w x o)(hR:∀d v,RelV I A G w d v→RelV I' A G w d v)(hI:I' x.b)(hs:o.fzb=true):OkOb I' A G w x o.freeze:=by
 cases o with
 |box cs fz=>obtain⟨c,e,h1,h2,h3,h4⟩:=h;exact⟨c,e,h1,h2,fun j d v hd hv=>hR _ _ (h3 j d v hd hv),⟨fun _=>hI,fun _=>rfl⟩⟩
 |arr e n cs fz=>obtain⟨c,h1,h2,h3,h4,h5,h6,h7⟩:=h;exact⟨c,h1,h2,h3,h4,h5,fun j d v hd hv=>hR _ _ (h6 j d v hd hv),⟨fun _=>hI,fun _=>rfl⟩,h7.2⟩
 |map ks vs fz=>obtain⟨es,ck,h1,h2,h3,h4,h5,h6⟩:=h;exact⟨es,ck,h1,h2,h3,fun j d v hd hv=>hR _ _ (h4 j d v hd hv),fun j d v hd hv=>hR _ _ (h5 j d v hd hv),⟨fun _=>hI,fun _=>rfl⟩,h6.2⟩
 |mrf ks vs fz=>obtain⟨es,ck,h1,h2,h3,h4,h5,h6⟩:=h;exact⟨es,ck,h1,h2,h3,fun j d v hd hv=>hR _ _ (h4 j d v hd hv),fun j d v hd hv=>hR _ _ (h5 j d v hd hv),⟨fun _=>hI,fun _=>rfl⟩,h6.2⟩
 |sit s pos=>cases hs
 |raw c e=>cases hs
 |nst e er nr cs=>cases hs
theorem gT(o:Ob):o.freeze.freeze=o.freeze:=by cases o<;>rfl
def to:Option (Nat×Option Ob)→Option (Nat×Option Ob)
 |some (n,some o)=>some (n,some o.freeze)
 |x=>x
theorem dr:∀(ss:List Nat) (H:List (Nat×Option Ob)),(br H ss).length=H.length
 |[],H=>rfl
 |s::ss,H=>by simp only[br];rw[dr ss];simp
theorem Al(p:Option (Nat×Option Ob)):to (to p)=to p:=by
 rcases p with _|⟨n,_|o⟩<;>simp[to,gT]
theorem uP(H:List (Nat×Option Ob))(s:Nat):(H.set s (bl H s,HO H[s]?))[s]?=to H[s]?:=by
 rw[List.getElem?_set];unfold bl;cases hh:H[s]? with
 |none=>rw[List.getElem?_eq_none_iff] at hh;simp[to];omega
 |some p=>
  have:=(zc1.1 hh).1;obtain⟨n,o⟩:=p;cases o<;>simp[this,to,HO]
theorem fC:∀(ss:List Nat) (H:List (Nat×Option Ob)) (s:Nat),(br H ss)[s]?=if s∈ss then to H[s]? else H[s]?
 |[],H,s=>by simp[br]
 |s0::ss,H,s=>by
  simp only[br];rw[fC ss];by_cases e:s=s0
  ·subst e;rw[uP];simp[Al]
  ·rw[List.getElem?_set];simp[Ne.symm e,e]
theorem genH_freeze(ss:List Nat)(H:List (Nat×Option Ob))(s:Nat):bl (br H ss) s=bl H s:=by
 unfold bl;rw[fC];by_cases e:s∈ss
 ·simp only[e,if_true];rcases H[s]? with _|⟨n,_|o⟩<;>rfl
 ·simp only[e,if_false]
theorem ch(ss:List Nat)(H:List (Nat×Option Ob))(s g:Nat):bi (br H ss) s g=if s∈ss then(bi H s g).map Ob.freeze else bi H s g:=by
 unfold bi;rw[fC];by_cases e:s∈ss
 ·simp only[e,if_true];rcases H[s]? with _|⟨n,_|o⟩
  ·rfl
  ·rfl
  ·simp only[to];split<;>rfl
 ·simp only[e,if_false]
def du(I:Nat→Prop)(A:Nat→Nat→Option Gh)(ss:List Nat):Nat→Prop:=fun b=>I b∨∃s∈ss,∃g x,A s g=some x∧b=x.b
theorem Inv.freeze(h:Inv I0 B I A σ a w)(ss:List Nat)(hss:∀s∈ss,∀g o,bi σ.H s g=some o→o.fzb=true):
  Inv I0 B (du I A ss) A (σ.freeze ss) a w∧∀d v,RelV I A (bl σ.H) w d v→RelV (du I A ss) A (bl (σ.freeze ss).H) w d v:=by
 have hgf:bl (σ.freeze ss).H=bl σ.H:=funext (genH_freeze ss σ.H);have hR:∀d v,RelV I A (bl σ.H) w d v→RelV (du I A ss) A (bl σ.H) w d v:=fun d v hr=>
  hr.mono (fun _ hb=> .inl hb) (fun _ _=>rfl) (fun _=>zb0 _) (fun _ _ _ _ hy=>hy)
 refine⟨⟨h.tl,fun t d v hd hv=>by rw[hgf];exact hR _ _ (h.tv t d v hd hv),fun s g o ho=> ?_,fun s g x hx=> ?_,h.inj,fun b hb=> ?_,fun b hb=> ?_,fun b hb=> .inl (h.ii b hb),h.df.mono (fun _ hb=> .inl hb) fun _ _=>rfl,?_⟩,by rw[hgf];exact hR⟩
 ·rw[hgf];have ho':bi (br σ.H ss) s g=some o:=ho;rw[ch] at ho';split at ho'
  ·rename_i hs;cases hl:bi σ.H s g with
   |none=>rw[hl] at ho';cases ho'
   |some o1=>
    rw[hl] at ho';simp only[Option.map_some,za0] at ho';subst ho';obtain⟨x,hx,hxB,hok⟩:=h.ob s g o1 hl;exact⟨x,hx,hxB.imp .inl id,hok.freeze hR (.inr ⟨s,hs,g,x,hx,rfl⟩) (hss s hs g _ hl)⟩
  ·rename_i hs;obtain⟨x,hx,hxB,hok⟩:=h.ob s g o ho';refine⟨x,hx,hxB.imp .inl id,hok.carry hR rfl ⟨fun hi=> ?_,.inl⟩⟩;rcases hi with hi|⟨s',hs',g',x',hx',hb⟩
   ·exact hi
   ·exact absurd ((h.inj _ _ _ _ _ _ hx hx' hb).1▸hs') hs
 ·obtain⟨o,ho⟩:=h.ar s g x hx;have:bi (br σ.H ss) s g=if s∈ss then(bi σ.H s g).map Ob.freeze else bi σ.H s g:=ch ss σ.H s g
  rw[ho] at this;by_cases e:s∈ss
  ·exact⟨o.freeze,by simpa [e,St.freeze] using this⟩
  ·exact⟨o,by simpa [e,St.freeze] using this⟩
 ·rcases hb with hb|⟨s,_,g,x,hx,rfl⟩
  ·exact h.iw b hb
  ·exact h.A_lt hx
 ·rcases hb with hb|⟨s,_,g,x,hx,rfl⟩
  ·exact h.io b hb
  ·obtain⟨o,ho⟩:=h.ar s g x hx;obtain⟨y,hy,hyB,_⟩:=h.ob s g o ho;rw[hx] at hy;cases hy;rcases hyB with hi|hn
   ·exact h.io _ hi
   ·exact .inr hn
 ·refine h.rw.sub (fun s g e er nr cs x k1 k2=>⟨s,g,?_,k2⟩) (fun s g z hz=> .inl ⟨s,g,hz⟩) (fun _ _ _ _ _ _ _ _ _=>rfl) (fun x j b hb=>⟨rfl,fun hi=> ?_,(h.rw.sep x j b hb).2.2.1⟩) (zb0 _) (fun _ hb=> .inl hb) fun _ _=>rfl
  ·have k1':bi (br σ.H ss) s g=some (.nst e er nr cs):=k1;rw[ch] at k1';split at k1'
   ·cases hl:bi σ.H s g with
    |none=>rw[hl] at k1';cases k1'
    |some o1=>
     rw[hl] at k1';cases o1<;>first|exact k1'|cases k1'
   ·exact k1'
  ·obtain⟨q1,q2,q3,q4⟩:=h.rw.sep x j b hb;rcases hi with hi|⟨s,_,g,z,hz,e⟩
   ·exact q2 hi
   ·exact q4 s g z hz e.symm
end
section
variable {I:Nat→Prop}{w:World}{A:Nat→Nat→Option Gh}{G:Nat→Nat}
theorem RelV.agg_inv{cs:List D}{v:Value}(h:RelV I A G w (.agg cs) v):∃vs,v= .agg vs∧cs.length=vs.size∧∀(j:Nat) (d:D) (u:Value),cs[j]?=some d→vs[j]?=some u→RelV I A G w d u:=by
 cases h with
 |clo h=>cases h with
  |agg _ vs hl hr=>exact⟨vs,rfl,hl,fun j d u hd hu=> .clo (hr j d u hd hu)⟩
 |agg _ vs hl hr=>exact⟨vs,rfl,hl,hr⟩
theorem RelV.tup_inv{cs:List D}{v:Value}(h:RelV I A G w (.tup cs) v):∃vs,v= .tuple vs∧cs.length=vs.size∧∀(j:Nat) (d:D) (u:Value),cs[j]?=some d→vs[j]?=some u→RelV I A G w d u:=by
 cases h with
 |clo h=>cases h with
  |tup _ vs hl hr=>exact⟨vs,rfl,hl,fun j d u hd hu=> .clo (hr j d u hd hu)⟩
 |tup _ vs hl hr=>exact⟨vs,rfl,hl,hr⟩
theorem RelV.fn_inv{f:Fn}{x y:List D}{v:Value}(h:RelV I A G w (.fn f x y) v):∃vx vy,v= .func f vx vy∧x.length=vx.size∧y.length=vy.size∧
  (∀(j:Nat) (d:D) (u:Value),x[j]?=some d→vx[j]?=some u→RelV I A G w d u)∧(∀(j:Nat) (d:D) (u:Value),y[j]?=some d→vy[j]?=some u→RelV I A G w d u):=by
 cases h with
 |clo h=>cases h with
  |fn _ _ _ vx vy hx hy hrx hry=>exact⟨vx,vy,rfl,hx,hy,fun j d u hd hu=> .clo (hrx j d u hd hu),fun j d u hd hu=> .clo (hry j d u hd hu)⟩
 |fn _ _ _ vx vy hx hy hrx hry=>exact⟨vx,vy,rfl,hx,hy,hrx,hry⟩
theorem RelV.ifc_inv{t:TypeId}{d:D}{v:Value}(h:RelV I A G w (.ifc t d) v):∃u,v= .iface t u∧RelV I A G w d u:=by
 cases h with
 |clo h=>cases h with
  |ifc _ _ u h=>exact⟨u,rfl,.clo h⟩
 |ifc _ _ u h=>exact⟨u,rfl,h⟩
theorem RelV.bool_inv{b:Bool}{v:Value}(h:RelV I A G w (.bool b) v):v= .bool b:=h.flat rfl
theorem RelV.int_inv{k:IntKind}{n:Int}{v:Value}(h:RelV I A G w (.int k n) v):v= .int k n:=h.flat rfl
theorem RelV.str_inv{s:ByteArray}{v:Value}(h:RelV I A G w (.str s) v):v= .string s:=h.flat rfl
theorem RelV.nils_inv{v:Value}(h:RelV I A G w .nils v):v= .slice none 0 0:=h.flat rfl
theorem RelV.mnil_inv{v:Value}(h:RelV I A G w .mnil v):v= .map none:=h.flat rfl
theorem RelV.loc_inv{s g off:Nat}{v:Value}(h:RelV I A G w (.loc s g off) v){x:Gh}(hx:A s g=some x):v= .pointer (some ⟨x.b,off,none⟩):=by
 cases h with
 |clo h=>cases h
 |loc _ _ _ ad _ h=>rw[h x hx]
theorem RelV.own_inv{s g len:Nat}{v:Value}(h:RelV I A G w (.own s g len) v){x:Gh}(hx:A s g=some x):v= .slice (some ⟨x.b,0,none⟩) len x.cap∧len=x.len:=by
 cases h with
 |clo h=>cases h
 |own _ _ _ ad cap _ _ h=>obtain⟨rfl,rfl,h3⟩:=h x hx;exact⟨rfl,h3⟩
theorem RelV.win_inv{s g off len n:Nat}{v:Value}(h:RelV I A G w (.win s g off len n) v):∃ad cap,v= .slice (some ad) len cap∧len≤cap∧(0<len→∀x,A s g=some x→ad=⟨x.b,off,none⟩∧(off=0→cap=x.cap)∧off+cap*n=x.cap*n):=by
 cases h with
 |clo h=>cases h
 |win _ _ _ _ _ ad cap _ hl h=>exact⟨ad,cap,rfl,hl,h⟩
theorem RelV.osl_inv{b:Bool}{n:Nat}{cs:List D}{v:Value}(h:RelV I A G w (.osl b n cs) v):(b=true∧v= .slice none 0 0)∨(b=false∧∃a n c,v= .slice (some a) n c):=by
 cases h with
 |clo h=>
  cases h with
  |osln=>exact .inl ⟨rfl,rfl⟩
  |osls _ _ a cap=>exact .inr ⟨rfl,a,_,cap,rfl⟩
theorem RelV.mloc_inv{s g:Nat}{v:Value}(h:RelV I A G w (.mloc s g) v){x:Gh}(hx:A s g=some x):v= .map (some x.b):=by
 cases h with
 |clo h=>cases h
 |mloc _ _ b _ h=>rw[h x hx]
theorem RelV.clo_of{d:D}{v:Value}(h:RelV I A G w d v)(hd:(∃cs o,d= .snap cs o)∨(∃f n cs,d= .slc f n cs)∨(∃k x,d= .msnap k x)):RelC I w d v:=by
 rcases hd with⟨cs,o,rfl⟩|⟨f,n,cs,rfl⟩|⟨k,x,rfl⟩<;>(cases h with|clo h=>exact h)
theorem RelV.one{d:D}{v:Value}(h:RelV I A G w d v)(hd:d.one=true):v.oneCell'=true:=by
 cases h with
 |clo h=>cases h<;>first|rfl|(simp[D.one] at hd)
 |agg=>simp[D.one] at hd
 |tup=>simp[D.one] at hd
 |fn=>rfl
 |ifc=>rfl
 |loc=>rfl
 |own=>rfl
 |win=>rfl
 |mloc=>rfl
theorem RelV.cells{d:D}{v:Value}(h:RelV I A G w d v)(h1:d.cells.all D.one=true):d.cells.length=v.cells.size∧
  (∀(j:Nat) (x:D) (u:Value),d.cells[j]?=some x→v.cells[j]?=some u→RelV I A G w x u)∧∀u∈v.cells.toList,u.oneCell'=true:=by
 by_cases ha:∃cs,d= .agg cs
 ·obtain⟨cs,rfl⟩:=ha;obtain⟨vs,rfl,hl,hr⟩:=h.agg_inv;refine⟨hl,hr,fun u hu=> ?_⟩;obtain⟨j,hj,rfl⟩:=List.getElem_of_mem hu;have hj':j<vs.size:=by simpa [Value.cells] using hj
  have hd:cs[j]?=some (cs[j]'(by omega)):=zd2 (by omega);have:=hr j _ vs[j] hd (Array.getElem?_eq_getElem hj');have h2:(cs[j]'(by omega)).one=true:=by
   simp only[D.cells,zd7] at h1;exact h1 _ (List.getElem_mem _)
  simpa [Value.cells] using this.one h2
 ·have e:d.cells=[d]:=by cases d<;>first|rfl|exact absurd ⟨_,rfl⟩ ha
  rw[e] at h1 ⊢;have h1':d.one=true:=by simpa using h1
  have hv:=h.one h1';have ev:v.cells= #[v]:=by cases v<;>first|rfl|(simp[Value.oneCell'] at hv)
  rw[ev];refine⟨rfl,fun j x u hx hu=> ?_,fun u hu=> ?_⟩
  ·cases j with
   |zero=>simp at hx hu;subst hx hu;exact h
   |succ j=>simp at hx
  ·simp at hu;subst hu;exact hv
end
theorem eA{I:Nat→Prop}{A:Nat→Nat→Option Gh}{ss ss':List Nat}(h:∀s∈ss,s∈ss'){b:Nat}:du I A ss b→du I A ss' b
 | .inl h1=> .inl h1
 | .inr ⟨s,hs,r⟩=> .inr ⟨s,h s hs,r⟩
def Sites(H:List (Nat×Option Ob))(ss:List Nat):Prop:=∀s∈ss,∃g o,bi H s g=some o∧o.fzb=true
theorem Sites.append{H:List (Nat×Option Ob)}{ss ss':List Nat}(h:Sites H ss)(h':Sites H ss'):Sites H (ss++ss'):=fun s hs=>by
 rcases za9.1 hs with h1|h1
 ·exact h s h1
 ·exact h' s h1
theorem Sites.free{H:List (Nat×Option Ob)}{ss:List Nat}(h:Sites H ss):∀s∈ss,∀g o,bi H s g=some o→o.fzb=true:=fun s hs g o1 e=>by
 obtain⟨g',o,ho,hn⟩:=h s hs;have e1:=bT e;have e2:=bT ho;have:g'=g:=by omega
 subst this;rw[e] at ho;cases ho;exact hn
section
variable {I0:Nat→Prop}{B:Nat→Prop}{I:Nat→Prop}{A:Nat→Nat→Option Gh}{σ:St}{a:Act}{w:World}
theorem dK{f:D→Option (D×List Nat)}{R:D→Value→Prop}{H:List (Nat×Option Ob)}
  (hf:∀d d' ss,f d=some (d',ss)→Sites H ss∧∀v,R d v→RelC (du I A ss) w d' v):
  ∀(ds ds':List D) (ss:List Nat),cA f ds=some (ds',ss)→ds'.length=ds.length∧Sites H ss∧
   ∀(j:Nat) (d':D),ds'[j]?=some d'→∃d,ds[j]?=some d∧∀v,R d v→RelC (du I A ss) w d' v
 |[],ds',ss,h=>by
  simp only[cA,za0,zb3] at h;obtain⟨rfl,rfl⟩:=h;exact⟨rfl,(fun s hs=>by cases hs),fun j d' h=>by simp at h⟩
 |d::ds,ds',ss,h=>by
  simp only[cA] at h;split at h
  ·cases h
  ·rename_i d1 s1 h1;split at h
   ·cases h
   ·rename_i ds1 s2 h2;simp only[za0,zb3] at h;obtain⟨rfl,rfl⟩:=h;obtain⟨a1,a2,a3⟩:=dK hf ds ds1 s2 h2;obtain⟨b1,b2⟩:=hf d d1 s1 h1;refine⟨by simp[a1],b1.append a2,fun j d' hj=> ?_⟩;cases j with
    |zero=>
     simp at hj;subst hj;exact⟨d,rfl,fun v hv=>(b2 v hv).mono (fun b hb=>eA (fun s hs=>List.mem_append_left _ hs) hb) (fun _ _=>rfl)⟩
    |succ j=>
     simp at hj;obtain⟨x,hx,hr⟩:=a3 j d' hj;exact⟨x,by simpa using hx,fun v hv=>(hr v hv).mono (fun b hb=>eA (fun s hs=>List.mem_append_right _ hs) hb) (fun _ _=>rfl)⟩
theorem cV{w:World}{b:Nat}{c:Array Value}{e:TypeId}{z:Nat×Nat}(h:w.heap[b]?=some (.cells c e z))(off j:Nat):w.cell? ((⟨b,off,none⟩:Addr).add j)=c[off+j]?:=by
 rw[dB];simp[World.cell?,h]
theorem cr(h:Inv I0 B I A σ a w):∀(n:Nat) (d d':D) (ss:List Nat),bJ σ.H n d=some (d',ss)→
  Sites σ.H ss∧∀v,RelV I A (bl σ.H) w d v→RelC (du I A ss) w d' v
 |0,_,_,_,hs=>by cases hs
 |n+1,d,d',ss,hs=>by
  have L:=dK (I:=I) (A:=A) (w:=w) (R:=RelV I A (bl σ.H) w) (cr h n);cases d with
  |loc s g off=>
   simp only[bJ] at hs;split at hs
   ·rename_i cs fz hl;split at hs
    ·rename_i cs' s1 h1;simp only[za0,zb3] at hs;obtain⟨rfl,rfl⟩:=hs;obtain⟨a1,a2,a3⟩:=L _ _ _ h1;refine⟨fun s' hs'=> ?_,fun v hv=> ?_⟩
     ·rcases List.mem_cons.1 hs' with rfl|h2
      ·exact⟨g,_,hl,rfl⟩
      ·exact a2 s' h2
     ·obtain⟨x,hx,hxB,c,e,hb,hlen,hrel,hfz⟩:=h.ob s g _ hl;rw[hv.loc_inv hx];have ea:(⟨x.b,off,none⟩:Addr)=(⟨x.b,0,none⟩:Addr).add off:=by rw[dB];simp
      rw[ea];refine .snap cs' off ⟨x.b,0,none⟩ (fun j=>c.getD j undef) (fun _=> .inr ⟨s,by simp,g,x,hx,rfl⟩) (fun j dj hj=> ?_) (fun j dj hj=> ?_)
      ·have hlt:=(zc1.1 hj).1;rw[cV hb];simp[show j<c.size by omega]
      ·obtain⟨y,hy,hr⟩:=a3 j dj hj;have hlt:=(zc1.1 hj).1;have hc:c[j]?=some (c.getD j undef):=by simp[show j<c.size by omega]
       exact(hr _ (hrel j y _ hy hc)).mono (fun b hb=>eA (fun s hs=>za5 _ hs) hb) (fun _ _=>rfl)
    ·cases hs
   ·rename_i e0 n0 cs fz hl;simp only[za0,zb3] at hs;obtain⟨rfl,rfl⟩:=hs;refine⟨fun s' hs'=> ?_,fun v hv=> ?_⟩
    ·rcases List.mem_cons.1 hs' with rfl|h2
     ·exact⟨g,_,hl,rfl⟩
     ·cases h2
    ·obtain⟨x,hx,hxB,c,hb,hcs,hm,hlc,hlen,hrel,hfz,hclo⟩:=h.ob s g _ hl;have hle:x.len*n0≤x.cap*n0:=Nat.mul_le_mul_right _ hlc;rw[hv.loc_inv hx];have ea:(⟨x.b,off,none⟩:Addr)=(⟨x.b,0,none⟩:Addr).add off:=by rw[dB];simp
     rw[ea];refine .snap cs off ⟨x.b,0,none⟩ (fun j=>c.getD j undef) (fun _=> .inr ⟨s,by simp,g,x,hx,rfl⟩) (fun j dj hj=> ?_) (fun j dj hj=> ?_)
     ·have hlt:=(zc1.1 hj).1;rw[cV hb];simp[show j<c.size by omega]
     ·have hlt:=(zc1.1 hj).1;have hc:c[j]?=some (c.getD j undef):=by simp[show j<c.size by omega]
      exact((hrel j dj _ hj hc).closed (hclo dj (List.mem_of_getElem? hj))).mono (fun b hb=> .inl hb) (fun _ _=>rfl)
   ·cases hs
  |own s g len=>
   simp only[bJ] at hs;split at hs
   ·rename_i e0 n0 cs fz hl;simp only[za0,zb3] at hs;obtain⟨rfl,rfl⟩:=hs;refine⟨fun s' hs'=> ?_,fun v hv=> ?_⟩
    ·rcases List.mem_cons.1 hs' with rfl|h2
     ·exact⟨g,_,hl,rfl⟩
     ·cases h2
    ·obtain⟨x,hx,hxB,c,hb,hcs,hm,hlc,hlen,hrel,hfz,hclo⟩:=h.ob s g _ hl;have hle:x.len*n0≤x.cap*n0:=Nat.mul_le_mul_right _ hlc;obtain⟨hv1,hv2⟩:=hv.own_inv hx;rw[hv1];refine .slc false len cs ⟨x.b,0,none⟩ x.cap (fun j=>c.getD j undef) (fun _=> .inr ⟨s,by simp,g,x,hx,rfl⟩) (fun hh=>by cases hh) (by omega) (fun j dj hj=> ?_) (fun j dj hj=> ?_)
     ·have hlt:=(zc1.1 hj).1;rw[cV hb];simp[show j<c.size by omega]
     ·have hlt:=(zc1.1 hj).1;have hc:c[j]?=some (c.getD j undef):=by simp[show j<c.size by omega]
      exact((hrel j dj _ hj hc).closed (hclo dj (List.mem_of_getElem? hj))).mono (fun b hb=> .inl hb) (fun _ _=>rfl)
   ·cases hs
  |win s g off len n=>
   simp only[bJ] at hs;split at hs
   ·rename_i e0 n0 cs fz hl;simp only[za0,zb3] at hs;obtain⟨rfl,rfl⟩:=hs;refine⟨fun s' hs'=> ?_,fun v hv=> ?_⟩
    ·rcases List.mem_cons.1 hs' with rfl|h2
     ·exact⟨g,_,hl,rfl⟩
     ·cases h2
    ·obtain⟨x,hx,hxB,c,hb,hcs,hm,hlc,hlen,hrel,hfz,hclo⟩:=h.ob s g _ hl;have hle:x.len*n0≤x.cap*n0:=Nat.mul_le_mul_right _ hlc;obtain⟨ad,cap,rfl,hlc',had⟩:=hv.win_inv;by_cases hp:0<len
     ·have had:=(had hp x hx).1;subst had;refine .slc false len _ ⟨x.b,off,none⟩ cap (fun j=>c.getD (off+j) undef) (fun _=> .inr ⟨s,by simp,g,x,hx,rfl⟩) (fun hh=>by cases hh) hlc' (fun j dj hj=> ?_) (fun j dj hj=> ?_)
      ·rw[List.getElem?_take] at hj;split at hj
       ·rw[List.getElem?_drop] at hj;have hlt:=(zc1.1 hj).1;rw[cV hb];simp[show off+j<c.size by omega]
       ·cases hj
      ·rw[List.getElem?_take] at hj;split at hj
       ·rw[List.getElem?_drop] at hj;have hlt:=(zc1.1 hj).1;have hc:c[off+j]?=some (c.getD (off+j) undef):=by simp[show off+j<c.size by omega]
        exact((hrel (off+j) dj _ hj hc).closed (hclo dj (List.mem_of_getElem? hj))).mono (fun b hb=> .inl hb) (fun _ _=>rfl)
       ·cases hj
     ·have hz:len=0:=by omega
      subst hz;simp only[Nat.zero_mul,List.take_zero];exact .slc false 0 [] ad cap (fun _=>undef) (fun h=>by simp at h) (fun hh=>by cases hh) hlc' (fun j d hj=>by simp at hj) (fun j d hj=>by simp at hj)
   ·cases hs
  |mloc s g=>
   simp only[bJ] at hs;split at hs
   ·rename_i ks vs fz hl;simp only[za0,zb3] at hs;obtain⟨rfl,rfl⟩:=hs;refine⟨fun s' hs'=> ?_,fun v hv=> ?_⟩
    ·rcases List.mem_cons.1 hs' with rfl|h3
     ·exact⟨g,_,hl,rfl⟩
     ·cases h3
    ·obtain⟨x,hx,hxB,es,ck,hb,hk1,hk2,hk3,hk4,hfz,hclo⟩:=h.ob s g _ hl;rw[hv.mloc_inv hx];refine .msnap ks vs x.b es ck (.inr ⟨s,by simp,g,x,hx,rfl⟩) hb (by omega) (by omega) (fun j d e hd he=> ?_) (fun j d e hd he=> ?_)
     ·exact((hk3 j d e hd he).closed (hclo d (.inl (List.mem_of_getElem? hd)))).mono (fun b hb=> .inl hb) (fun _ _=>rfl)
     ·exact((hk4 j d e hd he).closed (hclo d (.inr (List.mem_of_getElem? hd)))).mono (fun b hb=> .inl hb) (fun _ _=>rfl)
   ·rename_i ks vs fz hl;split at hs
    ·rename_i vs' s1 h1;simp only[za0,zb3] at hs;obtain⟨rfl,rfl⟩:=hs;obtain⟨a1,a2,a3⟩:=L _ _ _ h1;refine⟨fun s' hs'=> ?_,fun v hv=> ?_⟩
     ·rcases List.mem_cons.1 hs' with rfl|h3
      ·exact⟨g,_,hl,rfl⟩
      ·exact a2 s' h3
     ·obtain⟨x,hx,hxB,es,ck,hb,hk1,hk2,hk3,hk4,hfz,hclo⟩:=h.ob s g _ hl;rw[hv.mloc_inv hx];refine .msnap ks vs' x.b es ck (.inr ⟨s,by simp,g,x,hx,rfl⟩) hb (by omega) (by omega) (fun j d e hd he=> ?_) (fun j d e hd he=> ?_)
      ·exact((hk3 j d e hd he).closed (hclo d (List.mem_of_getElem? hd))).mono (fun b hb=> .inl hb) (fun _ _=>rfl)
      ·obtain⟨y,hy,hr⟩:=a3 j d hd;exact(hr _ (hk4 j y e hy he)).mono (fun b hb=>eA (fun s hs=>za5 _ hs) hb) (fun _ _=>rfl)
    ·cases hs
   ·cases hs
  |agg cs=>
   simp only[bJ] at hs;split at hs
   ·rename_i cs' s1 h1;simp only[za0,zb3] at hs;obtain⟨rfl,rfl⟩:=hs;obtain⟨a1,a2,a3⟩:=L _ _ _ h1;refine⟨a2,fun v hv=> ?_⟩;obtain⟨vs,rfl,hl,hr⟩:=hv.agg_inv;exact .agg cs' vs (by omega) fun j d u hd hu=>by
     obtain⟨y,hy,hr'⟩:=a3 j d hd;exact hr' _ (hr j y u hy hu)
   ·cases hs
  |tup cs=>
   simp only[bJ] at hs;split at hs
   ·rename_i cs' s1 h1;simp only[za0,zb3] at hs;obtain⟨rfl,rfl⟩:=hs;obtain⟨a1,a2,a3⟩:=L _ _ _ h1;refine⟨a2,fun v hv=> ?_⟩;obtain⟨vs,rfl,hl,hr⟩:=hv.tup_inv;exact .tup cs' vs (by omega) fun j d u hd hu=>by
     obtain⟨y,hy,hr'⟩:=a3 j d hd;exact hr' _ (hr j y u hy hu)
   ·cases hs
  |fn f x y=>
   simp only[bJ] at hs;split at hs
   ·rename_i x' s1 h1;split at hs
    ·rename_i y' s2 h2;simp only[za0,zb3] at hs;obtain⟨rfl,rfl⟩:=hs;obtain⟨a1,a2,a3⟩:=L _ _ _ h1;obtain⟨b1,b2,b3⟩:=L _ _ _ h2;refine⟨a2.append b2,fun v hv=> ?_⟩;obtain⟨vx,vy,rfl,hx,hy,hrx,hry⟩:=hv.fn_inv;refine .fn f x' y' vx vy (by omega) (by omega) (fun j d u hd hu=> ?_) (fun j d u hd hu=> ?_)
     ·obtain⟨z,hz,hr'⟩:=a3 j d hd;exact(hr' _ (hrx j z u hz hu)).mono (fun b hb=>eA (fun s hs=>List.mem_append_left _ hs) hb) (fun _ _=>rfl)
     ·obtain⟨z,hz,hr'⟩:=b3 j d hd;exact(hr' _ (hry j z u hz hu)).mono (fun b hb=>eA (fun s hs=>List.mem_append_right _ hs) hb) (fun _ _=>rfl)
    ·cases hs
   ·cases hs
  |ifc t x=>
   simp only[bJ] at hs;split at hs
   ·rename_i x' s1 h1;simp only[za0,zb3] at hs;obtain⟨rfl,rfl⟩:=hs;obtain⟨a2,a3⟩:=cr h n _ _ _ h1;refine⟨a2,fun v hv=> ?_⟩;obtain⟨u,rfl,hu⟩:=hv.ifc_inv;exact .ifc t x' u (a3 u hu)
   ·cases hs
  |_=>
   simp only[bJ,za0,zb3] at hs;obtain⟨rfl,rfl⟩:=hs;refine⟨(fun s hs=>by cases hs),fun v hv=> ?_⟩;cases hv with
   |clo hv=>exact hv.mono (fun _ hb=> .inl hb) (fun _ _=>rfl)
end
end Go.Pd
end
