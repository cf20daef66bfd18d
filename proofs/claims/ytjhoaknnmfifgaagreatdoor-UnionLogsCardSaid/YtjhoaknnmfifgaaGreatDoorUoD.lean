import Derived.Test.YtjhoaknnmfifgaaGreatDoorUoC
import Derived.Test.YtjhoaknnmfifgaaGreatDoorUoB
import Derived.Test.YtjhoaknnmfifgaaGreatDoorUnF
section
namespace Go.Pd
open Go Go.Proofs Go.RowKit Go.Shelf
set_option maxRecDepth 100000
abbrev Qy:={n:Nat//n<1000000000}
def DT(k:FuncId):Fam:=⟨k,Qy,fun n=>[.int .i64 (n.1:Int)],fun n=>SB (Lib.decDigits n.1)⟩
theorem qN{k:FuncId}(h:∀n:Nat,n<1000000000→bR k [.int .i64 (n:Int)] (SB (Lib.decDigits n))):(DT k).Good:=⟨fun n=>h n.1 n.2,fun i j e=>by
 have e:[D.int .i64 (i.1:Int)]=[D.int .i64 (j.1:Int)]:=e;simp only[zc5,and_true,D.int.injEq,true_and] at e;rw[show i=j from Subtype.ext (by omega)]⟩
theorem NE(n:Nat)(h:n<1000000000):bR 144 [.int .i64 (n:Int)] (SB (Lib.decDigits n)):=by
 by_cases h0:n=0
 ·subst h0;obtain⟨B,hB,e1,e2,_⟩:=eL [one 216 [.int .i64 0] (.agg [.bool false,.slc true 0 []]),one 215 [.agg [.bool false,.slc true 0 []]] (SB [48])] ⟨bg Kg,bg Kf,trivial⟩ rfl;have g2:B 215 [.agg [.bool false,.slc true 0 []]]=some (SB [48]):=e2 ();refine dG hB Tryz.func144 (ord:=O0) (N:=N0) (by kernel_rfl) ((zV _ _ _ _).trans ?_);have e:Lib.decDigits 0=[48]:=by rw[Lib.decDigits];rfl
  rw[e];refine ct (e1 ()) ?_;show bn (B 215 [.agg [.bool false,.slc true 0 []]]) _=_;rw[g2];rfl
 ·obtain⟨B,hB,e1,e2,_⟩:=eL [one 216 [.int .i64 (n:Int)] (.agg [.bool false,.slc false 1 [.int .i64 (n:Int)]]),one 215 [.agg [.bool false,.slc false 1 [.int .i64 (n:Int)]]] (SB (Lib.decDigits n))] ⟨bg (ND n h h0),bg (NC false n h),trivial⟩ rfl;have g2:B 215 [.agg [.bool false,.slc false 1 [.int .i64 (n:Int)]]]=some (SB (Lib.decDigits n)):=e2 ();refine dG hB Tryz.func144 (ord:=O0) (N:=N0) (by kernel_rfl) ((zV _ _ _ _).trans (ct (e1 ()) ?_));show bn (B 215 [.agg [.bool false,.slc false 1 [.int .i64 (n:Int)]]]) _=_;rw[g2];rfl
theorem PG(n:Nat)(h:n<1000000000):bR 60 [.int .i64 (n:Int)] (SB (Lib.decDigits n)):=by
 obtain⟨B,hB,e1,_⟩:=eL [one 144 [.int .i64 (n:Int)] (SB (Lib.decDigits n))] ⟨bg (NE n h),trivial⟩ rfl;exact dG hB Tryz.func60 (ord:=O0) (N:=N0) (by kernel_rfl) ((J1 _ _ _ _).trans (ct (e1 ()) rfl))
theorem Kh(n:Nat)(h:n<1000000000):bR 138 [.int .i64 (n:Int)] (SB (Lib.decDigits n)):=by
 have:=CQ (n:Int) (by omega);unfold Lib.itoa at this;rw[if_neg (by omega)] at this;exact this
theorem Ki(x:UInt8)(r:By)(h:48<x.toNat):1≤vN 0 (x::r):=zb1 (show 1≤10*0+(x.toNat-48) by omega) (Hq r _)
theorem Bi:∀(k:Nat) (l:By),l.length=k→qV l=true→Lib.decDigits (vN 0 l)=l:=by
 intro k
 induction k with
 |zero=>
  intro l hl hd;exact absurd (List.eq_nil_of_length_eq_zero hl) (iA hd).1
 |succ k ih=>
  intro l hl hd;obtain⟨h1,h2,h3⟩:=iA hd;obtain⟨m,c,rfl⟩:∃m c,l=m++[c]:=⟨l.dropLast,l.getLast h1,(List.dropLast_concat_getLast h1).symm⟩;rw[List.all_append,zc4] at h2;have hc:48≤c.toNat∧c.toNat≤57:=by simpa [dZ] using h2.2
  have hv:vN 0 (m++[c])=10*vN 0 m+(c.toNat-48):=by rw[Dy];rfl
  rw[hv,Lib.decDigits];cases m with
  |nil=>
   have e:10*vN 0 ([]:By)+(c.toNat-48)=c.toNat-48:=by show 10*0+_=_;omega
   rw[e,dif_pos (by omega),show 48+(c.toNat-48)=c.toNat by omega,UInt8.ofNat_toNat];rfl
  |cons x r=>
   have hx:x≠48:=fun e=>by
    subst e;have:=h3 rfl;simp at this
   have hxd:48≤x.toNat∧x.toNat≤57:=by
    have:=h2.1;rw[List.all_cons,zc4] at this;simpa [dZ] using this.1
   have hx':48<x.toNat:=by
    rcases Nat.lt_or_ge 48 x.toNat with h|h
    ·exact h
    ·exact absurd (UInt8.toNat_inj.1 (show x.toNat=(48:UInt8).toNat by show x.toNat=48;omega)) hx
   have hp:=Ki x r hx';have hm:qV (x::r)=true:=by
    unfold qV;rw[h2.1];have:((x::r).head?==some (48:UInt8))=false:=by simpa using hx
    rw[this];rfl
   have e1:(10*vN 0 (x::r)+(c.toNat-48))/10=vN 0 (x::r):=by omega
   have e2:(10*vN 0 (x::r)+(c.toNat-48))%10=c.toNat-48:=by omega
   rw[dif_neg (by omega),e1,e2,ih (x::r) (by simpa using hl) hm,show 48+(c.toNat-48)=c.toNat by omega,UInt8.ofNat_toNat]
theorem zZ{l:By}(h:(ub l).2=true):∃n:Nat,n<1000000000∧(ub l).1=(n:Int)∧Lib.decDigits n=l:=by
 by_cases hd:(qV l&&decide (l.length≤9))=true
 ·rw[Hr hd];rw[zc4,zc7] at hd;obtain⟨q1,q2,q3⟩:=iA hd.1;have hlt:=Hp l 0 0 (fun c hc=>(wG c).1 (zd7.1 q2 c hc)) (by decide);have:10^(0+l.length)≤10^9:=Nat.pow_le_pow_right (by omega) (by omega);exact⟨_,by omega,rfl,Bi _ l rfl hd.1⟩
 ·rw[Hs (by simpa using hd)] at h;cases h
theorem lK{c:UInt8}:∀{l:By},(bj c l).2.2=true→l=(bj c l).1++c::(bj c l).2.1
 |[],h=>by cases h
 |x::r,h=>by
  unfold bj at h ⊢;by_cases hx:(x==c)=true
  ·rw[if_pos hx,show x=c from by simpa using hx];rfl
  ·rw[if_neg hx] at h ⊢;exact congrArg (x::·) (lK (l:=r) h)
theorem uw{c:UInt8}:∀{l:By},(bj c l).2.2=false→(bj c l).1=l∧(bj c l).2.1=[]
 |[],_=>⟨rfl,rfl⟩
 |x::r,h=>by
  unfold bj at h ⊢;by_cases hx:(x==c)=true
  ·rw[if_pos hx] at h;cases h
  ·rw[if_neg hx] at h ⊢;obtain⟨h1,h2⟩:=uw (l:=r) h;exact⟨congrArg (x::·) h1,h2⟩
theorem dM(c:UInt8)(l:By):(bj c l).1.length≤l.length∧(bj c l).2.1.length≤l.length∧((bj c l).2.2=true→(bj c l).1.length+1+(bj c l).2.1.length=l.length):=by
 cases h:(bj c l).2.2 with
 |true=>
  have e:=congrArg List.length (lK h);rw[za6,za7] at e;exact⟨by omega,by omega,fun _=>by omega⟩
 |false=>
  obtain⟨h1,h2⟩:=uw h;rw[h1,h2];exact⟨zb0 _,Nat.zero_le _,fun h=>by cases h⟩
def tl(r:By)(m:Bool):By:=if m then 32::r else[]
theorem DU(l:By):l=(bj 32 l).1++tl (bj 32 l).2.1 (bj 32 l).2.2:=by
 cases h:(bj 32 l).2.2 with
 |true=>exact lK h
 |false=>rw[(uw h).1];simp[tl]
def cj(c:UInt8):Nat→By→List By
 |0,l=>[l]
 |k+1,l=>if(bj c l).2.2 then(bj c l).1::cj c k (bj c l).2.1 else[l]
theorem jp(c:UInt8)(k:Nat)(l:By):cj c (k+1) l=if(bj c l).2.2 then(bj c l).1::cj c k (bj c l).2.1 else[l]:=rfl
theorem ux(c:UInt8):∀k l,1≤(cj c k l).length
 |0,_=>zb0 _
 |k+1,l=>by unfold cj;split<;>simp
theorem kJ(c:UInt8):∀k l,(cj c k l).length≤k+1
 |0,_=>zb0 _
 |k+1,l=>by
  unfold cj;split
  ·have:=kJ c k (bj c l).2.1;simp only[za7];omega
  ·simp
theorem s6(c:UInt8):∀(k:Nat) (l:By),l.length≤k→cj c (k+1) l=cj c k l
 |0,l,h=>by
  have:l=[]:=List.eq_nil_of_length_eq_zero (by omega);subst this;rfl
 |k+1,l,h=>by
  rw[jp c (k+1) l,jp c k l];split
  ·rename_i hc;have:=(dM c l).2.2 hc;rw[s6 c k _ (by omega)]
  ·rfl
theorem Bj(c:UInt8)(k:Nat)(l:By)(h:l.length≤k):cj c k l=cj c l.length l:=by
 obtain⟨d,rfl⟩:∃d,k=l.length+d:=⟨k-l.length,by omega⟩;clear h
 induction d with
 |zero=>rfl
 |succ d ih=>rw[←ze0,s6 c _ l (by omega),ih]
theorem wV(c:UInt8):∀(k:Nat) (l:By),Lib.splitK [c] 0 k l=cj c k l
 |0,_=>rfl
 |k+1,l=>by
  unfold Lib.splitK cj;rw[Lib.index_one];by_cases h:Lib.indexByte l c= -1
  ·rw[h,if_pos (by decide),kC c l h];rfl
  ·have hi:Lib.indexByte l c=((Lib.indexByte l c).toNat:Int):=by have:=Lib.indexByte_ge l c;omega
   rw[if_neg (by simpa using h),(mv c l _ hi).2,wV c k];rfl
theorem Aa(c:UInt8):∀(k:Nat) (l:By),l.length≤k→spl c l=cj c k l
 |0,l,h=>by
  have:l=[]:=List.eq_nil_of_length_eq_zero (by omega);subst this;rfl
 |k+1,l,h=>by
  rw[cj];by_cases hi:Lib.indexByte l c= -1
  ·rw[kC c l hi,mw c l hi];rfl
  ·have hi:Lib.indexByte l c=((Lib.indexByte l c).toNat:Int):=by have:=Lib.indexByte_ge l c;omega
   obtain⟨h1,h2⟩:=mv c l _ hi;rw[h2,ug c l _ hi,Aa c k _ (by simp;omega)];rfl
def yL(l:List By):D:= .slc false l.length (l.map SB)
theorem DV(c:UInt8)(k:Nat)(l:By):Lib.splitB (bs [c]) 0 k (bs l)=(cj c k l).map bs:=by
 have h1:=Lib.splitB_data (bs [c]) 0 k (bs l);rw[cH,cH,wV c] at h1;rw[←h1,List.map_map];apply List.ext_getElem?;intro j;rw[zc3];cases (Lib.splitB (bs [c]) 0 k (bs l))[j]? with
 |none=>rfl
 |some x=>simp[oE]
theorem wW(c:UInt8)(k:Nat)(l:By):cj c (min (k+1) (l.length+1)-1) l=cj c k l:=by
 rcases Nat.le_total k l.length with h|h
 ·rw[show min (k+1) (l.length+1)-1=k by omega]
 ·rw[show min (k+1) (l.length+1)-1=l.length by omega,Bj c k l h]
theorem Kj(l:By)(c:UInt8)(k:Nat)(hl:l.length≤1000000)(hk:k≤1000):bR 190 [SB l,SB [c],.int .i64 0,.int .i64 ((k+1:Nat):Int)] (yL (cj c k l)):=by
 refine⟨enters_of Tryz.func190 (by kernel_rfl) rfl,fun I w vs hI hgl hvl hr=> ?_⟩;have hvs:vs= #[.string (bs l),.string (bs [c]),.int .i64 0,.int .i64 ((k+1:Nat):Int)]:=by
  have hsz:vs.size=4:=hvl.symm;have e0:=(hr 0 (SB l) vs[0] rfl (by simp)).toV (u:= .string (bs l)) rfl;have e1:=(hr 1 (SB [c]) vs[1] rfl (by simp)).toV (u:= .string (bs [c])) rfl;have e2:=(hr 2 (.int .i64 0) vs[2] rfl (by simp)).toV (u:= .int .i64 0) rfl;have e3:=(hr 3 (.int .i64 ((k+1:Nat):Int)) vs[3] rfl (by simp)).toV (u:= .int .i64 ((k+1:Nat):Int)) rfl;apply Array.ext
  ·rw[hsz];rfl
  ·intro i q1 q2
   match i,q2 with
   |0,_=>exact e0
   |1,_=>exact e1
   |2,_=>exact e2
   |3,_=>exact e3
 subst hvs;have L:=Tryz.lays221;have hone:(bs [c])=⟨#[c]⟩:=rfl;have hsz:=bm l;have hcalls:=Any.strings_genSplit_core L (by kernel_rfl) (bs l) (bs [c]) 0 ((k+1:Nat):Int) (min (k+1) (l.length+1)) w (by omega) (zb0 1) (Nat.zero_le _)
  (fun x cc hx=>(Any.strings_Index_one {L with} x c _).mono fun e w' ⟨he,hw⟩=>⟨by rw[he];show Ending.returned (Value.int .i64 (Lib.indexByte x.data.toList c))= .returned (.int .i64 (Lib.index x.data.toList (bs [c]).data.toList));rw[cH,Lib.index_one],hw⟩)
  ((Any.strings_Count_one {L with} (bs l) c w).mono fun e w' ⟨he,hw⟩=>⟨by rw[he];show Ending.returned (Value.int .i64 ((Lib.countByte (bs l).data.toList c:Nat):Int))= .returned (.int .i64 ((Lib.count (bs l).data.toList (bs [c]).data.toList:Nat):Int));rw[cH,cH,Lib.count_one];rfl,hw⟩)
  (by omega) (by omega) (by rw[if_neg (by omega),hsz];omega)
 rw[DV,wW] at hcalls;have hle:=kJ c k l;have hle2:(cj c k l).length≤min (k+1) (l.length+1):=by
  rw[←wW];have:=kJ c (min (k+1) (l.length+1)-1) l;omega
 refine hcalls.mono ?_
 rintro e w' ⟨rfl,rfl⟩
 have hnew:(w.alloc (.cells (Lib.cellsOf ((cj c k l).map bs) (min (k+1) (l.length+1))) (Tryz.lays221_ren.t 9))).heap[w.heap.size]?=some (.cells (Lib.cellsOf ((cj c k l).map bs) (min (k+1) (l.length+1))) (Tryz.lays221_ren.t 9) (0,0)):=cE w _;refine⟨_,rfl,?_,Blw.of_below ((Below.refl _ _).alloc (zb0 _) _)⟩;rw[zc2];refine .slc false (cj c k l).length _ ⟨w.heap.size,0,none⟩ _ (fun j=> .string (bs ((cj c k l).getD j []))) (fun _=> .inr ⟨zb0 _,by simp⟩) (fun h=>by cases h) hle2 (fun j d hj=> ?_) (fun j d hj=> ?_)
 ·have hj':j<(cj c k l).length:=by have:=(zc1.1 hj).1;simpa using this
  rw[Addr.add_lit,Nat.zero_add,Lib.cell_of_heap hnew];unfold Lib.cellsOf;rw[List.getElem?_toArray,zb9 (by simpa using hj')];simp[hj',List.getD]
 ·have hj':j<(cj c k l).length:=by have:=(zc1.1 hj).1;simpa using this
  rw[zc3,zd2 hj'] at hj;cases hj;rw[show(cj c k l).getD j []=(cj c k l)[j] by simp[List.getD,hj']];exact .str _
theorem NF(l:By)(c:UInt8)(k:Nat)(hl:l.length≤1000000)(hk:k≤1000):bR 204 [SB l,SB [c],.int .i64 ((k+1:Nat):Int)] (yL (cj c k l)):=by
 obtain⟨B,hB,e1,_⟩:=eL [one 190 [SB l,SB [c],.int .i64 0,.int .i64 ((k+1:Nat):Int)] (yL (cj c k l))] ⟨bg (Kj l c k hl hk),trivial⟩ rfl;exact dG hB Tryz.func204 (ord:=O0) (N:=N0) (by kernel_rfl) ((FY _ _ _ _ _ _).trans (ct (e1 ()) rfl))
section
variable {γ:Type}(a b c:D)
theorem GK(k:List D→Option γ):cJ (.tup [a,b,c]) 3 k=k [a,b,c]:=rfl
theorem En(k:D→Option γ):bc [a,b,c] 0 k=k a:=rfl
theorem Eo(k:D→Option γ):bc [a,b,c] 1 k=k b:=rfl
theorem Ep(k:D→Option γ):bc [a,b,c] 2 k=k c:=rfl
end
def ju:Nat→By→Bool→Option (List By×By×Bool)
 |0,r,m=>some ([],r,m)
 |k+1,r,m=>if m=true then(if(bj 32 r).1=[] then none else(ju k (bj 32 r).2.1 (bj 32 r).2.2).map fun q=>((bj 32 r).1::q.1,q.2)) else none
theorem oV(k:Nat)(r:By)(m:Bool):ju (k+1) r m=if m=true then(if(bj 32 r).1=[] then none else(ju k (bj 32 r).2.1 (bj 32 r).2.2).map fun q=>((bj 32 r).1::q.1,q.2)) else none:=rfl
def whole(w:By):Bool:=(ub w).2
def cL(w:By):Int:=(ub w).1
def jq(f:Frm)(k:By)(q:List By×By×Bool):Option EvV:=
 if(q.2.2==f.t&&(q.1.drop f.n).all whole)=true then some ⟨0,k,q.1.take f.n,(q.1.drop f.n).map cL,if f.t then q.2.1 else[]⟩ else none
def oW(f:Frm)(k:By)(acc:List By)(j:Nat)(r:By)(m:Bool):Option EvV:=(ju j r m).bind fun q=>jq f k (acc++q.1,q.2)
def qW(l:By):Option EvV:=
 if(bP (bj 32 l).1).is=true then oW (bP (bj 32 l).1) (bj 32 l).1 [] ((bP (bj 32 l).1).n+(bP (bj 32 l).1).v) (bj 32 l).2.1 (bj 32 l).2.2 else none
def e0:EvV:=⟨0,[],[],[],[]⟩
def iE(e:EvV):kS:=((e.ns.isEmpty,e.vs.isEmpty),e)
def qO(o:Option D)(p:Option EvV):Prop:=∃x:kS,o=some (.tup [.agg (d4 x),.bool p.isSome])∧∀e,p=some e→x=iE e
theorem s7(x:kS):qO (some (.tup [.agg (d4 x),.bool false])) none:=⟨x,rfl,fun _ h=>by cases h⟩
theorem gg:qO (some (.tup [.agg [.int .i64 0,.str (ByteArray.mk #[]),.slc true 0 [],.slc true 0 [],.str (ByteArray.mk #[])],.bool false])) none:=s7 (iE e0)
def lL:List D→Ow
 |[]=> .nil
 |x::l=> .own (l.length+1) (x::l)
def BC(l:List D):D:= .slc l.isEmpty l.length l
theorem uy{i:Nat}(h:i≤1000000):decide ((i+1)*16≤cg∧i+1≤9223372036854775807)=true:=by
 simp only[zc7];rw[show cg=140737488355328 from rfl];omega
theorem DW(l:List By):BC (l.map SB)= .slc l.isEmpty l.length (l.map SB):=by unfold BC;rw[List.isEmpty_map,zc2]
theorem DX(l:List Int):BC (b9 l)= .slc l.isEmpty l.length (b9 l):=by unfold BC b9;rw[List.isEmpty_map,zc2]
theorem DY{f:Frm}{k:By}{w:By}(acc:List By)(j:Nat)(r:By)(m:Bool)(ha:f.n≤acc.length)(hw:whole w=false):oW f k (acc++[w]) j r m=none:=by
 unfold oW;cases ju j r m with
 |none=>rfl
 |some q=>
  show jq f k ((acc++[w])++q.1,q.2)=none;unfold jq;rw[if_neg];intro h;rw[zc4,zd7] at h;have:=h.2 w (by
   show w∈((acc++[w])++q.1).drop f.n;rw[za8,List.drop_append_of_le_length ha];simp)
  rw[hw] at this;cases this
theorem DZ(f:Frm)(k:By)(acc:List By)(j:Nat)(r:By)(hw:(bj 32 r).1≠[]):oW f k acc (j+1) r true=oW f k (acc++[(bj 32 r).1]) j (bj 32 r).2.1 (bj 32 r).2.2:=by
 unfold oW;rw[oV,if_pos rfl,if_neg hw];cases ju j (bj 32 r).2.1 (bj 32 r).2.2 with
 |none=>rfl
 |some q=>simp
noncomputable def GL(B:FuncId→List D→Option D)(fuel:Nat)(r:ByteArray)(m:Bool)(n v:Int)(t:Bool)(i:Int)(k:ByteArray)(ns vs:List D):Option D:=
 bo (decide (i<IntKind.wrap .i64 (n+v)))
  (bo (!m) (some (.tup [.agg [.int .i64 0,.str (ByteArray.mk #[]),.slc true 0 [],.slc true 0 [],.str (ByteArray.mk #[])],.bool false]))
   (bn (B 188 [.str r]) fun q=>cJ q 3 fun c=>bc c 0 fun d=>bH d fun w=>bc c 1 fun d=>bH d fun r'=>bc c 2 fun d=>bM d fun m'=>
    bo (ByteArray.toList w==ByteArray.toList (ByteArray.mk #[])) (some (.tup [.agg [.int .i64 0,.str (ByteArray.mk #[]),.slc true 0 [],.slc true 0 [],.str (ByteArray.mk #[])],.bool false]))
     (bo (decide (i<n)) (cB B LL C1 fuel r' m' n v t (IntKind.wrap .i64 (i+1)) k (lL (ns++[.str w])) (lL vs))
      (bn (B 189 [.str w]) fun q=>cJ q 2 fun c=>bc c 0 fun d=>bw .i64 d fun x=>bc c 1 fun d=>bM d fun b=>
       bo (!b) (some (.tup [.agg [.int .i64 0,.str (ByteArray.mk #[]),.slc true 0 [],.slc true 0 [],.str (ByteArray.mk #[])],.bool false]))
        (cB B LL C1 fuel r' m' n v t (IntKind.wrap .i64 (i+1)) k (lL ns) (lL (vs++[.int .i64 x])))))))
  (bo t (some (.tup [.agg [.int .i64 0,.str k,BC ns,BC vs,.str r],.bool (m==t)])) (some (.tup [.agg [.int .i64 0,.str k,BC ns,BC vs,.str (ByteArray.mk #[])],.bool (m==t)])))
theorem ki(a:D)(l:List D)(x:D):lL ((a::l)++[x])= .own (l.length+1+1) ((a::l)++[x]):=by
 show Ow.own ((l++[x]).length+1) _=_;rw[za6];rfl
theorem D0(B:FuncId→List D→Option D)(fuel:Nat)(r:ByteArray)(m:Bool)(n v:Int)(t:Bool)(i:Int)(k:ByteArray)(ns vs:List D)(hn:ns.length≤1000)(hv:vs.length≤1000):
  cB B LL C1 (fuel+1) r m n v t i k (lL ns) (lL vs)=GL B fuel r m n v t i k ns vs:=by
 unfold GL;cases ns with
 |nil=>
  cases vs with
  |nil=>exact rx ..
  |cons b vs=>
   rw[show lL (b::vs)=Ow.own (vs.length+1) (b::vs) from rfl,show lL []=Ow.nil from rfl,ry];simp only[zE (show vs.length+1≤1000000 by simp at hv;omega),bh,ki];rfl
 |cons a ns=>
  cases vs with
  |nil=>
   rw[show lL (a::ns)=Ow.own (ns.length+1) (a::ns) from rfl,show lL []=Ow.nil from rfl,rz];simp only[uy (show ns.length+1≤1000000 by simp at hn;omega),bh,ki];rfl
  |cons b vs=>
   rw[show lL (a::ns)=Ow.own (ns.length+1) (a::ns) from rfl,show lL (b::vs)=Ow.own (vs.length+1) (b::vs) from rfl,rA];simp only[zE (show vs.length+1≤1000000 by simp at hv;omega),uy (show ns.length+1≤1000000 by simp at hn;omega),bh,ki];rfl
theorem NG{B:FuncId→List D→Option D}(h188:∀l:By,l.length≤1000000→B 188 [SB l]=some (jz l))(h189:∀l:By,l.length≤1000000→B 189 [SB l]=some (w9 l))(f:Frm)(hf:f.n≤2∧f.v≤1)(k:By):
  ∀(j:Nat) (acc:List By) (r:By) (m:Bool) (fuel:Nat),acc.length+j=f.n+f.v→r.length≤1000000→(acc.drop f.n).all whole=true→j<fuel→
   qO (cB B LL C1 fuel (bs r) m (f.n:Int) (f.v:Int) f.t (acc.length:Int) (bs k) (lL ((acc.take f.n).map SB)) (lL (b9 ((acc.drop f.n).map cL)))) (oW f k acc j r m):=by
 intro j
 induction j with
 |zero=>
  intro acc r m fuel hj hr ha hfu;obtain⟨fuel,rfl⟩:=bx hfu;rw[D0 _ _ _ _ _ _ _ _ _ _ _ (by simp;omega) (by simp[b9];omega)];unfold GL;rw[bS (by omega),za2 (by omega),ba,DW,DX];have hp:oW f k acc 0 r m=jq f k (acc,r,m):=by
   unfold oW ju;simp
  rw[hp];unfold jq;dsimp only;rw[ha,Bool.and_true];cases hm:(m==f.t) with
  |true=>
   rw[if_pos rfl];refine⟨iE ⟨0,k,acc.take f.n,(acc.drop f.n).map cL,if f.t then r else[]⟩,?_,fun e he=>by cases he;rfl⟩;cases f.t<;>rfl
  |false=>
   rw[if_neg (by decide)];refine⟨iE ⟨0,k,acc.take f.n,(acc.drop f.n).map cL,if f.t then r else[]⟩,?_,fun e he=>by cases he⟩;cases f.t<;>rfl
 |succ j ih=>
  intro acc r m fuel hj hr ha hfu;obtain⟨fuel,rfl⟩:=bx hfu;rw[D0 _ _ _ _ _ _ _ _ _ _ _ (by simp;omega) (by simp[b9];omega)];unfold GL;rw[bS (y:=(f.n:Int)+(f.v:Int)) (by omega),za1 (show(acc.length:Int)<(f.n:Int)+(f.v:Int) by omega),be];cases m with
  |false=>
   rw[Bool.not_false,be];exact gg
  |true=>
   obtain⟨l1,l2,_⟩:=dM 32 r;have g:=h188 r hr;rw[Bool.not_true,ba];rw[show B 188 [.str (bs r)]=some (jz r) from g,bf];show qO (bo (ByteArray.toList (bs (bj 32 r).1)==ByteArray.toList (ByteArray.mk #[])) _ (bo _ (cB B LL C1 fuel (bs (bj 32 r).2.1) (bj 32 r).2.2 _ _ _ _ _ _ _) (bn (B 189 [SB (bj 32 r).1]) _))) _;rw[j5];by_cases hw:(bj 32 r).1=[]
   ·rw[show((bj 32 r).1==[])=true by simpa using hw,be];have:oW f k acc (j+1) r true=none:=by
     unfold oW;rw[oV,if_pos rfl,if_pos hw];rfl
    rw[this];exact gg
   ·rw[show((bj 32 r).1==[])=false by simpa using hw,ba,DZ f k acc j r hw];rw[bS (y:=(acc.length:Int)+1) (by omega)];by_cases hi:acc.length<f.n
    ·have ih:=ih (acc++[(bj 32 r).1]) (bj 32 r).2.1 (bj 32 r).2.2 fuel (by simp;omega) (by omega) (by rw[List.drop_eq_nil_of_le (by simp;omega)];rfl) (by omega);rw[List.drop_eq_nil_of_le (by simp;omega),List.take_of_length_le (by simp;omega),List.map_append,za6] at ih;rw[za1 (by omega),be,List.drop_eq_nil_of_le (by omega),List.take_of_length_le (by omega)];exact ih
    ·rw[za2 (by omega),ba,h189 _ (by omega),bf];show qO (bo (!whole (bj 32 r).1) _ (cB B LL C1 fuel (bs (bj 32 r).2.1) (bj 32 r).2.2 _ _ _ _ _ _ (lL (b9 ((acc.drop f.n).map cL)++[.int .i64 (cL (bj 32 r).1)])))) _;cases hh:whole (bj 32 r).1 with
     |false=>
      rw[Bool.not_false,be,DY acc _ _ _ (by omega) hh];exact gg
     |true=>
      have ih:=ih (acc++[(bj 32 r).1]) (bj 32 r).2.1 (bj 32 r).2.2 fuel (by simp;omega) (by omega) (by
       rw[List.drop_append_of_le_length (by omega),List.all_append,ha];simp[hh]) (by omega)
      rw[List.drop_append_of_le_length (by omega),List.take_append_of_le_length (by omega),List.map_append,za6] at ih;rw[Bool.not_true,ba];unfold b9 at ih ⊢;rw[List.map_append] at ih;exact ih
theorem NH(l:By)(hl:l.length≤1000000):∃x:kS,bR 132 [SB l] (.tup [.agg (d4 x),.bool (qW l).isSome])∧∀e,qW l=some e→x=iE e:=by
 obtain⟨B,hB,e1,e2,e3,_⟩:=eL [DL 188 (fun l=>l.length≤1000000) jz,DL 189 (fun l=>l.length≤1000000) w9,one 121 [SB (bj 32 l).1] (ka (bP (bj 32 l).1))] ⟨kH Hv,kH Hx,bg (DM _),trivial⟩ rfl;have g1:B 188 [.str (bs l)]=some (jz l):=e1 ⟨l,hl⟩;have g3:B 121 [.str (bs (bj 32 l).1)]=some (ka (bP (bj 32 l).1)):=e3 ();have key:qO (bF (cv B LL C1) O0 DI .canon Tryz.f132 [SB l]) (qW l):=by
  rw[show bF (cv B LL C1) O0 DI .canon Tryz.f132 [SB l]=_ from Gu B LL C1 (bs l),g1,bf];show qO (bn (B 121 [.str (bs (bj 32 l).1)]) _) _;rw[g3,bf];show qO (bo (!(bP (bj 32 l).1).is) _ (cB B LL C1 LL (bs (bj 32 l).2.1) (bj 32 l).2.2 ((bP (bj 32 l).1).n:Int) ((bP (bj 32 l).1).v:Int) (bP (bj 32 l).1).t 0 (bs (bj 32 l).1) .nil .nil)) _;unfold qW;cases (bP (bj 32 l).1).is with
  |false=>
   rw[Bool.not_false,be,if_neg (by decide)];exact gg
  |true=>
   rw[Bool.not_true,ba,if_pos rfl];have:=NG (B:=B) (fun l hl=>e1 ⟨l,hl⟩) (fun l hl=>e2 ⟨l,hl⟩) (bP (bj 32 l).1) (gO _) (bj 32 l).1 ((bP (bj 32 l).1).n+(bP (bj 32 l).1).v) [] (bj 32 l).2.1 (bj 32 l).2.2 LL (by simp) (by have:=(dM 32 l).2.1;omega) (by simp) (by have:=gO (bj 32 l).1;unfold LL;omega);simp only[List.take_nil,List.drop_nil,List.map_nil,zb5,b9] at this;exact this
 obtain⟨x,hx,h⟩:=key;exact⟨x,dG hB Tryz.func132 (ord:=O0) (N:=DI) (by kernel_rfl) hx,h⟩
theorem s8(c:UInt8):∀(k d:Nat) (l:By),(cj c k l).length≤k→cj c (k+d) l=cj c k l
 |0,_,l,h=>by have:=ux c 0 l;omega
 |k+1,d,l,h=>by
  rw[show k+1+d=(k+d)+1 by omega];rw[jp] at h;rw[jp c (k+d) l,jp c k l];split
  ·rename_i hc;rw[if_pos hc,za7] at h;rw[s8 c k d _ (by omega)]
  ·rfl
theorem wX(c:UInt8):∀(k d:Nat) (l:By),(cj c (k+d) l).length≤k→cj c k l=cj c (k+d) l
 |0,d,l,h=>by have:=ux c (0+d) l;omega
 |k+1,d,l,h=>by
  rw[show k+1+d=(k+d)+1 by omega] at h ⊢;rw[jp] at h;rw[jp c (k+d) l,jp c k l];split
  ·rename_i hc;rw[if_pos hc,za7] at h;rw[wX c k d _ (by omega)]
  ·rfl
theorem GM(c:UInt8)(k:Nat)(l:By)(h:(spl c l).length≤k):cj c k l=spl c l:=by
 rw[Aa c (k+l.length) l (by omega)] at h ⊢;exact wX c k l.length l h
theorem D1(c:UInt8)(k:Nat)(l:By)(h:(cj c k l).length≤k):spl c l=cj c k l:=by
 rw[Aa c (k+l.length) l (by omega)];exact s8 c k l.length l h
def uz(w:By):Bool:=w==[]
theorem yM:∀(k:Nat) (r:By),ju k r true=if(cj 32 k r).length<k then none else if((cj 32 k r).take k).any uz=true then none else
  if(cj 32 k r).length=k+1 then some ((cj 32 k r).take k,(cj 32 k r).getD k [],true) else some ((cj 32 k r).take k,[],false)
 |0,r=>rfl
 |k+1,r=>by
  have hn:=ux 32 k (bj 32 r).2.1;rw[oV,if_pos rfl,jp];cases hm:(bj 32 r).2.2 with
  |true=>
   rw[if_pos rfl,yM k (bj 32 r).2.1,List.take_succ_cons,List.any_cons,za7,List.getD_cons_succ];generalize cj 32 k (bj 32 r).2.1=P at hn ⊢;by_cases hw:(bj 32 r).1=[]
   ·rw[if_pos hw,show uz (bj 32 r).1=true by unfold uz;simpa using hw,Bool.true_or,if_pos (show true=true from rfl),ite_self]
   ·rw[if_neg hw,show uz (bj 32 r).1=false by unfold uz;simpa using hw,Bool.false_or];by_cases h1:P.length<k
    ·rw[if_pos h1,if_pos (show P.length+1<k+1 by omega)];rfl
    ·rw[if_neg h1,if_neg (show¬P.length+1<k+1 by omega)];by_cases he:(P.take k).any uz=true
     ·rw[if_pos he,if_pos he];rfl
     ·rw[if_neg he,if_neg he];by_cases h2:P.length=k+1
      ·rw[if_pos h2,if_pos (show P.length+1=k+1+1 by omega)];rfl
      ·rw[if_neg h2,if_neg (show¬P.length+1=k+1+1 by omega)];rfl
  |false=>
   obtain⟨h1,h2⟩:=uw hm;simp only[Bool.false_eq_true,if_false];rw[h1,h2];cases k with
   |zero=>
    by_cases hw:r=[]
    ·subst hw;rfl
    ·rw[if_neg hw];have:uz r=false:=by unfold uz;simpa using hw
     show _=if 1<1 then none else if([r].any uz)=true then none else _
     rw[List.any_cons,this];rfl
   |succ k=>
    show(if r=[] then none else Option.map _ none)=_;rw[if_pos (show[r].length<k+1+1 by simp)];simp
theorem Bk(f:Frm)(k r:By)(ht:f.t=true):oW f k [] (f.n+f.v) r true=
  if(cj 32 (f.n+f.v) r).length=f.n+f.v+1 then(if((cj 32 (f.n+f.v) r).take (f.n+f.v)).any uz=true then none else jq f k ((cj 32 (f.n+f.v) r).take (f.n+f.v),(cj 32 (f.n+f.v) r).getD (f.n+f.v) [],true)) else none:=by
 unfold oW;rw[yM];by_cases h:(cj 32 (f.n+f.v) r).length=f.n+f.v+1
 ·rw[if_pos h,if_neg (by omega)];split
  ·rfl
  ·rfl
 ·rw[if_neg h];split
  ·rfl
  ·split
   ·rfl
   ·show jq f k _=none;unfold jq;rw[if_neg];rw[ht];simp
theorem GN(f:Frm)(k r:By)(ht:f.t=false):oW f k [] (f.n+f.v) r true=
  if(spl 32 r).length=f.n+f.v then(if(spl 32 r).any uz=true then none else jq f k (spl 32 r,[],false)) else none:=by
 unfold oW;rw[yM];by_cases h:(spl 32 r).length=f.n+f.v
 ·have e:=GM 32 (f.n+f.v) r (by omega);rw[e,if_pos h,if_neg (by omega),List.take_of_length_le (by omega)];split
  ·rfl
  ·rw[if_neg (by omega)];rfl
 ·rw[if_neg h];split
  ·rfl
  ·rename_i h1;split
   ·rfl
   ·have h2:(cj 32 (f.n+f.v) r).length=f.n+f.v+1:=by
     have:=kJ 32 (f.n+f.v) r;rcases Nat.lt_or_ge (f.n+f.v) (cj 32 (f.n+f.v) r).length with h3|h3
     ·omega
     ·have h4:=D1 32 (f.n+f.v) r h3;rw[h4] at h;omega
    rw[if_pos h2];show jq f k _=none;unfold jq;rw[if_neg];rw[ht];simp
noncomputable def GO(B:FuncId→List D→Option D)(fuel:Nat)(num:Int)(k t:ByteArray)(f:Bool)(n:Nat)(c:List D)(u i:Int)(ns vs:List D):Option D:=
 bo (decide (i<u)) (bu (decide (0≤i∧i<(n:Int))) (bc c (Int.toNat i*1) fun d=>bH d fun s=>bn (B 205 [.str s]) fun q=>cJ q 2 fun c'=>bc c' 0 fun d=>bw .i64 d fun x=>bc c' 1 fun d=>bM d fun b=>
   bo (!b) (some (.tup [.agg [.int .i64 num,.str k,BC ns,BC vs,.str t],.bool false])) (cI B LL C1 fuel num k t f n c u (IntKind.wrap .i64 (i+1)) (lL ns) (lL (vs++[.int .i64 x])))))
  (some (.tup [.agg [.int .i64 num,.str k,BC ns,BC vs,.str t],.bool true]))
theorem D2(B:FuncId→List D→Option D)(fuel:Nat)(num:Int)(k t:ByteArray)(f:Bool)(n:Nat)(c:List D)(u i:Int)(ns vs:List D)(hv:vs.length≤1000):
  cI B LL C1 (fuel+1) num k t f n c u i (lL ns) (lL vs)=GO B fuel num k t f n c u i ns vs:=by
 unfold GO;cases ns with
 |nil=>
  cases vs with
  |nil=>exact n9 ..
  |cons b vs=>
   rw[show lL (b::vs)=Ow.own (vs.length+1) (b::vs) from rfl,show lL []=Ow.nil from rfl,oa];simp only[zE (show vs.length+1≤1000000 by simp at hv;omega),bh,ki];rfl
 |cons a ns=>
  cases vs with
  |nil=>
   rw[show lL (a::ns)=Ow.own (ns.length+1) (a::ns) from rfl,show lL []=Ow.nil from rfl,oe];rfl
  |cons b vs=>
   rw[show lL (a::ns)=Ow.own (ns.length+1) (a::ns) from rfl,show lL (b::vs)=Ow.own (vs.length+1) (b::vs) from rfl,og];simp only[zE (show vs.length+1≤1000000 by simp at hv;omega),bh,ki];rfl
def mJ(num:Int)(o:Option D)(p:Option EvV):Prop:=∃x:kS,o=some (.tup [.agg (d4 x),.bool p.isSome])∧∀e,p=some e→x=iE {e with n:=num}
theorem eK(num:Int)(x:kS):mJ num (some (.tup [.agg (d4 x),.bool false])) none:=⟨x,rfl,fun _ h=>by cases h⟩
def x0(num:Int)(k t:By):kS:=((true,true),⟨num,k,[],[],t⟩)
theorem NI{B:FuncId→List D→Option D}(h205:∀l:By,l.length≤1000000→B 205 [SB l]=some (w9 l))(num:Int)(k t:By)(f:Bool)(ns:List By):∀(r pre:List By) (fuel:Nat),(pre++r).length≤1000→(∀s∈r,s.length≤1000000)→pre.all whole=true→r.length<fuel→
  mJ num (cI B LL C1 fuel num (bs k) (bs t) f (pre++r).length ((pre++r).map SB) ((pre++r).length:Int) (pre.length:Int) (lL (ns.map SB)) (lL (b9 (pre.map cL))))
   (if(pre++r).all whole=true then some ⟨0,k,ns,(pre++r).map cL,t⟩ else none):=by
 intro r
 induction r with
 |nil=>
  intro pre fuel hl h1 ha hf;obtain⟨fuel,rfl⟩:=bx hf;rw[D2 _ _ _ _ _ _ _ _ _ _ _ _ (by simp[b9] at hl ⊢;omega)];unfold GO;rw[dI,ba,DW,DX,zb6,if_pos ha];exact⟨iE ⟨num,k,ns,pre.map cL,t⟩,rfl,fun e he=>by cases he;rfl⟩
 |cons w r ih=>
  intro pre fuel hl h1 ha hf;obtain⟨fuel,rfl⟩:=bx hf;rw[D2 _ _ _ _ _ _ _ _ _ _ _ _ (by simp[b9] at hl ⊢;omega)];unfold GO;rw[eF,be,eh,bh,J3,bE];show mJ num (bn (B 205 [SB w]) _) _;rw[h205 w (h1 w (za4 ..)),bf,cX pre w r (by omega)];show mJ num (bo (!whole w) _ (cI B LL C1 fuel num (bs k) (bs t) f _ _ _ _ _ (lL (b9 (pre.map cL)++[.int .i64 (cL w)])))) _;cases hw:whole w with
  |false=>
   rw[Bool.not_false,be,DW,DX,List.all_append,List.all_cons,hw,Bool.false_and,Bool.and_false,if_neg (by decide)];exact eK num (iE ⟨num,k,ns,pre.map cL,t⟩)
  |true=>
   have ih:=ih (pre++[w]) fuel (by rw[dw];exact hl) (fun s hs=>h1 s (za5 _ hs)) (by rw[List.all_append,ha];simp[hw]) (by simp at hf;omega);rw[dw] at ih;rw[Bool.not_true,ba];rw[show b9 ((pre++[w]).map cL)=b9 (pre.map cL)++[.int .i64 (cL w)] by simp[b9]] at ih;exact ih
theorem Kk{B:FuncId→List D→Option D}(h205:∀l:By,l.length≤1000000→B 205 [SB l]=some (w9 l))(num:Int)(k t:By)(g:Bool)(fr:Frm)(hf:fr.n≤2∧fr.v≤1)(ws:List By)(hw:ws.length=fr.n+fr.v)(h1:∀s∈ws,s.length≤1000000)(a:Int)(c:Bool):
  mJ num (kG B LL C1 g ws.length (ws.map SB) (fr.n:Int) a c num (bs k) (bs t)) (if(ws.drop fr.n).all whole=true then some ⟨0,k,ws.take fr.n,(ws.drop fr.n).map cL,t⟩ else none):=by
 have hlen:(List.take fr.n (ws.map SB)).length=fr.n:=by simp;omega
 have go:=fun fl=>NI (B:=B) h205 num k t fl (ws.take fr.n) (ws.drop fr.n) [] LL (by simp;omega) (fun s hs=>h1 s (List.mem_of_mem_drop hs)) rfl (by simp;unfold LL;omega);simp only[zb7,zb5,List.map_nil] at go;rw[un (hC:=c1),za1 (show(0:Int)≤0∧(0:Int)≤(fr.n:Int)∧(fr.n:Int)≤(ws.length:Int) by omega),bh,Int.sub_zero,za3,Nat.mul_one,hlen,za1 rfl,bh];have ho:List.all (List.take fr.n (ws.map SB)) D.one=true:=by
  rw[←List.map_take,zd7];intro x hx;obtain⟨y,_,rfl⟩:=zd6.1 hx;rfl
 rw[ho,bh,za1 (show(0:Int)≤(fr.n:Int)∧(fr.n:Int)≤(ws.length:Int)∧(ws.length:Int)≤(ws.length:Int) by omega)];have hd:Int.toNat ((ws.length:Int)-(fr.n:Int))=(ws.drop fr.n).length:=by rw[ze1];omega
 have ht:List.take ((ws.drop fr.n).length) (List.drop fr.n (ws.map SB))=(ws.drop fr.n).map SB:=by rw[←List.map_drop,List.take_of_length_le (by simp)]
 rw[hd,Nat.mul_one,ht,←List.map_take];by_cases h0:fr.n=0
 ·rw[za1 h0,be,bh];have hz:lL ((ws.take fr.n).map SB)= .nil:=by rw[h0];rfl
  have:=go (g&&decide ((ws.length:Int)=(ws.length:Int)));rw[hz] at this;exact this
 ·rw[za2 h0,ba,bh,za1 (show fr.n*16≤cg∧fr.n≤9223372036854775807 by rw[show cg=140737488355328 from rfl];omega),bh];have hz:lL ((ws.take fr.n).map SB)= .own fr.n ((ws.take fr.n).map SB):=by
   have hl2:((ws.take fr.n).map SB).length=fr.n:=by simp;omega
   revert hl2
   cases (ws.take fr.n).map SB with
   |nil=>intro e;exact absurd e.symm h0
   |cons x l=>intro e;show Ow.own (l.length+1) _=_;rw[show l.length+1=fr.n from e]
  have:=go (g&&decide ((ws.length:Int)=(ws.length:Int)));rw[hz] at this;exact this
theorem D3(ws:List By):Ju (ws.map bs) (ByteArray.mk #[])=ws.any uz:=by
 unfold Ju;rw[List.any_map]
 congr 1
 funext w
 exact j5 w
theorem D4{B:FuncId→List D→Option D}(h205:∀l:By,l.length≤1000000→B 205 [SB l]=some (w9 l))(num:Int)(k t:By)(g:Bool)(fr:Frm)(hf:fr.n≤2∧fr.v≤1)(ws:List By)(h155:∀g:Bool,ws.length=fr.n+fr.v→B 155 [.slc g ws.length (ws.map SB),.str (ByteArray.mk #[])]=some (.bool (ws.any uz)))(h1:∀s∈ws,s.length≤1000000)(a:Int)(c:Bool):
  mJ num (gf B LL C1 ((fr.n:Int)+(fr.v:Int)) (fr.n:Int) a c num (bs k) g ws.length (ws.map SB) (bs t)) (if ws.length=fr.n+fr.v then(if ws.any uz=true then none else if(ws.drop fr.n).all whole=true then some ⟨0,k,ws.take fr.n,(ws.drop fr.n).map cL,t⟩ else none) else none):=by
 rw[uo (hC:=c1)];by_cases h:ws.length=fr.n+fr.v
 ·rw[show((ws.length:Int) !=(fr.n:Int)+(fr.v:Int))=false by(rw[bne_eq_false_iff_eq];omega),ba,h155 g h,bf,bD,if_pos h];cases ws.any uz with
  |true=>
   rw[be,if_pos rfl];exact eK num (x0 num k t)
  |false=>
   rw[ba,if_neg (by decide)];exact Kk h205 num k t g fr hf ws h h1 a c
 ·rw[show((ws.length:Int) !=(fr.n:Int)+(fr.v:Int))=true by(rw[ze5];omega),be,if_neg h];exact eK num (x0 num k t)
theorem kK(c:UInt8):∀(l:By) (w:By),w∈spl c l→w.length≤l.length
 |[],w,h=>by
  rw[spl,zd1] at h;subst h;exact zb0 _
 |x::r,w,h=>by
  rw[spl] at h;split at h
  ·rcases List.mem_cons.1 h with rfl|h
   ·exact Nat.zero_le _
   ·exact zb1 (kK c r w h) (Nat.le_succ _)
  ·have hd:∃y q,spl c r=y::q:=by
    cases e:spl c r with
    |nil=>exact absurd e (JL c r)
    |cons y q=>exact⟨y,q,rfl⟩
   obtain⟨y,q,e⟩:=hd;rw[e] at h;rcases List.mem_cons.1 h with rfl|h
   ·have:=kK c r y (e▸za4 ..);simp;exact this
   ·exact zb1 (kK c r w (e▸za5 _ h)) (Nat.le_succ _)
theorem Bl(c:UInt8)(l:By):(spl c l).length≤l.length+1:=by
 rw[Aa c l.length l (zb0 _)];exact kJ c _ l
theorem qP(c:UInt8):∀(k:Nat) (l:By) (w:By),w∈cj c k l→w.length≤l.length
 |0,l,w,h=>by rw[cj,zd1] at h;subst h;exact zb0 _
 |k+1,l,w,h=>by
  have hc:=dM c l;rw[cj] at h;split at h
  ·rcases List.mem_cons.1 h with rfl|h
   ·exact hc.1
   ·exact zb1 (qP c k _ w h) hc.2.1
  ·rw[zd1] at h;subst h;exact zb0 _
theorem yN(num:Int){o:Option D}{p q:Option EvV}(h:p=q)(hf:mJ num o p):mJ num o q:=h▸hf
section
variable {B:FuncId→List D→Option D}(h130:∀l:By,l.length≤100000→B 130 [SB l,SB [32]]=some (Bc (spl 32 l)))(h204:∀(l:By) (k:Nat),l.length≤100000→k≤1000→B 204 [SB l,SB [32],.int .i64 ((k+1:Nat):Int)]=some (yL (cj 32 k l)))
 (h205:∀l:By,l.length≤1000000→B 205 [SB l]=some (w9 l)) (h155:∀(g:Bool) (ws:List By),ws.length≤100000→B 155 [.slc g ws.length (ws.map SB),.str (ByteArray.mk #[])]=some (.bool (ws.any uz)))
include h130 h204 h205 h155
theorem Kl(num:Int)(k r:By)(hr:r.length≤90000)(m:Bool)(fr:Frm)(hf:fr.n≤2∧fr.v≤1)(hm:m=false→fr.n+fr.v=0∧fr.t=false)(hm2:m=true→0<fr.n+fr.v∨fr.t=true)(a:Int):
  mJ num (j7 B LL C1 (bs r) m (fr.n:Int) a fr.t num (bs k) ((fr.n:Int)+(fr.v:Int))) (oW fr k [] (fr.n+fr.v) r m):=by
 rw[wO (hC:=c1)];cases m with
 |false=>
  obtain⟨q1,q2⟩:=hm rfl;rw[Bool.not_false,be,q1];refine yN num (p:=some ⟨0,k,[],[],[]⟩) ?_ ⟨iE ⟨num,k,[],[],[]⟩,rfl,fun e he=>by cases he;rfl⟩;unfold oW ju;show _=jq fr k ([],r,false);unfold jq;rw[q2];simp
 |true=>
  have hz:=hm2 rfl;rw[Bool.not_true,ba,show B 130 [.str (bs r),.str (ByteArray.mk #[32])]=some (Bc (spl 32 r)) from h130 r (by omega),bf];show mJ num (bo fr.t _ (gf B LL C1 _ (fr.n:Int) a fr.t num (bs k) true (spl 32 r).length ((spl 32 r).map SB) (bs []))) _;cases ht:fr.t with
  |false=>
   have hp:0<fr.n+fr.v:=by
    rcases hz with h|h
    ·exact h
    ·rw[ht] at h;cases h
   rw[ba];have hc:=Bl 32 r;have:=D4 (B:=B) h205 num k [] true fr hf (spl 32 r) (fun g _=>h155 g _ (by omega)) (fun s hs=>by have:=kK 32 r s hs;omega) a false;refine yN num ?_ this;rw[GN fr k r ht];split
   ·split
    ·rfl
    ·unfold jq;rw[ht];rfl
   ·rfl
  |true=>
   have hn:=kJ 32 (fr.n+fr.v) r;rw[be,bS (by omega),show(fr.n:Int)+(fr.v:Int)+1=((fr.n+fr.v+1:Nat):Int) by omega,
    show B 204 [.str (bs r),.str (ByteArray.mk #[32]),.int .i64 ((fr.n+fr.v+1:Nat):Int)]=some (yL (cj 32 (fr.n+fr.v) r)) from h204 r _ (by omega) (by omega),bf,Bk fr k r ht]
   unfold yL;rw[cW];by_cases h:(cj 32 (fr.n+fr.v) r).length=fr.n+fr.v+1
   ·have hg:bc ((cj 32 (fr.n+fr.v) r).map SB) (Int.toNat ((fr.n:Int)+(fr.v:Int))*1)=fun c:D→Option D=>c (SB ((cj 32 (fr.n+fr.v) r).getD (fr.n+fr.v) [])):=by
     funext c
     unfold bc;rw[show Int.toNat ((fr.n:Int)+(fr.v:Int))*1=fr.n+fr.v by omega,zc3,zd2 (show fr.n+fr.v<(cj 32 (fr.n+fr.v) r).length by omega)];simp[List.getD,zd2 (show fr.n+fr.v<(cj 32 (fr.n+fr.v) r).length by omega)]
    have hl:((cj 32 (fr.n+fr.v) r).take (fr.n+fr.v)).length=fr.n+fr.v:=by rw[ze2];omega
    rw[if_pos h,show(((cj 32 (fr.n+fr.v) r).length:Int) !=((fr.n+fr.v+1:Nat):Int))=false by(rw[bne_eq_false_iff_eq];omega),ba,za1 (show(0:Int)≤(fr.n:Int)+(fr.v:Int)∧(fr.n:Int)+(fr.v:Int)<((cj 32 (fr.n+fr.v) r).length:Int) by omega),bh,hg];show mJ num (bH (SB _) _) _;rw[bE,za1 (show(0:Int)≤0∧(0:Int)≤(fr.n:Int)+(fr.v:Int)∧(fr.n:Int)+(fr.v:Int)≤((cj 32 (fr.n+fr.v) r).length:Int) by omega),bh,Int.sub_zero,show Int.toNat ((fr.n:Int)+(fr.v:Int))=fr.n+fr.v by omega,Nat.mul_one];have:=D4 (B:=B) h205 num k ((cj 32 (fr.n+fr.v) r).getD (fr.n+fr.v) []) (false&&decide ((fr.n:Int)+(fr.v:Int)=((cj 32 (fr.n+fr.v) r).length:Int))) fr hf ((cj 32 (fr.n+fr.v) r).take (fr.n+fr.v)) (fun g _=>h155 g _ (by omega)) (fun s hs=>by have:=qP 32 _ r s (List.mem_of_mem_take hs);omega) a true;rw[hl,List.map_take] at this;refine yN num ?_ this;rw[if_pos rfl];split
    ·rfl
    ·unfold jq;rw[ht];rfl
   ·rw[if_neg h,show(((cj 32 (fr.n+fr.v) r).length:Int) !=((fr.n+fr.v+1:Nat):Int))=true by(rw[ze5];omega),be];exact eK num (x0 num k [])
theorem Km(num:Int)(k r:By)(hr:r.length≤90000)(m:Bool)(fr:Frm)(hf:fr.n≤2∧fr.v≤1):
  mJ num (dP B LL C1 num (bs k) (bs r) m fr.is (fr.n:Int) (fr.v:Int) fr.t) (if fr.is=true then oW fr k [] (fr.n+fr.v) r m else none):=by
 rw[yB (hC:=c1)];cases fr.is with
 |false=>
  rw[Bool.not_false,be,if_neg (by decide)];exact eK num (x0 num k [])
 |true=>
  have main:=fun a b=>Kl h130 h204 h205 h155 num k r hr m fr hf a b (fr.v:Int);rw[Bool.not_true,ba,if_pos rfl,bS (by omega)];by_cases h0:0<fr.n+fr.v
  ·rw[za1 (by omega),be];cases m with
   |false=>
    rw[show(!(false==true))=true from rfl,be];have:oW fr k [] (fr.n+fr.v) r false=none:=by
     unfold oW;rw[show fr.n+fr.v=(fr.n+fr.v-1)+1 by omega,oV];rfl
    rw[this];exact eK num (x0 num k [])
   |true=>
    rw[show(!(true==true))=false from rfl,ba];exact main (fun h=>by cases h) fun _=> .inl h0
  ·rw[za2 (by omega),ba];have hbad:m≠fr.t→oW fr k [] (fr.n+fr.v) r m=none:=fun hne=>by
    rw[show fr.n+fr.v=0 by omega];unfold oW ju;show jq fr k ([],r,m)=none;unfold jq;rw[if_neg];simp[hne]
   cases m with
   |false=>
    cases ht:fr.t with
    |false=>
     rw[ht] at main;rw[show(!(false==false))=false from rfl,ba];exact main (fun _=>⟨by omega,rfl⟩) (fun h=>by cases h)
    |true=>
     rw[show(!(false==true))=true from rfl,be,hbad (by rw[ht];decide)];exact eK num (x0 num k [])
   |true=>
    cases ht:fr.t with
    |false=>
     rw[show(!(true==false))=true from rfl,be,hbad (by rw[ht];decide)];exact eK num (x0 num k [])
    |true=>
     rw[ht] at main;rw[show(!(true==true))=false from rfl,ba];exact main (fun h=>by cases h) fun _=> .inr rfl
end
def NJ(P:By→Prop):Fam:=⟨130,{l:By//P l},fun l=>[SB l.1,SB [32]],fun l=>Bc (spl 32 l.1)⟩
def fa204:Fam:=⟨204,{x:By×Nat//x.1.length≤100000∧x.2≤1000},fun x=>[SB x.1.1,SB [32],.int .i64 ((x.1.2+1:Nat):Int)],fun x=>yL (cj 32 x.1.2 x.1.1)⟩
theorem yO:fa204.Good:=⟨fun x=>NF x.1.1 32 x.1.2 (by have:=x.2.1;omega) x.2.2,fun i j e=>by
 have e:[SB i.1.1,SB [32],D.int .i64 ((i.1.2+1:Nat):Int)]=[SB j.1.1,SB [32],D.int .i64 ((j.1.2+1:Nat):Int)]:=e;simp only[zc5,and_true,D.str.injEq,D.int.injEq,true_and] at e;obtain⟨e1,e2⟩:=e;rw[show i=j from Subtype.ext (Prod.ext (hN e1) (by omega))]⟩
theorem Bm:(NJ fun l=>l.length≤100000).Good:=⟨fun x=>MQ x.1 32 (by have:=x.2;omega),fun i j e=>by
 have e:[SB i.1,SB [32]]=[SB j.1,SB [32]]:=e;simp only[zc5,and_true,D.str.injEq] at e;rw[show i=j from Subtype.ext (hN e)]⟩
def faEmp:Fam:=⟨155,Bool×{l:List By//l.length≤100000},fun x=>[.slc x.1 x.2.1.length (x.2.1.map SB),SB []],fun x=> .bool (x.2.1.any uz)⟩
theorem oX:∀{a b:List By},a.map SB=b.map SB→a=b
 |[],[],_=>rfl
 |[],_::_,h=>by cases h
 |_::_,[],h=>by cases h
 |x::a,y::b,h=>by
  simp only[List.map_cons,zc5,D.str.injEq] at h;rw[hN h.1,oX h.2]
theorem yP:faEmp.Good:=⟨fun x=>by
 have:=MG (f:=x.1) (x.2.1.map bs) (ByteArray.mk #[]) (by simpa using x.2.2);rw[D3,zc2,show j3 (x.2.1.map bs)=x.2.1.map SB by unfold j3;rw[List.map_map];rfl] at this;exact this,fun i j e=>by
 have e:[D.slc i.1 i.2.1.length (i.2.1.map SB),SB []]=[D.slc j.1 j.2.1.length (j.2.1.map SB),SB []]:=e;simp only[zc5,and_true,D.slc.injEq] at e;show D.bool (i.2.1.any uz)= .bool (j.2.1.any uz);rw[oX e.2.2]⟩
theorem NK(l:By)(num:Int)(hl:l.length≤90000):∃x:kS,bR 136 [SB l,.int .i64 num] (.tup [.agg (d4 x),.bool (qW l).isSome])∧∀e,qW l=some e→x=iE {e with n:=num}:=by
 obtain⟨B,hB,a1,a2,e1,e2,e3,e4,e5,_⟩:=eL [one 113 [] lH,fa214,one 133 [SB l,SB [32]] (jz l),NJ fun l=>l.length≤100000,fa204,DL 205 (fun l=>l.length≤1000000) w9,faEmp]
  ⟨bg GI,jo,bg (DB l 32 (by omega)),Bm,yO,kH Hy,yP,trivial⟩ rfl
 have he:EnvOK (jy B LL C1).E:=⟨pA hB,(fun _ _ h=>nomatch h),(fun _ _ _ h=>nomatch h),(fun _ _ hi=>nomatch hi)⟩;have g1:B 133 [.str (bs l),.str (ByteArray.mk #[32])]=some (jz l):=e1 ();have main:=fun fr hf=>Km (B:=B) (fun l hl=>e2 ⟨l,hl⟩) (fun l k hl hk=>e3 ⟨(l,k),hl,hk⟩) (fun l hl=>e4 ⟨l,hl⟩) (fun g ws hw=>e5 (g,⟨ws,hw⟩)) num (bj 32 l).1 (bj 32 l).2.1 (by have:=(dM 32 l).2.1;omega) (bj 32 l).2.2 fr hf;have key:mJ num (bF (jy B LL C1) O0 um .canon Tryz.f136 [SB l,.int .i64 num]) (qW l):=by
  rw[show bF (jy B LL C1) O0 um .canon Tryz.f136 [SB l,.int .i64 num]=_ from Gv B LL C1 (bs l) num,g1,bf];unfold jz;rw[GK,En,bE,Eo,bE,Ep,bD];simp only[lI];refine Eq.mpr (congrArg (fun o=>mJ num o (qW l)) (lJ (bj 32 l).1 fun k a b c=>dP B LL C1 num (bs (bj 32 l).1) (bs (bj 32 l).2.1) (bj 32 l).2.2 k a b c)) ?_;exact main _ (gO _)
 obtain⟨x,hx,h⟩:=key;exact⟨x,eY (Te:=jy B LL C1) fk he (oU (a1 ()) a2) rfl (fun _ _ _ h=>by cases h) Tryz.func136 (by simp) (ord:=O0) (N:=um) (by kernel_rfl) hx,h⟩
def mK(e:EvV):By:=e.k++(e.ns.flatMap (fun w=>32::w)++(e.vs.flatMap (fun v=>32::Lib.decDigits v.toNat)++(if(bP e.k).t then 32::e.t else[])))
def cx(e:EvV):By:=Lib.decDigits e.n.toNat++32::mK e
theorem s9:∀(k:Nat) (r:By) (m:Bool) (ws:List By) (r':By) (m':Bool),ju k r m=some (ws,r',m')→tl r m=ws.flatMap (fun w=>32::w)++tl r' m'∧ws.length=k
 |0,r,m,ws,r',m',h=>by
  cases h;exact⟨rfl,rfl⟩
 |k+1,r,m,ws,r',m',h=>by
  unfold ju at h;split at h
  ·rename_i hm;subst hm;split at h
   ·cases h
   ·obtain⟨⟨ws1,r1,m1⟩,h1,h2⟩:=zd4.1 h;cases h2;obtain⟨h3,h4⟩:=s9 k _ _ _ _ _ h1;refine⟨?_,by simp[h4]⟩;rw[List.flatMap_cons,za8,←h3];show 32::r=32::((bj 32 r).1++_);rw[←DU]
  ·cases h
theorem wY:∀ws:List By,ws.all whole=true→(ws.map cL).flatMap (fun v=>32::Lib.decDigits v.toNat)=ws.flatMap fun w=>32::w
 |[],_=>rfl
 |w::ws,h=>by
  rw[List.all_cons,zc4] at h;obtain⟨n,_,h2,h3⟩:=zZ (l:=w) h.1;rw[List.map_cons,List.flatMap_cons,List.flatMap_cons,wY ws h.2,show(cL w).toNat=n by unfold cL;omega,h3]
theorem wZ{l:By}{e:EvV}(h:qW l=some e):l=mK e∧(bP e.k).is=true∧e.ns.length=(bP e.k).n∧e.vs.length=(bP e.k).v:=by
 unfold qW at h;split at h
 ·rename_i his;unfold oW at h;obtain⟨⟨ws,r,m⟩,h1,h2⟩:=Option.bind_eq_some_iff.1 h;obtain⟨t1,t2⟩:=s9 _ _ _ _ _ _ h1;unfold jq at h2;simp only[zb7] at h2;split at h2
  ·rename_i hb;rw[zc4,ze4] at hb;cases h2;refine⟨?_,his,by simp;omega,by simp;omega⟩;unfold mK;dsimp only;rw[wY _ hb.2,←za8 (List.flatMap _ _),←zd5,List.take_append_drop];have e1:tl r m=if(bP (bj 32 l).1).t then 32::(if(bP (bj 32 l).1).t then r else[]) else[]:=by
    rw[hb.1];unfold tl;cases (bP (bj 32 l).1).t<;>rfl
   rw[←e1,←t1,←DU]
  ·cases h2
 ·cases h
theorem D5{α:Type}{g:α→By}:∀{l:List α} {x:α},x∈l→(g x).length≤(l.flatMap g).length
 |y::l,x,h=>by
  rw[List.flatMap_cons,za6];rcases List.mem_cons.1 h with rfl|h
  ·omega
  ·have:=D5 (g:=g) h;omega
structure EvV.Sm(e:EvV)(n:Nat):Prop where
 k:e.k.length≤n
 ns:e.ns.length≤2
 n1:∀s∈e.ns,s.length≤n
 vs:e.vs.length≤1
 t:(bP e.k).t=true→e.t.length≤n
theorem yQ(e:EvV)(h1:e.ns.length≤2)(h2:e.vs.length≤1):e.Sm (mK e).length:=by
 unfold mK;refine⟨by rw[za6];omega,h1,fun s hs=> ?_,h2,fun ht=> ?_⟩
 ·have:=D5 (g:=fun w:By=>32::w) hs;rw[za6,za6];refine zb1 (Nat.le_succ _) (zb1 this (zb1 (Nat.le_add_right _ _) (Nat.le_add_left _ _)))
 ·rw[ht,za6,za6,za6,if_pos rfl,za7];omega
theorem NL{l:By}{e:EvV}(h:qW l=some e):(bP e.k).t=false→e.t=[]:=by
 unfold qW at h;split at h
 ·unfold oW at h;obtain⟨⟨ws,r,m⟩,h1,h2⟩:=Option.bind_eq_some_iff.1 h;unfold jq at h2;split at h2
  ·cases h2;intro ht;dsimp only at ht ⊢;rw[ht];rfl
  ·cases h2
 ·cases h
theorem nq{l:By}{e:EvV}(h:qW l=some e):e.Sm l.length∧e.t.length≤l.length:=by
 obtain⟨h1,h2,h3,h4⟩:=wZ h;have hf:=gO e.k;have hs:=yQ e (by omega) (by omega);rw[←h1] at hs;refine⟨hs,?_⟩;cases ht:(bP e.k).t with
 |true=>exact hs.t ht
 |false=>rw[NL h ht];exact Nat.zero_le _
def uA(b:By):Option EvV:=
 if(bj 32 b).2.2=true∧whole (bj 32 b).1=true then(qW (bj 32 b).2.1).bind fun e=>if lg {e with n:=cL (bj 32 b).1}=0 then some {e with n:=cL (bj 32 b).1} else none else none
theorem D6{b:By}{e:EvV}(h:uA b=some e):b=cx e∧lg e=0∧e.Sm b.length∧e.t.length≤b.length∧0≤e.n∧e.n<1000000000:=by
 unfold uA at h;split at h
 ·rename_i hc;obtain⟨e1,h1,h2⟩:=Option.bind_eq_some_iff.1 h;split at h2
  ·rename_i hz;cases h2;obtain⟨n,n1,n2,n3⟩:=zZ (l:=(bj 32 b).1) hc.2;have n2:cL (bj 32 b).1=(n:Int):=n2;have hl:=(dM 32 b).2.1;obtain⟨s1,s2⟩:=nq h1;refine⟨?_,hz,⟨zb1 s1.k hl,s1.ns,fun s hs=>zb1 (s1.n1 s hs) hl,s1.vs,fun ht=>zb1 (s1.t ht) hl⟩,zb1 s2 hl,?_,?_⟩
   ·unfold cx;dsimp only;rw[n2,za3,n3];show b=(bj 32 b).1++32::mK e1;rw[←(wZ h1).1];exact lK hc.1
   ·show 0≤cL _;omega
   ·show cL _<_;omega
  ·cases h2
 ·cases h
theorem NM(b:By)(hl:b.length≤90000):∃x:kS,bR 325 [SB b] (.tup [.agg (d4 x),.bool (uA b).isSome])∧∀e,uA b=some e→x=iE e:=by
 obtain⟨l1,l2,_⟩:=dM 32 b;obtain⟨y,o136,hy⟩:=NK (bj 32 b).2.1 (cL (bj 32 b).1) (by omega);have h133:=DB b 32 (by omega);have h205:=Hy (bj 32 b).1 (by omega);cases hp:qW (bj 32 b).2.1 with
 |none=>
  have hr:uA b=none:=by
   unfold uA;rw[hp];split<;>rfl
  rw[hp] at o136;obtain⟨B,hB,e1,e2,e3,_⟩:=eL [one 133 [SB b,SB [32]] (jz b),one 205 [SB (bj 32 b).1] (w9 (bj 32 b).1),one 136 [SB (bj 32 b).2.1,.int .i64 (cL (bj 32 b).1)] (.tup [.agg (d4 y),.bool false])] ⟨bg h133,bg h205,bg o136,trivial⟩ rfl;have g1:B 133 [.str (bs b),.str (ByteArray.mk #[32])]=some (jz b):=e1 ();have g2:B 205 [.str (bs (bj 32 b).1)]=some (w9 (bj 32 b).1):=e2 ();have g3:B 136 [.str (bs (bj 32 b).2.1),.int .i64 (cL (bj 32 b).1)]=some (.tup [.agg (d4 y),.bool false]):=e3 ();rw[hr];have key:∃x:kS,bF (cv B LL C1) O0 N0 .canon Tryz.f325 [SB b]=some (.tup [.agg (d4 x),.bool false]):=by
   rw[show bF (cv B LL C1) O0 N0 .canon Tryz.f325 [SB b]=_ from zT B LL C1 (bs b),g1,bf,GK,En,bE,Eo,bE,Ep,bD,g2,bf,AY,AZ,bp,A6,bD];cases (bj 32 b).2.2 with
   |false=>exact⟨iE e0,rfl⟩
   |true=>
    cases hw:(ub (bj 32 b).1).2 with
    |false=>exact⟨iE e0,rfl⟩
    |true=>
     rw[Bool.not_true,ba,ba];show∃x:kS,bn (B 136 [.str (bs (bj 32 b).2.1),.int .i64 (cL (bj 32 b).1)]) _=_;rw[g3,bf];exact⟨y,rfl⟩
  obtain⟨x,hx⟩:=key;exact⟨x,dG hB Tryz.func325 (ord:=O0) (N:=N0) (by kernel_rfl) hx,fun _ h=>by cases h⟩
 |some e=>
  obtain⟨s1,s2⟩:=nq hp;have hy:=hy e hp;subst hy;rw[hp] at o136;have o43:=Np e.ns.isEmpty e.vs.isEmpty {e with n:=cL (bj 32 b).1} (zb1 s1.ns (by decide)) (fun s hs=>by have:=s1.n1 s hs;omega) (zb1 s1.vs (by decide)) (by show e.t.length≤_;omega);obtain⟨B,hB,e1,e2,e3,e4,_⟩:=eL [one 133 [SB b,SB [32]] (jz b),one 205 [SB (bj 32 b).1] (w9 (bj 32 b).1),one 136 [SB (bj 32 b).2.1,.int .i64 (cL (bj 32 b).1)] (.tup [.agg (d4 (iE {e with n:=cL (bj 32 b).1})),.bool true]),one 43 [.agg (d4 (iE {e with n:=cL (bj 32 b).1}))] (.int .i64 (lg {e with n:=cL (bj 32 b).1}))]
   ⟨bg h133,bg h205,bg o136,bg o43,trivial⟩ rfl
  have g1:B 133 [.str (bs b),.str (ByteArray.mk #[32])]=some (jz b):=e1 ();have g2:B 205 [.str (bs (bj 32 b).1)]=some (w9 (bj 32 b).1):=e2 ();have g3:B 136 [.str (bs (bj 32 b).2.1),.int .i64 (cL (bj 32 b).1)]=some (.tup [.agg (d4 (iE {e with n:=cL (bj 32 b).1})),.bool true]):=e3 ();have g4:B 43 [.agg (d4 (iE {e with n:=cL (bj 32 b).1}))]=some (.int .i64 (lg {e with n:=cL (bj 32 b).1})):=e4 ();have key:qO (bF (cv B LL C1) O0 N0 .canon Tryz.f325 [SB b]) (uA b):=by
   rw[show bF (cv B LL C1) O0 N0 .canon Tryz.f325 [SB b]=_ from zT B LL C1 (bs b),g1,bf,GK,En,bE,Eo,bE,Ep,bD,g2,bf,AY,AZ,bp,A6,bD];unfold uA;rw[hp];cases (bj 32 b).2.2 with
   |false=>
    rw[if_neg (fun h=>by cases h.1),Bool.not_false,be];exact gg
   |true=>
    cases hw:(ub (bj 32 b).1).2 with
    |false=>
     rw[if_neg (fun h=>by rw[show whole (bj 32 b).1=false from hw] at h;cases h.2),Bool.not_true,ba,Bool.not_false,be];exact gg
    |true=>
     rw[if_pos ⟨rfl,hw⟩,Bool.not_true,ba,ba];show qO (bn (B 136 [.str (bs (bj 32 b).2.1),.int .i64 (cL (bj 32 b).1)]) _) (if lg {e with n:=cL (bj 32 b).1}=0 then some {e with n:=cL (bj 32 b).1} else none);rw[g3,bf];show qO (bn (B 43 [.agg (d4 (iE {e with n:=cL (bj 32 b).1}))]) _) _;rw[g4,bf];by_cases hz:lg {e with n:=cL (bj 32 b).1}=0
     ·rw[if_pos hz,hz];exact⟨iE {e with n:=cL (bj 32 b).1},rfl,fun _ h=>by cases h;rfl⟩
     ·rw[if_neg hz,bp,show(lg {e with n:=cL (bj 32 b).1}==0)=false from beq_eq_false_iff_ne.2 hz];exact s7 (iE {e with n:=cL (bj 32 b).1})
  obtain⟨x,hx,h⟩:=key;exact⟨x,dG hB Tryz.func325 (ord:=O0) (N:=N0) (by kernel_rfl) hx,h⟩
def oY(z:Nat)(b d:By):Int×Nat×EvV:=
 if qy d=true then(if eZ (bV z b)=d then(match uA b with|none=>(25,0,e0)|some e=>(0,bV z b,e)) else(27,0,e0)) else(25,0,e0)
def ee(z:Nat)(s:By):Int×Nat×EvV:=
 if nh 35 s s.length<0 then(25,0,e0) else oY z (s.take (nh 35 s s.length).toNat) (s.drop ((nh 35 s s.length).toNat+1))
theorem Ab{z:Nat}{b d:By}(h6:qy d=true)(hx:eZ (bV z b)=d)(hr:uA b=none):oY z b d=(25,0,e0):=by
 unfold oY;rw[if_pos h6,if_pos hx,hr]
theorem Ac{z:Nat}{b d:By}{e:EvV}(h6:qy d=true)(hx:eZ (bV z b)=d)(hr:uA b=some e):oY z b d=(0,bV z b,e):=by
 unfold oY;rw[if_pos h6,if_pos hx,hr]
theorem qQ{c:UInt8}{s:By}(h:¬nh c s s.length<0):∃a:Nat,nh c s s.length=(a:Int)∧a<s.length∧s=s.take a++c::s.drop (a+1):=by
 obtain⟨i,h1,h2,h3⟩:=DE c s s.length (by omega);refine⟨i,h1,h2,?_⟩;obtain⟨h4,h5⟩:=zc1.1 h3;rw[←h5,←List.drop_eq_getElem_cons h4,List.take_append_drop]
theorem uB{z:Nat}{s:By}(h:(ee z s).1=0):s=cx (ee z s).2.2++35::eZ (ee z s).2.1∧(ee z s).2.1=bV z (cx (ee z s).2.2)∧lg (ee z s).2.2=0∧(ee z s).2.2.Sm s.length∧(ee z s).2.2.t.length≤s.length∧0≤(ee z s).2.2.n∧(ee z s).2.2.n<1000000000:=by
 unfold ee at h ⊢;split at h
 ·cases h
 ·rename_i hl;rw[if_neg hl];obtain⟨a,h1,h2,h3⟩:=qQ hl;rw[h1,za3] at h ⊢;unfold oY at h ⊢;split at h
  ·rename_i h6;rw[if_pos h6];split at h
   ·rename_i hx;rw[if_pos hx];cases hr:uA (s.take a) with
    |none=>rw[hr] at h;cases h
    |some e=>
     obtain⟨r1,r2,r3,r4,r5,r6⟩:=D6 hr;have hle:(s.take a).length≤s.length:=by rw[ze2];omega
     dsimp only;refine⟨?_,by rw[←r1],r2,⟨zb1 r3.k hle,r3.ns,fun x hx=>zb1 (r3.n1 x hx) hle,r3.vs,fun ht=>zb1 (r3.t ht) hle⟩,zb1 r4 hle,r5,r6⟩;rw[←r1,hx];exact h3
   ·cases h
  ·cases h
theorem uE{z:Nat}(h:z<16777213)(l:By):bV z l<16^6:=Nat.lt_trans (kD l z h) (by decide)
theorem NN(s:By)(z:Nat)(hz:z<16777213)(hl:s.length≤90000):∃(x:kS) (y:Int),bR 269 [SB s,.int .i64 (z:Int)] (.tup [.agg (d4 x),.int .i64 y,.int .i64 (ee z s).1])∧((ee z s).1=0→x=iE (ee z s).2.2∧y=((ee z s).2.1:Int)):=by
 have h324:=M4 s 35 (by omega);by_cases hn:nh 35 s s.length<0
 ·obtain⟨B,hB,e1,_⟩:=eL [one 324 [SB s,SB [35]] (.int .i64 (nh 35 s s.length))] ⟨bg h324,trivial⟩ rfl;have g1:B 324 [.str (bs s),.str (ByteArray.mk #[35])]=some (.int .i64 (nh 35 s s.length)):=e1 ();have hv:ee z s=(25,0,e0):=by unfold ee;rw[if_pos hn]
  rw[hv];refine⟨iE e0,0,dG hB Tryz.func269 (ord:=O0) (N:=Be) (by kernel_rfl) ((zS B LL C1 (bs s) (z:Int)).trans ?_),fun h=>by cases h⟩;rw[g1,bf,bp,za1 hn,be];rfl
 ·obtain⟨a,h1,h2,h3⟩:=qQ hn;have hv:ee z s=oY z (s.take a) (s.drop (a+1)):=by unfold ee;rw[if_neg hn,h1,za3]
  have hdl:(s.drop (a+1)).length≤s.length:=by rw[ze1];omega
  have htl:(s.take a).length≤s.length:=by rw[ze2];omega
  have hx1:ByteArray.extract (bs s) (Int.toNat (IntKind.wrap .i64 ((a:Int)+1))) (Int.toNat (((bs s).size:Nat):Int))=bs (s.drop (a+1)):=by
   rw[bS (by omega),gZ,bm,za3,List.take_length,show Int.toNat ((a:Int)+1)=a+1 by omega]
  have hx2:ByteArray.extract (bs s) 0 (Int.toNat (a:Int))=bs (s.take a):=by rw[gZ,za3,List.drop_zero]
  have h261:=CR (s.drop (a+1)) hxs (by omega) (by decide) (by decide);have h211:=Hu z (s.take a) hz (by omega);have h212:=Ht (bV z (s.take a)) (uE hz _);obtain⟨x,o325,hx⟩:=NM (s.take a) (by omega);rw[hv];obtain⟨B,hB,e1,e2,e3,e4,e5,e6,_⟩:=eL [one 324 [SB s,SB [35]] (.int .i64 (nh 35 s s.length)),one 261 [SB (s.drop (a+1)),SB hxs] (SB (Lib.trimS (s.drop (a+1)) hxs)),one 211 [.int .i64 (z:Int),SB (s.take a)] (.int .i64 (bV z (s.take a):Int)),one 212 [.int .i64 (bV z (s.take a):Int)] (SB (eZ (bV z (s.take a)))),one 325 [SB (s.take a)] (.tup [.agg (d4 x),.bool (uA (s.take a)).isSome]),fa119]
   ⟨bg h324,bg h261,bg h211,bg h212,bg o325,jg,trivial⟩ rfl
  have g1:B 324 [.str (bs s),.str (ByteArray.mk #[35])]=some (.int .i64 (nh 35 s s.length)):=e1 ();have g2:B 261 [.str (bs (s.drop (a+1))),.str (ByteArray.mk #[48,49,50,51,52,53,54,55,56,57,97,98,99,100,101,102])]=some (SB (Lib.trimS (s.drop (a+1)) hxs)):=e2 ();have g3:B 211 [.int .i64 (z:Int),.str (bs (s.take a))]=some (.int .i64 (bV z (s.take a):Int)):=e3 ();have g4:B 212 [.int .i64 (bV z (s.take a):Int)]=some (SB (eZ (bV z (s.take a)))):=e4 ();have g5:B 325 [.str (bs (s.take a))]=some (.tup [.agg (d4 x),.bool (uA (s.take a)).isSome]):=e5 ();have g6:∀(b:Bool) (x:Int),B 119 [.bool b,.int .i64 x]=some (.int .i64 (bo b x 0)):=fun b x=>e6 (b,x);have hall:(Lib.trimS (s.drop (a+1)) hxs==[])=(s.drop (a+1)).all n8:=by
   rw[sS]
   congr 1
   funext c
   exact uh c
  have key:∃(x':kS) (y:Int),bF (cv B LL C1) O0 Be .canon Tryz.f269 [SB s,.int .i64 (z:Int)]=some (.tup [.agg (d4 x'),.int .i64 y,.int .i64 (oY z (s.take a) (s.drop (a+1))).1])∧((oY z (s.take a) (s.drop (a+1))).1=0→x'=iE (oY z (s.take a) (s.drop (a+1))).2.2∧y=((oY z (s.take a) (s.drop (a+1))).2.1:Int)):=by
   rw[show bF (cv B LL C1) O0 Be .canon Tryz.f269 [SB s,.int .i64 (z:Int)]=_ from zS B LL C1 (bs s) (z:Int),g1,bf,bp,h1,za2 (by omega),ba,hx1,hx2,
    za1 (show 0≤(0:Int)∧(0:Int)≤(a:Int)∧(a:Int)≤(((bs s).size:Nat):Int) by rw[bm];omega),bh,
    za1 (show 0≤IntKind.wrap .i64 ((a:Int)+1)∧IntKind.wrap .i64 ((a:Int)+1)≤(((bs s).size:Nat):Int)∧(((bs s).size:Nat):Int)≤(((bs s).size:Nat):Int) by rw[bm,bS (by omega)];omega),bh,bm,g2,bf,bE,j5,hall]
   have no (c:Int) (hc:c≠0) (he:oY z (s.take a) (s.drop (a+1))=(c,0,e0)):∃(x':kS) (y:Int),some (D.tup [.agg [.int .i64 0,.str (ByteArray.mk #[]),.slc true 0 [],.slc true 0 [],.str (ByteArray.mk #[])],.int .i64 0,.int .i64 c])=some (.tup [.agg (d4 x'),.int .i64 y,.int .i64 (oY z (s.take a) (s.drop (a+1))).1])∧((oY z (s.take a) (s.drop (a+1))).1=0→x'=iE (oY z (s.take a) (s.drop (a+1))).2.2∧y=((oY z (s.take a) (s.drop (a+1))).2.1:Int)):=by
    rw[he];exact⟨iE e0,0,rfl,fun h=>absurd h hc⟩
   by_cases h6:qy (s.drop (a+1))=true
   ·have h6':=h6;unfold qy at h6';rw[zc4,zc7] at h6';rw[show(((s.drop (a+1)).length:Int) !=6)=false by(rw[bne_eq_false_iff_eq];omega),ba,h6'.1,Bool.not_true,ba,yC (hC:=c1),g3,bf,bp,g4,bf,bE,ql];by_cases hx3:eZ (bV z (s.take a))=s.drop (a+1)
    ·rw[hx3,show((s.drop (a+1))==(s.drop (a+1)))=true by simp,Bool.not_true,ba,g5,bf];show∃(x':kS) (y:Int),bn (B 119 [.bool !(uA (s.take a)).isSome,.int .i64 25]) _=_∧_;rw[g6,bf];cases hr:uA (s.take a) with
     |none=>
      rw[Ab h6 hx3 hr];exact⟨x,_,rfl,fun h=>by cases h⟩
     |some e=>
      rw[Ac h6 hx3 hr,hx e hr];exact⟨iE e,_,rfl,fun _=>⟨rfl,rfl⟩⟩
    ·rw[show(eZ (bV z (s.take a))==(s.drop (a+1)))=false by simpa using hx3,Bool.not_false,be];exact no 27 (by decide) (by unfold oY;rw[if_pos h6,if_neg hx3])
   ·have hn6:=no 25 (by decide) (by unfold oY;rw[if_neg h6]);unfold qy at h6;by_cases h7:(s.drop (a+1)).length=6
    ·rw[show(((s.drop (a+1)).length:Int) !=6)=false by(rw[bne_eq_false_iff_eq];omega),ba];have:(s.drop (a+1)).all n8=false:=by
      rw[za1 h7,Bool.and_true] at h6;simpa using h6
     rw[this,Bool.not_false,be];exact hn6
    ·rw[show(((s.drop (a+1)).length:Int) !=6)=true by(rw[ze5];omega),be];exact hn6
  obtain⟨x',y,k1,k2⟩:=key;exact⟨x',y,dG hB Tryz.func269 (ord:=O0) (N:=Be) (by kernel_rfl) k1,k2⟩
def HD(q:Int×Nat×EvV):D:= .tup [.agg (d4 (iE q.2.2)),.int .i64 (q.2.1:Int),.int .i64 q.1]
theorem NO{B:FuncId→List D→Option D}(y:Int)(e:EvV)(b:Bool):de B LL C1 y b e.n (bs e.k) e.ns.isEmpty e.ns.length (e.ns.map SB) e.vs.isEmpty e.vs.length (b9 e.vs) (bs e.t)=some (if b=true then HD (25,0,e0) else .tup [.agg (d4 (iE e)),.int .i64 y,.int .i64 0]):=by
 rw[mB (hC:=c1),uu (hC:=c1)];cases b<;>rfl
theorem NP(s:By)(z:Nat)(hz:z<16777213)(hl:s.length≤90000):bR 129 [.int .i64 (z:Int),SB s] (HD (ee z s)):=by
 have h186:=M3 s 35 (by omega);by_cases hn:nh 35 s s.length<0
 ·obtain⟨B,hB,e1,_⟩:=eL [one 186 [SB s,.int .u8 ((35:UInt8).toNat:Int)] (.int .i64 (nh 35 s s.length))] ⟨bg h186,trivial⟩ rfl;have g1:B 186 [.str (bs s),.int .u8 35]=some (.int .i64 (nh 35 s s.length)):=e1 ();have hv:ee z s=(25,0,e0):=by unfold ee;rw[if_pos hn]
  rw[hv];refine dG hB Tryz.func129 (ord:=O0) (N:=Bf) (by kernel_rfl) ((zU B LL C1 (z:Int) (bs s)).trans ?_);rw[g1,bf,bp,za1 hn,be];rfl
 ·obtain⟨a,h1,h2,h3⟩:=qQ hn;have hv:ee z s=oY z (s.take a) (s.drop (a+1)):=by unfold ee;rw[if_neg hn,h1,za3]
  have hdl:(s.drop (a+1)).length≤s.length:=by rw[ze1];omega
  have htl:(s.take a).length≤s.length:=by rw[ze2];omega
  have hx1:ByteArray.extract (bs s) (Int.toNat (IntKind.wrap .i64 ((a:Int)+1))) (Int.toNat (((bs s).size:Nat):Int))=bs (s.drop (a+1)):=by
   rw[bS (by omega),gZ,bm,za3,List.take_length,show Int.toNat ((a:Int)+1)=a+1 by omega]
  have hx2:ByteArray.extract (bs s) 0 (Int.toNat (a:Int))=bs (s.take a):=by rw[gZ,za3,List.drop_zero]
  obtain⟨l1,l2,_⟩:=dM 32 (s.take a);have h187:=M6 (s.drop (a+1)) (by omega);have h62:=MY z (s.take a) hz (by omega);have h79:=MX (bV z (s.take a)) (uE hz _);have h188:=Hv (s.take a) (by omega);have h189:=Hx (bj 32 (s.take a)).1 (by omega);obtain⟨x,o132,hx⟩:=NH (bj 32 (s.take a)).2.1 (by omega);rw[hv];have fin:∀(B:FuncId→List D→Option D),gY B→B 186 [.str (bs s),.int .u8 35]=some (.int .i64 (nh 35 s s.length))→B 187 [.str (bs (s.drop (a+1)))]=some (.bool (qy (s.drop (a+1))))→
    B 62 [.int .i64 (z:Int),.str (bs (s.take a))]=some (.int .i64 (bV z (s.take a):Int))→B 79 [.int .i64 (bV z (s.take a):Int)]=some (SB (eZ (bV z (s.take a))))→B 188 [.str (bs (s.take a))]=some (jz (s.take a))→
    B 189 [.str (bs (bj 32 (s.take a)).1)]=some (w9 (bj 32 (s.take a)).1)→B 132 [.str (bs (bj 32 (s.take a)).2.1)]=some (.tup [.agg (d4 x),.bool (qW (bj 32 (s.take a)).2.1).isSome])→
    (∀e,qW (bj 32 (s.take a)).2.1=some e→B 44 [.agg (d4 (iE {e with n:=cL (bj 32 (s.take a)).1}))]=some (.int .i64 (lg {e with n:=cL (bj 32 (s.take a)).1})))→bR 129 [.int .i64 (z:Int),SB s] (HD (oY z (s.take a) (s.drop (a+1)))):=by
   intro B hB g1 g2 g3 g4 g5 g6 g7 g8;refine dG hB Tryz.func129 (ord:=O0) (N:=Bf) (by kernel_rfl) ((zU B LL C1 (z:Int) (bs s)).trans ?_);rw[g1,bf,bp,h1,za2 (by omega),ba,hx1,
    za1 (show 0≤IntKind.wrap .i64 ((a:Int)+1)∧IntKind.wrap .i64 ((a:Int)+1)≤(((bs s).size:Nat):Int)∧(((bs s).size:Nat):Int)≤(((bs s).size:Nat):Int) by rw[bm,bS (by omega)];omega),bh,g2,bf,bD]
   cases h6:qy (s.drop (a+1)) with
   |false=>
    rw[Bool.not_false,be,show oY z (s.take a) (s.drop (a+1))=(25,0,e0) by unfold oY;rw[h6];rfl];rfl
   |true=>
    rw[Bool.not_true,ba,yD (hC:=c1),hx1,hx2,za1 (show 0≤(0:Int)∧(0:Int)≤(a:Int)∧(a:Int)≤(((bs s).size:Nat):Int) by rw[bm];omega),bh,g3,bf,bp,g4,bf,bE,
     za1 (show 0≤IntKind.wrap .i64 ((a:Int)+1)∧IntKind.wrap .i64 ((a:Int)+1)≤(((bs s).size:Nat):Int)∧(((bs s).size:Nat):Int)≤(((bs s).size:Nat):Int) by rw[bm,bS (by omega)];omega),bh,ql]
    by_cases hx3:eZ (bV z (s.take a))=s.drop (a+1)
    ·rw[show(eZ (bV z (s.take a))==s.drop (a+1))=true by simpa using hx3,Bool.not_true,ba,g5,bf,GK,En,bE,Eo,bE,Ep,bD,g7,bf];show bn (B 189 [.str (bs (bj 32 (s.take a)).1)]) (fun r=>cJ r 2 fun c=>bc c 0 fun d=>bw .i64 d fun x_3=>bc c 1 fun d=>bM d fun b_3=>bo (!(bj 32 (s.take a)).2.2) (de B LL C1 (bV z (s.take a):Int) true x_3 (bs x.2.k) x.1.1 x.2.ns.length (x.2.ns.map SB) x.1.2 x.2.vs.length (b9 x.2.vs) (bs x.2.t)) (bo (!(qW (bj 32 (s.take a)).2.1).isSome) (de B LL C1 (bV z (s.take a):Int) true x_3 (bs x.2.k) x.1.1 x.2.ns.length (x.2.ns.map SB) x.1.2 x.2.vs.length (b9 x.2.vs) (bs x.2.t)) (bo (!b_3) (de B LL C1 (bV z (s.take a):Int) true x_3 (bs x.2.k) x.1.1 x.2.ns.length (x.2.ns.map SB) x.1.2 x.2.vs.length (b9 x.2.vs) (bs x.2.t))
      (bn (B 44 [.agg [.int .i64 x_3,.str (bs x.2.k),.slc x.1.1 x.2.ns.length (x.2.ns.map SB),.slc x.1.2 x.2.vs.length (b9 x.2.vs),.str (bs x.2.t)]]) fun r_7=>bw .i64 r_7 fun x_4=>de B LL C1 (bV z (s.take a):Int) (x_4 !=0) x_3 (bs x.2.k) x.1.1 x.2.ns.length (x.2.ns.map SB) x.1.2 x.2.vs.length (b9 x.2.vs) (bs x.2.t)))))=_
     rw[g6,bf,AY,AZ,bp,A6,bD];have bad:∀y n,de B LL C1 y true n (bs x.2.k) x.1.1 x.2.ns.length (x.2.ns.map SB) x.1.2 x.2.vs.length (b9 x.2.vs) (bs x.2.t)=some (HD (25,0,e0)):=fun y n=>by
      rw[mB (hC:=c1),be];rfl
     cases hr:uA (s.take a) with
     |none=>
      rw[Ab h6 hx3 hr];unfold uA at hr;cases hm:(bj 32 (s.take a)).2.2 with
      |false=>rw[Bool.not_false,be];exact bad _ _
      |true=>
       rw[Bool.not_true,ba];cases hp:qW (bj 32 (s.take a)).2.1 with
       |none=>
        show bo (!false) _ _=_;rw[Bool.not_false,be];exact bad _ _
       |some e1=>
        have hx:=hx e1 hp;subst hx;show bo (!true) _ _=_;rw[Bool.not_true,ba];cases hw:(ub (bj 32 (s.take a)).1).2 with
        |false=>rw[Bool.not_false,be];exact bad _ _
        |true=>
         rw[hm,hp,if_pos ⟨rfl,hw⟩] at hr;have hz2:¬lg {e1 with n:=cL (bj 32 (s.take a)).1}=0:=fun h0=>by
          have hr:(if lg {e1 with n:=cL (bj 32 (s.take a)).1}=0 then some {e1 with n:=cL (bj 32 (s.take a)).1} else none)=none:=hr;rw[if_pos h0] at hr;cases hr
         rw[Bool.not_true,ba];refine ct (g8 e1 hp) ?_;rw[bp,show(lg {e1 with n:=cL (bj 32 (s.take a)).1} !=0)=true from ze5.2 hz2];exact bad _ _
     |some e2=>
      rw[Ac h6 hx3 hr];unfold uA at hr;split at hr
      ·rename_i hc;obtain⟨e1,hp,h5⟩:=Option.bind_eq_some_iff.1 hr;split at h5
       ·rename_i h0;cases h5;have hx:=hx e1 hp;subst hx;have hw:(ub (bj 32 (s.take a)).1).2=true:=hc.2;rw[hc.1,hp,hw,Bool.not_true,ba];show bo (!true) _ (bo (!true) _ _)=_;rw[Bool.not_true,ba,ba];refine ct (g8 e1 hp) ?_;rw[bp,h0];exact NO (bV z (s.take a):Int) {e1 with n:=cL (bj 32 (s.take a)).1} false
       ·cases h5
      ·cases hr
    ·rw[show(eZ (bV z (s.take a))==s.drop (a+1))=false by simpa using hx3,Bool.not_false,be,show oY z (s.take a) (s.drop (a+1))=(27,0,e0) by unfold oY;rw[if_pos h6,if_neg hx3]];rfl
  cases hp:qW (bj 32 (s.take a)).2.1 with
  |none=>
   obtain⟨B,hB,e1,e2,e3,e4,e5,e6,e7,_⟩:=eL [one 186 [SB s,.int .u8 ((35:UInt8).toNat:Int)] (.int .i64 (nh 35 s s.length)),one 187 [SB (s.drop (a+1))] (.bool (qy (s.drop (a+1)))),one 62 [.int .i64 (z:Int),SB (s.take a)] (.int .i64 (bV z (s.take a):Int)),one 79 [.int .i64 (bV z (s.take a):Int)] (SB (eZ (bV z (s.take a)))),one 188 [SB (s.take a)] (jz (s.take a)),one 189 [SB (bj 32 (s.take a)).1] (w9 (bj 32 (s.take a)).1),one 132 [SB (bj 32 (s.take a)).2.1] (.tup [.agg (d4 x),.bool (qW (bj 32 (s.take a)).2.1).isSome])]
    ⟨bg h186,bg h187,bg h62,bg h79,bg h188,bg h189,bg o132,trivial⟩ rfl
   exact fin B hB (e1 ()) (e2 ()) (e3 ()) (e4 ()) (e5 ()) (e6 ()) (e7 ()) fun e h=>by rw[hp] at h;cases h
  |some e=>
   obtain⟨s1,s2⟩:=nq hp;have o44:=Nt e.ns.isEmpty e.vs.isEmpty {e with n:=cL (bj 32 (s.take a)).1} (zb1 s1.ns (by decide)) (zb1 s1.vs (by decide)) (by show e.t.length≤_;omega);obtain⟨B,hB,e1,e2,e3,e4,e5,e6,e7,e8,_⟩:=eL [one 186 [SB s,.int .u8 ((35:UInt8).toNat:Int)] (.int .i64 (nh 35 s s.length)),one 187 [SB (s.drop (a+1))] (.bool (qy (s.drop (a+1)))),one 62 [.int .i64 (z:Int),SB (s.take a)] (.int .i64 (bV z (s.take a):Int)),one 79 [.int .i64 (bV z (s.take a):Int)] (SB (eZ (bV z (s.take a)))),one 188 [SB (s.take a)] (jz (s.take a)),one 189 [SB (bj 32 (s.take a)).1] (w9 (bj 32 (s.take a)).1),one 132 [SB (bj 32 (s.take a)).2.1] (.tup [.agg (d4 x),.bool (qW (bj 32 (s.take a)).2.1).isSome]),
     one 44 [.agg (d4 (iE {e with n:=cL (bj 32 (s.take a)).1}))] (.int .i64 (lg {e with n:=cL (bj 32 (s.take a)).1}))]
    ⟨bg h186,bg h187,bg h62,bg h79,bg h188,bg h189,bg o132,bg o44,trivial⟩ rfl
   exact fin B hB (e1 ()) (e2 ()) (e3 ()) (e4 ()) (e5 ()) (e6 ()) (e7 ()) fun e' h=>by
    rw[hp] at h;cases h;exact e8 ()
structure EvV.Ok(e:EvV):Prop where
 n:1≤e.n∧e.n≤1000
 is:(bP e.k).is=true
 ns:e.ns.length=(bP e.k).n
 vs:e.vs.length=(bP e.k).v
 n1:∀s∈e.ns,s.length≤24
 v1:∀v∈e.vs,0≤v∧v≤999999999
 t:e.t.length≤4096
theorem yR{b:Bool}{x K:Int}(hx:x≠0)(h:bo b x K=0):b=false∧K=0:=by
 cases b with
 |true=>exact absurd h hx
 |false=>exact⟨rfl,h⟩
theorem D7{s:By}(h:jA s=false):s.length≤24:=by
 unfold jA iz at h;rw[Bool.not_eq_false'] at h;by_cases h1:s.length≤24
 ·exact h1
 ·rw[bm,za1 (show(s.length:Int)>24 by omega)] at h;cases h2:decide ((s.length:Int)<1) with
  |true=>rw[h2] at h;cases h
  |false=>rw[h2] at h;cases h
theorem D8{e:EvV}(h:lg e=0):e.Ok:=by
 rw[DR] at h;obtain⟨a1,h⟩:=yR (by decide) h;obtain⟨a2,h⟩:=yR (by decide) h;obtain⟨a3,h⟩:=yR (by decide) h;obtain⟨a4,h⟩:=yR (by decide) h;obtain⟨a5,h⟩:=yR (by decide) h;obtain⟨a6,h⟩:=yR (by decide) h;obtain⟨a7,_⟩:=yR (by decide) h;unfold rt at a1;unfold mI at a3;unfold wU at a7;rw[zc9] at a3;have b1:=bne_eq_false_iff_eq.1 a3.1;have b2:=bne_eq_false_iff_eq.1 a3.2;rw[bm] at a7;have a7:=of_decide_eq_false a7;refine⟨?_,by simpa using a2,by omega,by omega,fun s hs=>D7 (by simpa using zd8.1 a4 s hs),fun v hv=> ?_,by omega⟩
 ·simp at a1;omega
 ·have:=zd8.1 a5 v hv;unfold jm rt at this;simp at this;omega
theorem mL:∀(k n:Nat),n<10^(k+1)→(Lib.decDigits n).length≤k+1
 |0,n,h=>by
  rw[Lib.decDigits,dif_pos (by omega)];exact zb0 _
 |k+1,n,h=>by
  rw[Lib.decDigits];split
  ·simp
  ·have h:n<10^(k+1)*10:=by rw[←Nat.pow_succ];exact h
   have:=mL k (n/10) (by omega);rw[za6,zb4];omega
theorem w6{k:By}(h:(bP k).is=true):k.length≤6:=by
 unfold bP at h
 repeat' split at h
 all_goals first
  |(rename_i e;subst e;decide)
  |cases h
theorem Ad{α:Type}{g:α→By}{b:Nat}:∀(l:List α),(∀x∈l,(g x).length≤b)→(l.flatMap g).length≤l.length*b
 |[],_=>by simp
 |x::l,h=>by
  have h1:=h x (za4 ..);have h2:=Ad l fun y hy=>h y (za5 _ hy);rw[List.flatMap_cons,za6,za7,Nat.succ_mul];omega
def NQ(e:EvV):Nat:=(e.ns.flatMap (fun w=>32::w)).length
def PH(e:EvV):Nat:=(e.vs.flatMap (fun v=>32::Lib.decDigits v.toNat)).length
def Ot(e:EvV):Nat:=(if(bP e.k).t then 32::e.t else[]).length
theorem Bn(e:EvV):(cx e).length=(Lib.decDigits e.n.toNat).length+(e.k.length+(NQ e+(PH e+Ot e))+1):=by
 unfold cx mK NQ PH Ot;rw[za6,za7,za6,za6,za6]
theorem mM{e:EvV}(h:e.Ok):(cx e).length≤5000:=by
 have hf:=gO e.k;have h1:=w6 h.is;have h2:NQ e≤e.ns.length*25:=Ad (g:=fun w:By=>32::w) (b:=25) e.ns fun s hs=>by have:=h.n1 s hs;simp;omega
 have h3:PH e≤e.vs.length*10:=Ad (g:=fun v:Int=>32::Lib.decDigits v.toNat) (b:=10) e.vs fun v hv=>by
  have:=h.v1 v hv;have:=mL 8 v.toNat (by omega);simp;omega
 have h4:=mL 3 e.n.toNat (by have:=h.n;omega);have h5:=h.ns;have h6:=h.vs;have h7:=h.t;have h8:Ot e≤4097:=by
  unfold Ot;split
  ·simp;omega
  ·simp
 have h9:e.ns.length*25≤50:=by omega
 have h10:e.vs.length*10≤10:=by omega
 rw[Bn];omega
theorem Bo(w:By)(ws:List By):Lib.join (w::ws) [32]=w++ws.flatMap fun w=>32::w:=by
 rw[Lib.join_cons];unfold Lib.joinTail;rw[List.flatMap_def];rfl
def fa137:Fam:=⟨137,Bool×{ws:List By//ws.length≤1000∧(Lib.join ws [32]).length≤1000000},fun x=>[.slc x.1 x.2.1.length (x.2.1.map SB)],fun x=>SB (Lib.join x.2.1 [32])⟩
theorem NR(f:Bool)(ws:List By)(h1:ws.length≤1000)(h2:(Lib.join ws [32]).length≤1000000):bR 137 [.slc f ws.length (ws.map SB)] (SB (Lib.join ws [32])):=by
 obtain⟨B,hB,e1,_⟩:=eL [one 206 [.slc f ws.length (ws.map SB),SB [32]] (SB (Lib.join ws [32]))] ⟨bg (G8 ws [32] (by omega) (by omega)),trivial⟩ rfl;exact dG hB Tryz.func137 (ord:=O0) (N:=N0) (by kernel_rfl) ((Gy _ _ _ _ _ _).trans (ct (e1 ()) rfl))
theorem yS:fa137.Good:=⟨fun x=>NR x.1 x.2.1 x.2.2.1 x.2.2.2,fun i j e=>by
 have e:[D.slc i.1 i.2.1.length (i.2.1.map SB)]=[D.slc j.1 j.2.1.length (j.2.1.map SB)]:=e;simp only[zc5,and_true,D.slc.injEq] at e;show SB (Lib.join i.2.1 [32])=SB (Lib.join j.2.1 [32]);rw[oX e.2.2]⟩
def Er(f:Bool)(n:Nat)(l:List D):Ow:=if f then .slc true n l else .own n l
noncomputable def D9(B:FuncId→List D→Option D)(t:Bool)(f:Bool)(n:Nat)(l:List D)(x:ByteArray):Option D:=
 bif t then(bn (B 137 [.slc false (n+1) (l++[.str x])]) fun r=>bH r fun s=>some (.str s)) else(bn (B 137 [.slc f n l]) fun r=>bH r fun s=>some (.str s))
section
variable {B:FuncId→List D→Option D}(m:Nat)(vc:List D)(a:Int)(k:By)(x:ByteArray)(g f1:Bool)(n1:Nat)(l1:List D)
theorem Ea(fuel:Nat)(u i:Int)(f:Bool)(n:Nat)(l:List D)(hl:l.length=n)(hn:n≤1000)(hi:¬i<u):
  fw B LL C1 (fuel+1) g m vc a (bs k) f1 n1 l1 x (Er f n l) u i=D9 B (bP k).t f n l x:=by
 have key:=fun(b:Bool)=>lJ k fun _ _ _ t=>D9 B t b n l x;cases f with
 |false=>
  rw[show Er false n l=Ow.own n l from rfl,nR,za2 hi,ba];simp only[uy (show n≤1000000 by omega),bh,lI];exact key false
 |true=>
  rw[show Er true n l=Ow.slc true n l from rfl,nS,za2 hi,ba];simp only[za1 (show 0<1∧List.length l=n*1∧(n+1)*16≤cg∧n+1≤4611686018427387903 from⟨by omega,by omega,by rw[show cg=140737488355328 from rfl];omega,by omega⟩),bh,lI];exact key true
theorem Bp(fuel:Nat)(u i:Int)(f:Bool)(n:Nat)(l:List D)(hl:l.length=n)(hn:n≤1000)(hi:i<u):
  fw B LL C1 (fuel+1) g m vc a (bs k) f1 n1 l1 x (Er f n l) u i=bu (decide (0≤i∧i<(m:Int))) (bc vc (Int.toNat i*1) fun d=>bw .i64 d fun y=>bn (B 138 [.int .i64 y]) fun r=>bH r fun s=>fw B LL C1 fuel g m vc a (bs k) f1 n1 l1 x (Er false (n+1) (l++[.str s])) u (IntKind.wrap .i64 (i+1))):=by
 cases f with
 |false=>
  rw[show Er false n l=Ow.own n l from rfl,nR,za1 hi,be];simp only[uy (show n≤1000000 by omega),bh];rfl
 |true=>
  rw[show Er true n l=Ow.slc true n l from rfl,nS,za1 hi,be];simp only[za1 (show 0<1∧List.length l=n*1∧(n+1)*16≤cg∧n+1≤4611686018427387903 from⟨by omega,by omega,by rw[show cg=140737488355328 from rfl];omega,by omega⟩),bh];rfl
end
theorem NS{B:FuncId→List D→Option D}(h138:∀n:Nat,n<1000000000→B 138 [.int .i64 (n:Int)]=some (SB (Lib.decDigits n)))(h137:∀(f:Bool) (ws:List By),ws.length≤1000→(Lib.join ws [32]).length≤1000000→B 137 [.slc f ws.length (ws.map SB)]=some (SB (Lib.join ws [32])))
  (a:Int) (k t:By) (g f1:Bool) (n1:Nat) (l1:List D):∀(r pre:List Int) (fuel:Nat) (f:Bool) (ws:List By),(pre++r).length≤100→(∀v∈r,0≤v∧v≤999999999)→ws.length≤10+pre.length→ws≠[]→r.length<fuel→
   (Lib.join (ws++r.map (fun v=>Lib.decDigits v.toNat)++(if(bP k).t then[t] else[])) [32]).length≤1000000→
   fw B LL C1 fuel g (pre++r).length (b9 (pre++r)) a (bs k) f1 n1 l1 (bs t) (Er f ws.length (ws.map SB)) ((pre++r).length:Int) (pre.length:Int)=some (SB (Lib.join (ws++r.map (fun v=>Lib.decDigits v.toNat)++(if(bP k).t then[t] else[])) [32])):=by
 intro r
 induction r with
 |nil=>
  intro pre fuel f ws hl hv hw hne hf hj;obtain⟨fuel,rfl⟩:=bx hf;rw[show ws++([]:List Int).map (fun v=>Lib.decDigits v.toNat)=ws by simp] at hj ⊢;rw[Ea _ _ _ _ _ _ _ _ _ _ _ _ _ _ _ (by simp) (by simp at hl;omega) (by simp)];unfold D9;cases ht:(bP k).t with
  |false=>
   rw[ht] at hj;simp only[Bool.false_eq_true,if_false,zb6] at hj ⊢;show bn (B 137 [.slc f ws.length (ws.map SB)]) _=_;rw[h137 f ws (by simp at hl;omega) hj];rfl
  |true=>
   rw[ht] at hj;simp only[if_true] at hj ⊢;have:=h137 false (ws++[t]) (by simp at hl ⊢;omega) hj;rw[List.map_append,za6] at this;show bn (B 137 [.slc false (ws.length+1) (ws.map SB++[SB t])]) _=_;rw[show B 137 [.slc false (ws.length+1) (ws.map SB++[SB t])]=_ from this];rfl
 |cons v r ih=>
  intro pre fuel f ws hl hv hw hne hf hj;obtain⟨fuel,rfl⟩:=bx hf;obtain⟨v0,v1⟩:=hv v (za4 ..);obtain⟨n,rfl⟩:∃n:Nat,v=(n:Int):=⟨v.toNat,by omega⟩;have hm:ws++((n:Int)::r).map (fun v=>Lib.decDigits v.toNat)=(ws++[Lib.decDigits n])++r.map (fun v=>Lib.decDigits v.toNat):=by simp
  have ih:=ih (pre++[(n:Int)]) fuel false (ws++[Lib.decDigits n]) (by rw[dw];exact hl) (fun v hv2=>hv v (za5 _ hv2)) (by simp;omega) (by simp) (by simp at hf;omega) (by rw[←hm];exact hj);rw[dw,←hm,List.map_append,show(ws++[Lib.decDigits n]).length=ws.length+1 by simp] at ih;rw[Bp _ _ _ _ _ _ _ _ _ _ _ _ _ _ _ (by simp) (by simp at hl;omega) (by simp;omega),eh,bh,J4,bp,h138 n (by omega),bf,cX pre (n:Int) r (by omega)];exact ih
theorem ta(e:EvV):Lib.join (Lib.decDigits e.n.toNat::e.k::e.ns++e.vs.map (fun v=>Lib.decDigits v.toNat)++(if(bP e.k).t then[e.t] else[])) [32]=cx e:=by
 rw[show Lib.decDigits e.n.toNat::e.k::e.ns++e.vs.map (fun v=>Lib.decDigits v.toNat)++(if(bP e.k).t then[e.t] else[])=Lib.decDigits e.n.toNat::(e.k::(e.ns++(e.vs.map (fun v=>Lib.decDigits v.toNat)++(if(bP e.k).t then[e.t] else[])))) by simp,Bo,List.flatMap_cons,zd5,zd5,List.flatMap_map];unfold cx mK;cases (bP e.k).t<;>simp
theorem NT(f g:Bool)(e:EvV)(h:e.Ok):bR 210 [.agg (gw f g e)] (SB (cx e)):=by
 obtain⟨B,hB,a1,a2,e1,e2,_⟩:=eL [one 113 [] lH,fa214,DT 138,fa137] ⟨bg GI,jo,qN Kh,yS,trivial⟩ rfl;have he:EnvOK (jy B LL C1).E:=⟨pA hB,(fun _ _ h=>nomatch h),(fun _ _ _ h=>nomatch h),(fun _ _ hi=>nomatch hi)⟩;have hf:=gO e.k;have h1:=h.ns;have h2:=h.vs;have h3:=h.n;have hb:=mM h;have g1:B 138 [.int .i64 e.n]=some (SB (Lib.decDigits e.n.toNat)):=by
  have:=e1 ⟨e.n.toNat,by omega⟩;rw[show e.n=((e.n.toNat:Nat):Int) by omega];exact this
 refine eY (Te:=jy B LL C1) fk he (oU (a1 ()) a2) rfl (fun _ _ _ h=>by cases h) Tryz.func210 (by simp) (ord:=O0) (N:=JV) (by kernel_rfl) ((Gw B LL C1 e.n (bs e.k) f _ _ g _ _ (bs e.t)).trans ?_);rw[g1,bf,bE,zc2,Nat.mul_one,za1 rfl,bh];have ho:List.all (e.ns.map SB) D.one=true:=by
  rw[zd7];intro x hx;obtain⟨y,_,rfl⟩:=zd6.1 hx;rfl
 rw[ho,bh];have go:=fun fl=>NS (B:=B) (fun n hn=>e1 ⟨n,hn⟩) (fun f ws h1 h2=>e2 (f,⟨ws,h1,h2⟩)) e.n e.k e.t g f e.ns.length (e.ns.map SB) e.vs [] LL fl (Lib.decDigits e.n.toNat::e.k::e.ns) (by simp;omega) h.v1 (by simp;omega) (by simp) (by unfold LL;omega) (by rw[ta];omega);rw[ta] at go;by_cases h0:e.ns.length=0
 ·have hz:e.ns=[]:=List.eq_nil_of_length_eq_zero h0;rw[za1 h0,be];have:=go true;rw[hz] at this ⊢;exact this
 ·rw[za2 h0,ba,za1 (show 0<e.ns.length∧2=2∧(2+e.ns.length)*16≤cg∧2+e.ns.length≤4611686018427387903 from⟨by omega,rfl,by rw[show cg=140737488355328 from rfl];omega,by omega⟩),bh];have:=go false;rw[show Er false (Lib.decDigits e.n.toNat::e.k::e.ns).length ((Lib.decDigits e.n.toNat::e.k::e.ns).map SB)=Ow.own (2+e.ns.length) ([SB (Lib.decDigits e.n.toNat),SB e.k]++e.ns.map SB) by unfold Er;simp;omega] at this;exact this
theorem Bq{a b:Nat}(h:a+b≤100000000):(!decide ((a:Int)+(b:Int)>9223372036854775807))=true:=by
 rw[za2 (by omega)];rfl
theorem gP{γ:Type}{a b:Nat}(h:a+b≤100000000)(t:Option γ):bu (!decide ((a:Int)+(b:Int)>9223372036854775807)) t=t:=by rw[Bq h,bh]
section
variable {B:FuncId→List D→Option D}(a:Int)(k t:By)(f g:Bool)
theorem NU(h60:∀n:Nat,n<1000000000→B 60 [.int .i64 (n:Int)]=some (SB (Lib.decDigits n)))(h121:B 121 [SB k]=some (ka (bP k)))(n:Nat)(c:List D)(ht:t.length≤1000000):∀(r pre:List Int) (out:By) (fuel:Nat),(pre++r).length≤100→(∀v∈r,0≤v∧v≤999999999)→out.length+r.length*100≤1000000→r.length<fuel→
  mA B LL C1 fuel a (bs k) f n c g (pre++r).length (b9 (pre++r)) (bs t) (bs out) (pre.length:Int)=some (SB (out++(r.flatMap (fun v=>32::Lib.decDigits v.toNat)++(if(bP k).t then 32::t else[])))):=by
 intro r
 induction r with
 |nil=>
  intro pre out fuel hl hv ho hf;obtain⟨fuel,rfl⟩:=bx hf;rw[qF,dI,ba,show B 121 [.str (bs k)]=some (ka (bP k)) from h121,bf];show bo (bP k).t _ _=_;cases (bP k).t with
  |false=>simp[bo]
  |true=>
   rw[be,show bs out++ByteArray.mk #[32]=bs (out++[32]) from dY out [32],bm,bm,bm,dY];refine(gP (a:=out.length) (b:=1) (by simp at ho;omega) _).trans ?_;refine(gP (a:=(out++[32]).length) (b:=t.length) (by simp at ho ⊢;omega) _).trans ?_;simp
 |cons v r ih=>
  intro pre out fuel hl hv ho hf;obtain⟨fuel,rfl⟩:=bx hf;obtain⟨v0,v1⟩:=hv v (za4 ..);obtain⟨m,rfl⟩:∃m:Nat,v=(m:Int):=⟨v.toNat,by omega⟩;have hd:=mL 8 m (by omega);simp only[za7] at ho;have ih:=ih (pre++[(m:Int)]) (out++[32]++Lib.decDigits m) fuel (by rw[dw];exact hl) (fun v hv2=>hv v (za5 _ hv2)) (by simp;omega) (by simp at hf;omega);rw[dw] at ih;rw[qF,eF,be,eh,show bs out++ByteArray.mk #[32]=bs (out++[32]) from dY out [32],bm,bm];refine(gP (a:=out.length) (b:=1) (by omega) _).trans ?_;rw[bh,J4,bp,h60 m (by omega),bf,bE,bm,dY,cX pre (m:Int) r (by omega)];refine(gP (a:=(out++[32]).length) (b:=(Lib.decDigits m).length) (by simp;omega) _).trans ?_;rw[ih];simp
theorem NV(m:Nat)(vc:List D):∀(r pre:List By) (out:By) (fuel:Nat),(pre++r).length≤100→(∀s∈r,s.length≤100)→out.length+r.length*200≤100000→r.length<fuel→
  uq B LL C1 fuel a (bs k) f (pre++r).length ((pre++r).map SB) g m vc (bs t) (bs out) (pre.length:Int)=mA B LL C1 LL a (bs k) f (pre++r).length ((pre++r).map SB) g m vc (bs t) (bs (out++r.flatMap (fun w=>32::w))) 0:=by
 intro r
 induction r with
 |nil=>
  intro pre out fuel hl hv ho hf;obtain⟨fuel,rfl⟩:=bx hf;rw[sY,dI,ba];simp only[List.flatMap_nil,zb6]
 |cons w r ih=>
  intro pre out fuel hl hv ho hf;obtain⟨fuel,rfl⟩:=bx hf;have hw:=hv w (za4 ..);simp only[za7] at ho;have ih:=ih (pre++[w]) (out++[32]++w) fuel (by rw[dw];exact hl) (fun v hv2=>hv v (za5 _ hv2)) (by simp;omega) (by simp at hf;omega);rw[dw] at ih;rw[sY,eF,be,eh,show bs out++ByteArray.mk #[32]=bs (out++[32]) from dY out [32],bm,bm];refine(gP (a:=out.length) (b:=1) (by omega) _).trans ?_;rw[bh,J3,bE,bm,dY,cX pre w r (by omega)];refine(gP (a:=(out++[32]).length) (b:=w.length) (by simp;omega) _).trans ?_;rw[ih];simp
end
theorem PI(f g:Bool)(e:EvV)(h:e.Ok):bR 63 [.agg (gw f g e)] (SB (cx e)):=by
 obtain⟨B,hB,e1,e2,_⟩:=eL [DT 60,one 121 [SB e.k] (ka (bP e.k))] ⟨qN PG,bg (DM e.k),trivial⟩ rfl;have hf:=gO e.k;have h1:=h.ns;have h2:=h.vs;have h3:=h.n;have hk:=w6 h.is;have hd:=mL 3 e.n.toNat (by omega);have g1:B 60 [.int .i64 e.n]=some (SB (Lib.decDigits e.n.toNat)):=by
  have:=e1 ⟨e.n.toNat,by omega⟩;rw[show e.n=((e.n.toNat:Nat):Int) by omega];exact this
 refine dG hB Tryz.func63 (ord:=O0) (N:=Ol) (by kernel_rfl) ((JW B LL C1 e.n (bs e.k) f _ _ g _ _ (bs e.t)).trans ?_);rw[g1,bf,bE,show bs (Lib.decDigits e.n.toNat)++ByteArray.mk #[32]=bs (Lib.decDigits e.n.toNat++[32]) from dY _ [32],bm,bm,bm,dY];refine(gP (a:=(Lib.decDigits e.n.toNat).length) (b:=1) (by omega) _).trans ?_;refine(gP (a:=(Lib.decDigits e.n.toNat++[32]).length) (b:=e.k.length) (by simp;omega) _).trans ?_;have gn:=NV (B:=B) e.n e.k e.t f g e.vs.length (b9 e.vs) e.ns [] (Lib.decDigits e.n.toNat++[32]++e.k) LL (by simp;omega) (fun s hs=>by have:=h.n1 s hs;omega) (by simp;omega) (by unfold LL;omega);have h8:NQ e≤e.ns.length*25:=Ad (g:=fun w:By=>32::w) (b:=25) e.ns fun s hs=>by have:=h.n1 s hs;simp;omega
 have gv:=NU (B:=B) e.n e.k e.t f g (fun n hn=>e1 ⟨n,hn⟩) (e2 ()) e.ns.length (e.ns.map SB) (by have:=h.t;omega) e.vs [] (Lib.decDigits e.n.toNat++[32]++e.k++e.ns.flatMap (fun w=>32::w)) LL (by simp;omega) h.v1 (by rw[za6,za6,za6,zb4];exact(show(Lib.decDigits e.n.toNat).length+1+e.k.length+NQ e+e.vs.length*100≤1000000 by omega)) (by unfold LL;omega);simp only[zb7] at gn gv;refine(Eq.trans gn gv).trans ?_;unfold cx mK;simp
def jB(z:Nat)(e:EvV):By:=cx e++35::eZ (bV z (cx e))++[10]
def mN:Nat→List EvV→By
 |_,[]=>[]
 |z,e::l=>jB z e++mN (bV z (cx e)) l
def qR:Nat→List EvV→Nat
 |z,[]=>z
 |z,e::l=>qR (bV z (cx e)) l
theorem tc:∀(l:List EvV) (z:Nat) (e:EvV),mN z (l++[e])=mN z l++jB (qR z l) e
 |[],z,e=>by simp[mN,qR]
 |x::l,z,e=>by
  show jB z x++mN _ (l++[e])=(jB z x++mN _ l)++jB (qR _ l) e;rw[tc l,za8]
theorem oZ(v:Nat):(eZ v).length=6:=by unfold eZ;rw[DC];rfl
theorem Ae(z:Nat)(e:EvV):bs (cx e)++ByteArray.mk #[35]++bs (eZ (bV z (cx e)))++ByteArray.mk #[10]=bs (jB z e):=by
 rw[show bs (cx e)++ByteArray.mk #[35]=bs (cx e++[35]) from dY _ [35],dY,show bs (cx e++[35]++eZ (bV z (cx e)))++ByteArray.mk #[10]=bs (cx e++[35]++eZ (bV z (cx e))++[10]) from dY _ [10]];unfold jB;simp
theorem Af(z:Nat){e:EvV}(h:e.Ok):(jB z e).length≤5010:=by
 have:=mM h;unfold jB;simp[oZ];omega
theorem kj{γ:Type}{x:Int}(h:x≤9223372036854775807)(t:Option γ):bu (!decide (x>9223372036854775807)) t=t:=by
 rw[za2 (by omega)];rfl
theorem Kn(b:By):(bs b++ByteArray.mk #[35]).size=b.length+1:=by
 rw[ByteArray.size_append,bm];rfl
theorem HE(b:By)(v:Nat):(bs b++ByteArray.mk #[35]++bs (eZ v)).size=b.length+7:=by
 rw[ByteArray.size_append,Kn,bm,oZ]
theorem P9(v:Nat):(bs (eZ v)).size=6:=by rw[bm,oZ]
theorem NW(f g:Bool)(e:EvV)(h:e.Ok)(z:Nat)(hz:z<16777213):bR 140 [.agg (gw f g e),.int .i64 (z:Int)] (.tup [SB (jB z e),.int .i64 (bV z (cx e):Int)]):=by
 have hb:=mM h;obtain⟨B,hB,e1,e2,e3,_⟩:=eL [one 210 [.agg (gw f g e)] (SB (cx e)),one 211 [.int .i64 (z:Int),SB (cx e)] (.int .i64 (bV z (cx e):Int)),one 212 [.int .i64 (bV z (cx e):Int)] (SB (eZ (bV z (cx e))))]
  ⟨bg (NT f g e h),bg (Hu z _ hz (by omega)),bg (Ht _ (uE hz _)),trivial⟩ rfl
 have g1:B 210 [.agg [.int .i64 e.n,.str (bs e.k),.slc f e.ns.length (e.ns.map SB),.slc g e.vs.length (b9 e.vs),.str (bs e.t)]]=some (SB (cx e)):=e1 ();have g2:B 211 [.int .i64 (z:Int),.str (bs (cx e))]=some (.int .i64 (bV z (cx e):Int)):=e2 ();have g3:B 212 [.int .i64 (bV z (cx e):Int)]=some (SB (eZ (bV z (cx e)))):=e3 ();refine dG hB Tryz.func140 (ord:=O0) (N:=N0) (by kernel_rfl) ((Gx B LL C1 e.n (bs e.k) f _ _ g _ _ (bs e.t) (z:Int)).trans ?_);rw[g1,bf,bE,g2,bf,bp,g3,bf,bE,Ae,HE,Kn,P9,bm,kj (by omega),kj (by omega),kj (by omega)]
def fa63:Fam:=⟨63,{x:kS//x.2.Ok},fun x=>[.agg (d4 x.1)],fun x=>SB (cx x.1.2)⟩
theorem Ko{x y:kS}(h:d4 x=d4 y):x=y:=by
 obtain⟨⟨f,g⟩,n,k,ns,vs,t⟩:=x;obtain⟨⟨f',g'⟩,n',k',ns',vs',t'⟩:=y;unfold d4 gw at h;simp only[zc5,D.int.injEq,D.str.injEq,D.slc.injEq,true_and,and_true] at h;obtain⟨h1,h2,⟨h3,_,h4⟩,⟨h5,_,h6⟩,h7⟩:=h;rw[h1,hN h2,h3,oX h4,h5,qj h6,hN h7]
theorem Br:fa63.Good:=⟨fun x=>PI x.1.1.1 x.1.1.2 x.1.2 x.2,fun i j e=>by
 have e:[D.agg (d4 i.1)]=[D.agg (d4 j.1)]:=e;simp only[zc5,and_true,D.agg.injEq] at e;show SB (cx i.1.2)=SB (cx j.1.2);rw[Ko e]⟩
def fa62:Fam:=⟨62,{x:Nat×By//x.1<16777213∧x.2.length≤1000000},fun x=>[.int .i64 (x.1.1:Int),SB x.1.2],fun x=> .int .i64 (bV x.1.1 x.1.2:Int)⟩
theorem Bt:fa62.Good:=⟨fun x=>MY x.1.1 x.1.2 x.2.1 x.2.2,fun i j e=>by
 have e:[D.int .i64 (i.1.1:Int),SB i.1.2]=[D.int .i64 (j.1.1:Int),SB j.1.2]:=e;simp only[zc5,and_true,D.int.injEq,D.str.injEq,true_and] at e;rw[show i=j from Subtype.ext (Prod.ext (by omega) (hN e.2))]⟩
def fa79:Fam:=⟨79,{v:Nat//v<16^6},fun v=>[.int .i64 (v.1:Int)],fun v=>SB (eZ v.1)⟩
theorem Bu:fa79.Good:=⟨fun v=>MX v.1 v.2,fun i j e=>by
 have e:[D.int .i64 (i.1:Int)]=[D.int .i64 (j.1:Int)]:=e;simp only[zc5,and_true,D.int.injEq,true_and] at e;rw[show i=j from Subtype.ext (by omega)]⟩
theorem PJ{B:FuncId→List D→Option D}(h63:∀x:kS,x.2.Ok→B 63 [.agg (d4 x)]=some (SB (cx x.2)))(h62:∀(z:Nat) (l:By),z<16777213→l.length≤1000000→B 62 [.int .i64 (z:Int),SB l]=some (.int .i64 (bV z l:Int)))(h79:∀v:Nat,v<16^6→B 79 [.int .i64 (v:Int)]=some (SB (eZ v)))
  (fl:Bool):∀(r pre:List kS) (out:By) (z:Nat) (fuel:Nat),z<16777213→(pre++r).length≤2000→(∀x∈r,x.2.Ok)→out.length+r.length*6000≤50000000→r.length<fuel→
   ur B LL C1 fuel fl (pre++r).length ((pre++r).flatMap d4) (bs out) (z:Int) (pre.length:Int)=some (SB (out++mN z (r.map (·.2)))):=by
 intro r
 induction r with
 |nil=>
  intro pre out z fuel hz hl h ho hf;obtain⟨fuel,rfl⟩:=bx hf;rw[sZ,dI,ba,List.map_nil,mN,zb6]
 |cons x r ih=>
  intro pre out z fuel hz hl h ho hf;obtain⟨fuel,rfl⟩:=bx hf;have hx:=h x (za4 ..);have hb:=mM hx;have hr:=Af z hx;simp only[za7] at ho;have ih:=ih (pre++[x]) (out++jB z x.2) (bV z (cx x.2)) fuel (kD _ z hz) (by rw[dw];exact hl) (fun y hy=>h y (za5 _ hy)) (by rw[za6];omega) (by simp at hf;omega);rw[dw] at ih;have g63:=h63 x hx;have g63:B 63 [.agg [.int .i64 x.2.n,.str (bs x.2.k),.slc x.1.1 x.2.ns.length (x.2.ns.map SB),.slc x.1.2 x.2.vs.length (b9 x.2.vs),.str (bs x.2.t)]]=some (SB (cx x.2)):=g63;have eo:bs out++bs (cx x.2)++ByteArray.mk #[35]++bs (eZ (bV z (cx x.2)))++ByteArray.mk #[10]=bs (out++jB z x.2):=by
   rw[←dY,←Ae];simp only[ByteArray.append_assoc]
  rw[sZ,eF,be,eh,bh,Om,bp,On,bE,Oo,cW,Oq,cW,Or,bE,g63,bf,bE,h62 z _ hz (by omega),bf,bp,bh,Om,bp,On,bE,Oo,cW,Oq,cW,Or,bE,g63,bf,bE,h79 _ (uE hz _),bf,bE,eo,cX pre x r (by omega),ih,
   dY,HE,Kn,P9,bm,bm,bm,za6,kj (by omega),kj (by omega),kj (by omega),kj (by omega)]
  rw[List.map_cons,mN,za8]
theorem PL(fl:Bool)(l:List kS)(hl:l.length≤2000)(h:∀x∈l,x.2.Ok):bR 57 [.slc fl l.length (l.flatMap d4)] (SB (mN 0 (l.map (·.2)))):=by
 obtain⟨B,hB,e1,e2,e3,_⟩:=eL [fa63,fa62,fa79] ⟨Br,Bt,Bu,trivial⟩ rfl;exact dG hB Tryz.func57 (ord:=O0) (N:=Py) (by kernel_rfl) ((JX _ _ _ _ _ _).trans (PJ (fun x h=>e1 ⟨x,h⟩) (fun z l h1 h2=>e2 ⟨(z,l),h1,h2⟩) (fun v h=>e3 ⟨v,h⟩) fl l [] [] 0 LL (by decide) hl h (by simp;omega) (by unfold LL;omega)))
def qX:Nat→By→Nat→Nat→List EvV×Nat×Nat×Int
 |0,_,a,z=>([],a,z,0)
 |n+1,r,a,z=>if r=[] then([],a,z,0) else if(bj 10 r).2.2=true then(if(ee z (bj 10 r).1).1=0 then
   ((ee z (bj 10 r).1).2.2::(qX n (bj 10 r).2.1 (a+(bj 10 r).1.length+1) (ee z (bj 10 r).1).2.1).1,(qX n (bj 10 r).2.1 (a+(bj 10 r).1.length+1) (ee z (bj 10 r).1).2.1).2)
  else([],a,z,(ee z (bj 10 r).1).1)) else([],a,z,28)
theorem qS{z:Nat}{s:By}(h:(ee z s).1=0):7≤s.length:=by
 obtain⟨h1,_⟩:=uB h;have:=congrArg List.length h1;rw[za6,za7,oZ] at this;omega
theorem Eb:∀(n:Nat) (r:By) (a z:Nat),r.length≤90000→z<16777213→(∀e∈(qX n r a z).1,e.Ok)∧8*(qX n r a z).1.length≤r.length∧(qX n r a z).2.2.1=qR z (qX n r a z).1∧(qX n r a z).2.2.1<16777213∧(r.length<8*n→(qX n r a z).2.2.2=0→r=mN z (qX n r a z).1)
 |0,r,a,z,_,hz=>⟨fun _ h=>(by cases h),(by simp[qX]),rfl,hz,fun h=>(by omega)⟩
 |n+1,r,a,z,hl,hz=>by
  rw[qX];split
  ·rename_i h0;exact⟨fun _ h=>(by cases h),by simp,rfl,hz,fun _ _=>h0⟩
  ·split
   ·rename_i hc;have hcl:=(dM 10 r).2.2 hc;split
    ·rename_i h0;have hll:=qS h0;obtain⟨l1,l2,l3,l4,l5,l6,l7⟩:=uB h0;have hz2:(ee z (bj 10 r).1).2.1<16777213:=by rw[l2];exact kD _ z hz
     obtain⟨i1,i2,i3,i4,i5⟩:=Eb n (bj 10 r).2.1 (a+(bj 10 r).1.length+1) (ee z (bj 10 r).1).2.1 (by omega) hz2;refine⟨fun e he=> ?_,?_,?_,i4,fun hn hz0=> ?_⟩
     ·rcases List.mem_cons.1 he with rfl|he
      ·exact D8 l3
      ·exact i1 e he
     ·rw[za7];omega
     ·dsimp only;rw[qR,←l2];exact i3
     ·dsimp only at hz0 ⊢;have:=i5 (by omega) hz0;rw[mN,←l2,←this];have e1:jB z (ee z (bj 10 r).1).2.2=(bj 10 r).1++[10]:=by
       unfold jB;rw[←l2,←l1]
      rw[e1,za8];exact lK hc
    ·rename_i h0;exact⟨fun _ h=>(by cases h),by simp,rfl,hz,fun _ h=>absurd h h0⟩
   ·exact⟨fun _ h=>(by cases h),by simp,rfl,hz,fun _ h=>(by cases h)⟩
def Qa(e:EvV)(a z:Nat):List D:=[.agg (d4 (iE e)),.agg [.int .i64 (a:Int),.int .i64 (z:Int),.int .i64 0]]
def PM(a z:Nat)(x:Int):List D:=[.agg [.int .i64 0,.str (ByteArray.mk #[]),.nils,.nils,.str (ByteArray.mk #[])],.agg [.int .i64 (a:Int),.int .i64 (z:Int),.int .i64 x]]
def GP:Nat→By→Nat→Nat→List (List D)
 |0,_,_,_=>[]
 |n+1,r,a,z=>if r=[] then[] else if(bj 10 r).2.2=true then(if(ee z (bj 10 r).1).1=0 then
   Qa (ee z (bj 10 r).1).2.2 (a+(bj 10 r).1.length+1) (ee z (bj 10 r).1).2.1::GP n (bj 10 r).2.1 (a+(bj 10 r).1.length+1) (ee z (bj 10 r).1).2.1
  else[PM a z (ee z (bj 10 r).1).1]) else[PM a z 28]
theorem Kp(B:FuncId→List D→Option D)(s:ByteArray)(n:Nat)(c x x1 x2:Int):yt B s (n+1) c x x1 x2=
 bo (decide (x<((ByteArray.size s):Int))) (bu (decide (0≤x∧x≤((ByteArray.size s):Int)∧((ByteArray.size s):Int)≤((ByteArray.size s):Int)))
   (bn (B 133 [.str (ByteArray.extract s (Int.toNat x) (Int.toNat ((ByteArray.size s):Int))),.str (ByteArray.mk #[10])]) fun r=>cJ r 3 fun q=>bc q 0 fun d=>bH d fun t=>bc q 1 fun d_1=>bH d_1 fun _=>bc q 2 fun d_2=>bM d_2 fun b=>
    bo (!b) (fP [.agg [.int .i64 0,.str (ByteArray.mk #[]),.nils,.nils,.str (ByteArray.mk #[])],.agg [.int .i64 x,.int .i64 x1,.int .i64 28]] (some []) (some []))
     (bn (B 269 [.str t,.int .i64 x1]) fun r_1=>cJ r_1 3 fun c_1=>bc c_1 0 fun d_3=>fK d_3 5 fun c_2=>bc c_2 0 fun d_4=>bw .i64 d_4 fun y=>bc c_2 1 fun d_5=>bH d_5 fun s_2=>bc c_2 2 fun d_6=>cP d_6 fun f n_1 c_3=>bc c_2 3 fun d_7=>cP d_7 fun f_1 n_2 c_4=>bc c_2 4 fun d_8=>bH d_8 fun s_3=>
      bc c_1 1 fun d_9=>bw .i64 d_9 fun x_1=>bc c_1 2 fun d_10=>bw .i64 d_10 fun x_2=>bn (B 119 [.bool (c==1000),.int .i64 5]) fun r_2=>bw .i64 r_2 fun x_3=>bn (B 87 [.slc true 2 [.int .i64 x_2,.int .i64 x_3]]) fun r_3=>bw .i64 r_3 fun x_4=>
       bo (x_4 !=0) (fP [.agg [.int .i64 0,.str (ByteArray.mk #[]),.nils,.nils,.str (ByteArray.mk #[])],.agg [.int .i64 x,.int .i64 x1,.int .i64 x_4]] (some []) (some []))
        (fP [.agg [.int .i64 y,.str s_2,.slc f n_1 c_3,.slc f_1 n_2 c_4,.str s_3],.agg [.int .i64 (IntKind.wrap .i64 (IntKind.wrap .i64 (x+((ByteArray.size t):Int))+1)),.int .i64 x_1,.int .i64 x_4]]
         (yt B s n (IntKind.wrap .i64 (c+1)) (IntKind.wrap .i64 (IntKind.wrap .i64 (x+((ByteArray.size t):Int))+1)) x_1 x_4) (some [])))))
  (some []):=rfl
theorem GQ(y:List D)(ys:List (List D)){t:Option (List (List D))}(h:t=some ys):fP y t (some [])=some (y::ys):=by
 subst h;rfl
theorem NX{B:FuncId→List D→Option D}(h133:∀l:By,l.length≤90000→B 133 [SB l,SB [10]]=some (.tup [SB (bj 10 l).1,SB (bj 10 l).2.1,.bool (bj 10 l).2.2]))
  (h269:∀(s:By) (z:Nat),s.length≤90000→z<16777213→∃(x:kS) (y:Int),B 269 [SB s,.int .i64 (z:Int)]=some (.tup [.agg (d4 x),.int .i64 y,.int .i64 (ee z s).1])∧((ee z s).1=0→x=iE (ee z s).2.2∧y=((ee z s).2.1:Int)))
  (h119:∀(b:Bool) (x:Int),B 119 [.bool b,.int .i64 x]=some (.int .i64 (bo b x 0))) (h87:∀x y:Int,B 87 [.slc true 2 [.int .i64 x,.int .i64 y]]=some (.int .i64 (fO [x,y]))):
  ∀(n:Nat) (pre r:By) (z c:Nat) (x2:Int),n+c=1000→(pre++r).length≤90000→r.length<8*n→z<16777213→yt B (bs (pre++r)) n (c:Int) (pre.length:Int) (z:Int) x2=some (GP n r pre.length z):=by
 intro n
 induction n with
 |zero=>intro pre r z c x2 _ _ h;omega
 |succ n ih=>
  intro pre r z c x2 hc hl hr hz;rw[Kp,bm,GP];by_cases h0:r=[]
  ·subst h0;rw[zb6,ng,ba,if_pos rfl]
  ·have hp:0<r.length:=List.length_pos_iff.2 h0;rw[za6] at hl;have hx:ByteArray.extract (bs (pre++r)) (Int.toNat (pre.length:Int)) (Int.toNat (((pre++r).length:Nat):Int))=bs r:=by
    rw[gZ,za3,za3,List.take_length,List.drop_left]
   rw[if_neg h0,za1 (show(pre.length:Int)<(((pre++r).length:Nat):Int) by rw[za6];omega),be,za1 (show(0:Int)≤(pre.length:Int)∧(pre.length:Int)≤(((pre++r).length:Nat):Int)∧(((pre++r).length:Nat):Int)≤(((pre++r).length:Nat):Int) by rw[za6];omega),bh,hx,
    show B 133 [.str (bs r),.str (ByteArray.mk #[10])]=_ from h133 r (by omega),bf,GK,En,bE,Eo,bE,Ep,bD]
   cases hw:(bj 10 r).2.2 with
   |false=>
    rw[Bool.not_false,be,if_neg (by decide)];rfl
   |true=>
    have hcl:=(dM 10 r).2.2 hw;obtain⟨x,y,g,hg⟩:=h269 (bj 10 r).1 z (by omega) hz;rw[Bool.not_true,ba,if_pos rfl,show B 269 [.str (bs (bj 10 r).1),.int .i64 (z:Int)]=_ from g,bf];show(bn (B 119 [.bool ((c:Int)==1000),.int .i64 5]) fun r_2=>bw .i64 r_2 fun x_3=>bn (B 87 [.slc true 2 [.int .i64 (ee z (bj 10 r).1).1,.int .i64 x_3]]) fun r_3=>bw .i64 r_3 fun x_4=>
       bo (x_4 !=0) (fP [.agg [.int .i64 0,.str (ByteArray.mk #[]),.nils,.nils,.str (ByteArray.mk #[])],.agg [.int .i64 (pre.length:Int),.int .i64 (z:Int),.int .i64 x_4]] (some []) (some []))
        (fP [.agg (d4 x),.agg [.int .i64 (IntKind.wrap .i64 (IntKind.wrap .i64 ((pre.length:Int)+((ByteArray.size (bs (bj 10 r).1)):Int))+1)),.int .i64 y,.int .i64 x_4]]
         (yt B (bs (pre++r)) n (IntKind.wrap .i64 ((c:Int)+1)) (IntKind.wrap .i64 (IntKind.wrap .i64 ((pre.length:Int)+((ByteArray.size (bs (bj 10 r).1)):Int))+1)) y x_4) (some [])))=_
    rw[h119,bf,bp,h87,bf,bp,show((c:Int)==1000)=false by(rw[beq_eq_false_iff_ne];omega),ba];have ef:fO [(ee z (bj 10 r).1).1,0]=(ee z (bj 10 r).1).1:=by
     unfold fO;cases hq:((ee z (bj 10 r).1).1 !=0) with
     |true=>rfl
     |false=>rw[show(ee z (bj 10 r).1).1=0 by simpa using hq];rfl
    rw[ef];by_cases hz0:(ee z (bj 10 r).1).1=0
    ·obtain⟨rfl,rfl⟩:=hg hz0;have hll:=qS hz0;have l2:=(uB hz0).2.1;have er:pre++r=pre++((bj 10 r).1++[10])++(bj 10 r).2.1:=by
      rw[za8,za8];exact congrArg (pre++·) (lK hw)
     have ih:=ih (pre++((bj 10 r).1++[10])) (bj 10 r).2.1 (ee z (bj 10 r).1).2.1 (c+1) 0 (by omega) (by rw[←er,za6];omega) (by omega) (by rw[l2];exact kD _ z hz);rw[←er] at ih;have ea:(pre++((bj 10 r).1++[10])).length=pre.length+(bj 10 r).1.length+1:=by simp;omega
     rw[ea] at ih;rw[if_pos hz0,hz0,show((0:Int) !=0)=false from rfl,ba,bm,bS (y:=(c:Int)+1) (by omega),bS (y:=(pre.length:Int)+((bj 10 r).1.length:Int)) (by omega),bS (y:=(pre.length:Int)+((bj 10 r).1.length:Int)+1) (by omega),
      show(pre.length:Int)+((bj 10 r).1.length:Int)+1=((pre.length+(bj 10 r).1.length+1:Nat):Int) by omega,show(c:Int)+1=((c+1:Nat):Int) by omega]
     exact GQ _ _ ih
    ·rw[if_neg hz0,show((ee z (bj 10 r).1).1 !=0)=true from ze5.2 hz0,be];rfl
def cC(e:EvV):List D:=d4 (iE e)
theorem Ec(s:By)(z:Nat)(hl:s.length≤90000)(hz:z<16777213):∃p:kS×Int,bR 269 [SB s,.int .i64 (z:Int)] (.tup [.agg (d4 p.1),.int .i64 p.2,.int .i64 (ee z s).1])∧((ee z s).1=0→p.1=iE (ee z s).2.2∧p.2=((ee z s).2.1:Int)):=by
 obtain⟨x,y,h1,h2⟩:=NN s z hz hl;exact⟨(x,y),h1,h2⟩
abbrev Ln:={x:By×Nat//x.1.length≤90000∧x.2<16777213}
noncomputable def Bv(x:Ln):kS×Int:=(Ec x.1.1 x.1.2 x.2.1 x.2.2).choose
theorem Ed(x:Ln):bR 269 [SB x.1.1,.int .i64 (x.1.2:Int)] (.tup [.agg (d4 (Bv x).1),.int .i64 (Bv x).2,.int .i64 (ee x.1.2 x.1.1).1])∧((ee x.1.2 x.1.1).1=0→(Bv x).1=iE (ee x.1.2 x.1.1).2.2∧(Bv x).2=((ee x.1.2 x.1.1).2.1:Int)):=(Ec x.1.1 x.1.2 x.2.1 x.2.2).choose_spec
noncomputable def fa269:Fam:=⟨269,Ln,fun x=>[SB x.1.1,.int .i64 (x.1.2:Int)],fun x=> .tup [.agg (d4 (Bv x).1),.int .i64 (Bv x).2,.int .i64 (ee x.1.2 x.1.1).1]⟩
theorem yT:fa269.Good:=⟨fun x=>(Ed x).1,fun i j e=>by
 have e:[SB i.1.1,D.int .i64 (i.1.2:Int)]=[SB j.1.1,D.int .i64 (j.1.2:Int)]:=e;simp only[zc5,and_true,D.int.injEq,D.str.injEq,true_and] at e;rw[show i=j from Subtype.ext (Prod.ext (hN e.1) (by omega))]⟩
def faNl:Fam:=⟨133,{l:By//l.length≤90000},fun l=>[SB l.1,SB [10]],fun l=> .tup [SB (bj 10 l.1).1,SB (bj 10 l.1).2.1,.bool (bj 10 l.1).2.2]⟩
theorem Bw:faNl.Good:=⟨fun x=>DB x.1 10 (by have:=x.2;omega),fun i j e=>by
 have e:[SB i.1,SB [10]]=[SB j.1,SB [10]]:=e;simp only[zc5,and_true,D.str.injEq] at e;rw[show i=j from Subtype.ext (hN e)]⟩
theorem NY(l:By)(hl:l.length≤7000):SeqOK Tryz.prog je 268 [.snap [SB l] 0] ((GP 1000 l 0 0).map fun y=>y.map (yi 2)):=by
 obtain⟨B,hB,e1,e2,e3,e4,_⟩:=eL [faNl,fa269,fa119,fa87] ⟨Bw,yT,jg,kx,trivial⟩ rfl;have h:=NX (B:=B) (fun l hl=>e1 ⟨l,hl⟩) (fun s z h1 h2=>⟨_,_,e2 ⟨(s,z),h1,h2⟩,(Ed ⟨(s,z),h1,h2⟩).2⟩) (fun b x=>e3 (b,x)) (fun x y=>e4 ⟨[x,y],by simp⟩) 1000 [] l 0 0 0 rfl (by simp;omega) (by omega) (by decide);exact SeqOK.weak (fun _ _ _ _ h=>jd 2 h) (zA ⟨pA hB,(fun _ _ h=>nomatch h),(fun _ _ _ h=>nomatch h),(fun _ _ hi=>nomatch hi)⟩ h)
def Kq(a z:Nat)(x:Int):D:= .agg [.int .i64 (a:Int),.int .i64 (z:Int),.int .i64 x]
theorem Ag{α:Type}(g:α→List D)(s:α):kw g [s]= .own 1 (g s):=by simp[kw]
section
variable {B:FuncId→List D→Option D}{sq:FuncId→List D→Option (List (List D))}
theorem Ah(acc:List EvV)(a z:Nat)(x:Int):c9 B LL C1 sq [] (kw cC acc) (a:Int) (z:Int) x=some (.tup [AX cC acc,Kq a z x]):=by
 cases acc with
 |nil=>exact rB ..
 |cons e acc=>exact rC ..
theorem HF(acc:List EvV)(a z:Nat)(x:Int)(a' z':Nat)(x':Int)(hx:x'≠0)(ys:List (List D)):c9 B LL C1 sq ((PM a' z' x').map (yi 2)::ys) (kw cC acc) (a:Int) (z:Int) x=c9 B LL C1 sq ys (kw cC acc) (a':Int) (z':Int) x':=by
 have hb:(x'==0)=false:=beq_eq_false_iff_ne.2 hx;cases acc with
 |nil=>
  rw[show kw cC []=Ow.nil from rfl,j8];show bo (x'==0) _ _=_;rw[hb,ba]
 |cons e acc=>
  rw[show kw cC (e::acc)=Ow.own (acc.length+1) ((e::acc).flatMap cC) from rfl,j9];show bo (x'==0) _ _=_;rw[hb,ba]
theorem yU{i:Nat}(h:i≤1000000):decide ((i+1)*88≤cg∧i+1≤9223372036854775807)=true:=by
 simp only[zc7];rw[show cg=140737488355328 from rfl];omega
theorem NZ(acc:List EvV)(a z:Nat)(x:Int)(e:EvV)(a' z':Nat)(ha:acc.length≤100000)(ys:List (List D)):c9 B LL C1 sq ((Qa e a' z').map (yi 2)::ys) (kw cC acc) (a:Int) (z:Int) x=c9 B LL C1 sq ys (kw cC (acc++[e])) (a':Int) (z':Int) 0:=by
 cases acc with
 |nil=>
  rw[show kw cC []=Ow.nil from rfl,j8,zb7,Ag];rfl
 |cons e1 acc=>
  rw[wE,show kw cC (e1::acc)=Ow.own (acc.length+1) ((e1::acc).flatMap cC) from rfl,j9];simp only[yU (show acc.length+1≤1000000 by simp at ha;omega),bh];rfl
theorem N1:∀(n:Nat) (r:By) (a z:Nat) (acc:List EvV),acc.length+r.length≤90000→
  c9 B LL C1 sq ((GP n r a z).map fun y=>y.map (yi 2)) (kw cC acc) (a:Int) (z:Int) 0=some (.tup [AX cC (acc++(qX n r a z).1),Kq (qX n r a z).2.1 (qX n r a z).2.2.1 (qX n r a z).2.2.2]):=by
 intro n
 induction n with
 |zero=>
  intro r a z acc hl;rw[GP,qX,List.map_nil,Ah,zb6]
 |succ n ih=>
  intro r a z acc hl;rw[GP,qX];by_cases h0:r=[]
  ·rw[if_pos h0,if_pos h0,List.map_nil,Ah,zb6]
  ·rw[if_neg h0,if_neg h0];by_cases hw:(bj 10 r).2.2=true
   ·have hcl:=(dM 10 r).2.2 hw;rw[if_pos hw,if_pos hw];by_cases hz0:(ee z (bj 10 r).1).1=0
    ·rw[if_pos hz0,if_pos hz0,List.map_cons,NZ _ _ _ _ _ _ _ (by omega),ih _ _ _ _ (by simp;omega),za8];rfl
    ·rw[if_neg hz0,if_neg hz0,List.map_cons,HF _ _ _ _ _ _ _ hz0,List.map_nil,Ah,zb6]
   ·rw[if_neg hw,if_neg hw,List.map_cons,HF _ _ _ _ _ _ _ (by decide),List.map_nil,Ah,zb6]
end
abbrev bG(l:By):List EvV×Nat×Nat×Int:=qX 1000 l 0 0
open Classical in
noncomputable def KC(l:By):FuncId→List D→Option (List (List D)):=fun k ds=>if k=268∧ds=[.snap [SB l] 0] then some ((GP 1000 l 0 0).map fun y=>y.map (yi 2)) else none
theorem HG(l:By)(hl:l.length≤7000):bR 143 [SB l] (.tup [AX cC (bG l).1,Kq (bG l).2.1 (bG l).2.2.1 (bG l).2.2.2]):=by
 obtain⟨B,hB,a1,a2,_⟩:=eL [one 113 [] lH,fa214] ⟨bg GI,jo,trivial⟩ rfl;have he:EnvOK (Oi B LL C1 (KC l)).E:=⟨pA hB,(fun _ _ h=>nomatch h),(fun _ _ _ h=>nomatch h),(fun _ _ hi=>nomatch hi)⟩;refine eY (Te:=Oi B LL C1 (KC l)) fk he (oU (a1 ()) a2) rfl (fun g cs ys h=> ?_) Tryz.func143 (by simp) (ord:=O0) (N:=JY) (by kernel_rfl) ((Gz B LL C1 (KC l) (bs l)).trans ?_)
 ·have h:KC l g cs=some ys:=h;unfold KC at h;split at h
  ·rename_i hc;cases h;rw[hc.1,hc.2];exact NY l hl
  ·cases h
 ·have hs:KC l 268 [.snap [.str (bs l)] 0]=some ((GP 1000 l 0 0).map fun y=>y.map (yi 2)):=if_pos ⟨rfl,rfl⟩;rw[hs,bf];exact N1 1000 l 0 0 [] (by simp;omega)
def w7(l:By):D:= .tup [AX cC (bG l).1,.int .i64 ((bG l).2.1:Int),.int .i64 (bG l).2.2.2]
theorem GR(l:By)(hl:l.length≤7000):bR 59 [SB l] (w7 l):=by
 obtain⟨B,hB,e1,_⟩:=eL [one 143 [SB l] (.tup [AX cC (bG l).1,Kq (bG l).2.1 (bG l).2.2.1 (bG l).2.2.2])] ⟨bg (HG l hl),trivial⟩ rfl;refine dG hB Tryz.func59 (ord:=O0) (N:=N0) (by kernel_rfl) ((J0 _ _ _ _).trans ?_);rw[bm,za2 (by omega),ba];refine ct (e1 ()) ?_;unfold w7;rw[ms];rfl
section
variable {B:FuncId→List D→Option D}
noncomputable def Ks(B:FuncId→List D→Option D)(n:Nat)(s:ByteArray)(a b:Int)(acc:List EvV)(q:Int×Nat×EvV):Option D:=
 cO B LL C1 n s a b (kw cC acc) (q.2.1:Int) q.1 q.2.2.n (bs q.2.2.k) q.2.2.ns.isEmpty q.2.2.ns.length (q.2.2.ns.map SB) q.2.2.vs.isEmpty q.2.2.vs.length (b9 q.2.2.vs) (bs q.2.2.t)
theorem GS(n:Nat)(s:ByteArray)(a b:Int)(acc:List EvV)(q:Int×Nat×EvV)(h:q.1≠0):Ks B n s a b acc q=some (.tup [AX cC acc,.int .i64 a,.int .i64 q.1]):=by
 have hb:(q.1 !=0)=true:=ze5.2 h;unfold Ks;cases acc with
 |nil=>rw[show kw cC []=Ow.nil from rfl,lc (hC:=c1),hb,be];rfl
 |cons e acc=>rw[show kw cC (e::acc)=Ow.own (acc.length+1) ((e::acc).flatMap cC) from rfl,ld (hC:=c1),hb,be];rfl
theorem Kt(n:Nat)(s:ByteArray)(a b:Int)(acc:List EvV)(q:Int×Nat×EvV)(h:q.1=0)(ha:acc.length≤100000):Ks B n s a b acc q=gN B LL C1 n s (kw cC (acc++[q.2.2])) (IntKind.wrap .i64 (b+1)) (q.2.1:Int):=by
 have hb:(q.1 !=0)=false:=bne_eq_false_iff_eq.2 h;unfold Ks;cases acc with
 |nil=>
  rw[show kw cC []=Ow.nil from rfl,lc (hC:=c1),hb,ba,zb7,Ag];rfl
 |cons e acc=>
  rw[wE,show kw cC (e::acc)=Ow.own (acc.length+1) ((e::acc).flatMap cC) from rfl,ld (hC:=c1),hb,ba,yU (show acc.length+1≤1000000 by simp at ha;omega),bh];rfl
variable (n m:Nat)(s:ByteArray)(a b:Int)(z:Int)(acc:List EvV)
theorem Ee(h1:b<(s.size:Int))(h0:0≤b)(h2:bB s b.toNat≠10):dL B LL C1 n (m+1) s a z (kw cC acc) b=dL B LL C1 n m s a z (kw cC acc) (IntKind.wrap .i64 (b+1)):=by
 have hb:(bB s b.toNat !=10)=true:=ze5.2 h2;cases acc with
 |nil=>rw[show kw cC []=Ow.nil from rfl,ji,za1 h1,be,za1 ⟨h0,by omega⟩,bh,hb,be]
 |cons e acc=>rw[show kw cC (e::acc)=Ow.own (acc.length+1) ((e::acc).flatMap cC) from rfl,jj,za1 h1,be,za1 ⟨h0,by omega⟩,bh,hb,be]
theorem Ef(h1:b=(s.size:Int)):dL B LL C1 n (m+1) s a z (kw cC acc) b=some (.tup [AX cC acc,.int .i64 a,.int .i64 28]):=by
 have hb:(b==(s.size:Int))=true:=by rw[h1];simp
 cases acc with
 |nil=>rw[show kw cC []=Ow.nil from rfl,ji,za2 (by omega),ba,hb,be];rfl
 |cons e acc=>rw[show kw cC (e::acc)=Ow.own (acc.length+1) ((e::acc).flatMap cC) from rfl,jj,za2 (by omega),ba,hb,be];rfl
theorem Eg(h1:b<(s.size:Int))(h0:0≤a)(h3:a≤b)(h2:bB s b.toNat=10)(ha:acc.length<1000)(q:Int×Nat×EvV)(hB:B 129 [.int .i64 z,.str (ByteArray.extract s (Int.toNat a) (Int.toNat b))]=some (HD q)):
  dL B LL C1 n (m+1) s a z (kw cC acc) b=Ks B n s a b acc q:=by
 have hb:(bB s b.toNat !=10)=false:=bne_eq_false_iff_eq.2 h2;have he:(b==(s.size:Int))=false:=beq_eq_false_iff_ne.2 (by omega);have e1:decide (0≤b∧Int.toNat b<s.size)=true:=za1 ⟨by omega,by omega⟩;have e2:decide (0≤a∧a≤b∧b≤(s.size:Int))=true:=za1 ⟨by omega,by omega,by omega⟩;unfold Ks;cases acc with
 |nil=>
  rw[show kw cC []=Ow.nil from rfl,ji,za1 h1,be,e1,bh,hb,ba,he,ba,e2,bh,hB,bf];show bo (q.1==0) _ _=_;cases (q.1==0)<;>rfl
 |cons e acc=>
  have hn:(((acc.length+1:Nat):Int)==1000)=false:=beq_eq_false_iff_ne.2 (by simp at ha;omega);rw[show kw cC (e::acc)=Ow.own (acc.length+1) ((e::acc).flatMap cC) from rfl,jj,za1 h1,be,e1,bh,hb,ba,he,ba,e2,bh,hB,bf];show bo (q.1==0) (bo (((acc.length+1:Nat):Int)==1000) _ _) _=_;rw[hn,ba];cases (q.1==0)<;>rfl
end
theorem N2(p q:By)(c:UInt8)(r:By):p++(q++[c])++r=p++q++c::r:=by simp
theorem N3{B:FuncId→List D→Option D}(h129:∀(s:By) (z:Nat),s.length≤90000→z<16777213→B 129 [.int .i64 (z:Int),SB s]=some (HD (ee z s)))(n:Nat)(pre:By)(z:Nat)(hz:z<16777213)(acc:List EvV)(ha:acc.length<1000):∀(r q:By) (m:Nat),(pre++q++r).length≤90000→r.length<m→
  dL B LL C1 n m (bs (pre++q++r)) (pre.length:Int) (z:Int) (kw cC acc) ((pre++q).length:Int)=
   if(bj 10 r).2.2=true then Ks B n (bs (pre++q++r)) (pre.length:Int) ((pre.length+q.length+(bj 10 r).1.length:Nat):Int) acc (ee z (q++(bj 10 r).1)) else some (.tup [AX cC acc,.int .i64 (pre.length:Int),.int .i64 28]):=by
 intro r
 induction r with
 |nil=>
  intro q m hl hm;obtain⟨m,rfl⟩:=bx hm;rw[Ef _ _ _ _ _ _ _ (by rw[bm];simp)];rfl
 |cons c r ih=>
  intro q m hl hm;obtain⟨m,rfl⟩:=bx hm;have hl2:=hl;simp only[za6,za7] at hl2;have hat:bB (bs (pre++q++c::r)) (Int.toNat ((pre++q).length:Int))=(c.toNat:Int):=wM (pre++q) c r;by_cases hc:c=10
  ·subst hc;have hx:ByteArray.extract (bs (pre++q++10::r)) (Int.toNat (pre.length:Int)) (Int.toNat ((pre++q).length:Int))=bs q:=by
    rw[gZ,za3,za3,List.take_left,List.drop_left]
   rw[Eg _ _ _ _ _ _ _ (by rw[bm];simp;omega) (by omega) (by simp;omega) (by rw[hat];rfl) ha (ee z q) (by rw[hx];exact h129 q z (by omega) hz)];show _=if(bj 10 (10::r)).2.2=true then _ else _
   have e1:bj 10 (10::r)=([],r,true):=by rw[bj];rfl
   rw[e1,if_pos rfl,zb6,za6];rfl
  ·have ih:=ih (q++[c]) m (by rw[N2];exact hl) (by simp at hm;omega);rw[N2] at ih;have e2:bj 10 (c::r)=(c::(bj 10 r).1,(bj 10 r).2.1,(bj 10 r).2.2):=by
    rw[bj,if_neg (by simpa using hc)]
   rw[Ee _ _ _ _ _ _ _ (by rw[bm];simp;omega) (by omega) (by rw[hat];intro e;exact hc (UInt8.toNat_inj.1 (show c.toNat=(10:UInt8).toNat by show c.toNat=10;omega))),bS (by simp;omega),
    show((pre++q).length:Int)+1=((pre++(q++[c])).length:Int) by simp;omega,ih,e2]
   have e3:pre.length+(q++[c]).length+(bj 10 r).1.length=pre.length+q.length+(c::(bj 10 r).1).length:=by simp;omega
   rw[e3,show q++[c]++(bj 10 r).1=q++c::(bj 10 r).1 by simp]
theorem PN{B:FuncId→List D→Option D}(n:Nat)(s:ByteArray)(acc:List EvV)(a z:Int):gN B LL C1 (n+1) s (kw cC acc) a z=bo (decide (a<(s.size:Int))) (dL B LL C1 n LL s a z (kw cC acc) a) (some (.tup [AX cC acc,.int .i64 a,.int .i64 0])):=by
 cases acc with
 |nil=>exact wP ..
 |cons e acc=>exact wQ ..
theorem PO{B:FuncId→List D→Option D}(h129:∀(s:By) (z:Nat),s.length≤90000→z<16777213→B 129 [.int .i64 (z:Int),SB s]=some (HD (ee z s))):∀(N:Nat) (pre r:By) (z:Nat) (acc:List EvV) (fu:Nat),(pre++r).length≤7000→r.length<8*N→r.length<fu→z<16777213→acc.length*8≤pre.length→
  gN B LL C1 fu (bs (pre++r)) (kw cC acc) (pre.length:Int) (z:Int)=some (.tup [AX cC (acc++(qX N r pre.length z).1),.int .i64 ((qX N r pre.length z).2.1:Int),.int .i64 (qX N r pre.length z).2.2.2]):=by
 intro N
 induction N with
 |zero=>intro pre r z acc fu _ h;omega
 |succ N ih=>
  intro pre r z acc fu hl hr hf hz ha;obtain⟨fu,rfl⟩:=bx hf;have hl2:=hl;rw[za6] at hl2;rw[PN,bm,qX];by_cases h0:r=[]
  ·subst h0;rw[zb6,ng,ba,if_pos rfl,zb6]
  ·have hp:0<r.length:=List.length_pos_iff.2 h0;have hi:=N3 (B:=B) h129 fu pre z hz acc (by omega) r [] LL (by rw[zb6];omega) (by unfold LL;omega);rw[zb6] at hi;rw[if_neg h0,za1 (show(pre.length:Int)<(((pre++r).length:Nat):Int) by rw[za6];omega),be,hi];by_cases hw:(bj 10 r).2.2=true
   ·have hcl:=(dM 10 r).2.2 hw;rw[if_pos hw,if_pos hw,zb7];by_cases hz0:(ee z (bj 10 r).1).1=0
    ·have hll:=qS hz0;have l2:=(uB hz0).2.1;have er:pre++r=pre++((bj 10 r).1++[10])++(bj 10 r).2.1:=by
      rw[za8,za8];exact congrArg (pre++·) (lK hw)
     have ea:(pre++((bj 10 r).1++[10])).length=pre.length+(bj 10 r).1.length+1:=by simp;omega
     have ih:=ih (pre++((bj 10 r).1++[10])) (bj 10 r).2.1 (ee z (bj 10 r).1).2.1 (acc++[(ee z (bj 10 r).1).2.2]) fu (by rw[←er];exact hl) (by omega) (by omega) (by rw[l2];exact kD _ z hz) (by rw[ea,za6,zb4];omega);rw[←er,ea,za8] at ih;rw[if_pos hz0,Kt _ _ _ _ _ _ hz0 (by omega),bS (by simp;omega),show((pre.length+([]:By).length+(bj 10 r).1.length:Nat):Int)+1=((pre.length+(bj 10 r).1.length+1:Nat):Int) by simp];exact ih
    ·rw[if_neg hz0,GS _ _ _ _ _ _ hz0,zb6]
   ·rw[if_neg hw,if_neg hw,zb6]
def fa129:Fam:=⟨129,Ln,fun x=>[.int .i64 (x.1.2:Int),SB x.1.1],fun x=>HD (ee x.1.2 x.1.1)⟩
theorem yV:fa129.Good:=⟨fun x=>NP x.1.1 x.1.2 x.2.2 x.2.1,fun i j e=>by
 have e:[D.int .i64 (i.1.2:Int),SB i.1.1]=[D.int .i64 (j.1.2:Int),SB j.1.1]:=e;simp only[zc5,and_true,D.int.injEq,D.str.injEq,true_and] at e;rw[show i=j from Subtype.ext (Prod.ext (hN e.2) (by omega))]⟩
theorem N4(l:By)(hl:l.length≤7000):bR 50 [SB l] (w7 l):=by
 obtain⟨B,hB,e1,_⟩:=eL [fa129] ⟨yV,trivial⟩ rfl;refine dG hB Tryz.func50 (ord:=O0) (N:=Nc) (by kernel_rfl) ((JZ _ _ _ _).trans ?_);rw[bm,za2 (by omega),ba];exact PO (B:=B) (fun s z h1 h2=>e1 ⟨(s,z),h1,h2⟩) 1000 [] l 0 [] LL (by simpa using hl) (by omega) (by unfold LL;omega) (by decide) (by simp)
def yW(l:By)(e:EvV):Int:=fO [(bG l).2.2.2,lg e]
def Bx(l:By)(e:EvV):By:=if yW l e=0 then l++jB (bG l).2.2.1 e else[]
theorem qT(l:By)(hl:l.length≤7000):(∀e∈(bG l).1,e.Ok)∧8*(bG l).1.length≤l.length∧(bG l).2.2.1=qR 0 (bG l).1∧(bG l).2.2.1<16777213∧((bG l).2.2.2=0→l=mN 0 (bG l).1):=by
 obtain⟨k1,k2,k3,k4,k5⟩:=Eb 1000 l 0 0 (by omega) (by decide);exact⟨k1,k2,k3,k4,k5 (by omega)⟩
theorem Qz{γ:Type}(a b c:D)(k:List D→Option γ):fK (.agg [a,b,c]) 3 k=k [a,b,c]:=rfl
theorem yX{a b:Int}(h:fO [a,b]=0):a=0∧b=0:=fstL_z2.1 h
theorem N5(f g:Bool)(l:By)(e:EvV)(hl:l.length≤7000)(he:e.Fit):bR 58 [SB l,.agg (gw f g e)] (.tup [SB (Bx l e),.int .i64 (yW l e)]):=by
 obtain⟨k1,k2,k3,k4,k5⟩:=qT l hl;have o43:=Np f g e he.ns (fun s hs=>zb1 (he.n1 s hs) (by decide)) he.vs (zb1 he.t (by decide));by_cases hz:yW l e=0
 ·obtain⟨z1,z2⟩:=yX hz;have ho:=D8 z2;have hr:=Af (bG l).2.2.1 ho;obtain⟨B,hB,e1,e2,e3,e4,e5,e6,_⟩:=eL [one 59 [SB l] (w7 l),one 43 [.agg (gw f g e)] (.int .i64 (lg e)),fa87,one 143 [SB l] (.tup [AX cC (bG l).1,Kq (bG l).2.1 (bG l).2.2.1 (bG l).2.2.2]),one 140 [.agg (gw f g e),.int .i64 ((bG l).2.2.1:Int)] (.tup [SB (jB (bG l).2.2.1 e),.int .i64 (bV (bG l).2.2.1 (cx e):Int)]),fa119]
   ⟨bg (GR l hl),bg o43,kx,bg (HG l hl),bg (NW f g e ho _ k4),jg,trivial⟩ rfl
  have g1:B 59 [.str (bs l)]=some (w7 l):=e1 ();have g2:B 43 [.agg [.int .i64 e.n,.str (bs e.k),.slc f e.ns.length (e.ns.map SB),.slc g e.vs.length (b9 e.vs),.str (bs e.t)]]=some (.int .i64 (lg e)):=e2 ();have g3:∀x y:Int,B 87 [.slc true 2 [.int .i64 x,.int .i64 y]]=some (.int .i64 (fO [x,y])):=fun x y=>e3 ⟨[x,y],by simp⟩;have g4:B 143 [.str (bs l)]=some (.tup [AX cC (bG l).1,Kq (bG l).2.1 (bG l).2.2.1 (bG l).2.2.2]):=e4 ();have g5:B 140 [.agg [.int .i64 e.n,.str (bs e.k),.slc f e.ns.length (e.ns.map SB),.slc g e.vs.length (b9 e.vs),.str (bs e.t)],.int .i64 ((bG l).2.2.1:Int)]=some (.tup [SB (jB (bG l).2.2.1 e),.int .i64 (bV (bG l).2.2.1 (cx e):Int)]):=e5 ();have g6:∀(b:Bool) (x:Int),B 119 [.bool b,.int .i64 x]=some (.int .i64 (bo b x 0)):=fun b x=>e6 (b,x);refine dG hB Tryz.func58 (ord:=O0) (N:=N0) (by kernel_rfl) ((DJ B LL C1 (bs l) e.n (bs e.k) f _ _ g _ _ (bs e.t)).trans ?_);unfold w7 Kq at*;rw[ms] at g1 g4;rw[g1,bf,GK,En,cW,Eo,bp,Ep,bp,g2,bf,bp,g3,bf,bp,show fO [(bG l).2.2.2,lg e]=0 from hz,show((0:Int) !=0)=false from rfl,ba,g4,bf,AY,AZ,cW,A6,Qz,En,bp,Eo,bp,Ep,bp,g5,bf,AY,AZ,bE,A6,bp,g6,bf,bp,show(((bG l).1.length:Int)==1000)=false by(rw[beq_eq_false_iff_ne];omega),ba,bm,bm,bS (by omega),za2 (by omega),g6,bf,bp,ba,g3,bf,bp,
   show(fO [0,0] !=0)=false from rfl,ba,dY,kj (by omega)]
  unfold Bx;rw[if_pos hz,hz]
 ·obtain⟨B,hB,e1,e2,e3,_⟩:=eL [one 59 [SB l] (w7 l),one 43 [.agg (gw f g e)] (.int .i64 (lg e)),fa87] ⟨bg (GR l hl),bg o43,kx,trivial⟩ rfl;have g1:B 59 [.str (bs l)]=some (w7 l):=e1 ();have g2:B 43 [.agg [.int .i64 e.n,.str (bs e.k),.slc f e.ns.length (e.ns.map SB),.slc g e.vs.length (b9 e.vs),.str (bs e.t)]]=some (.int .i64 (lg e)):=e2 ();have g3:∀x y:Int,B 87 [.slc true 2 [.int .i64 x,.int .i64 y]]=some (.int .i64 (fO [x,y])):=fun x y=>e3 ⟨[x,y],by simp⟩;refine dG hB Tryz.func58 (ord:=O0) (N:=N0) (by kernel_rfl) ((DJ B LL C1 (bs l) e.n (bs e.k) f _ _ g _ _ (bs e.t)).trans ?_);unfold w7 at*;rw[ms] at g1;rw[g1,bf,GK,En,cW,Eo,bp,Ep,bp,g2,bf,bp,g3,bf,bp,show(fO [(bG l).2.2.2,lg e] !=0)=true from ze5.2 hz,be];unfold Bx;rw[if_neg hz];rfl
theorem HH:∀l:List EvV,(l.flatMap cC).length=l.length*5
 |[]=>rfl
 |e::l=>by
  rw[List.flatMap_cons,za6,HH l,za7];show 5+_=_;omega
theorem N6:∀l:List EvV,List.all (l.flatMap cC) D.one=true
 |[]=>rfl
 |e::l=>by
  rw[List.flatMap_cons,List.all_append,N6 l];rfl
theorem HI(l:List EvV):l.flatMap cC=(l.map iE).flatMap d4:=by
 rw[List.flatMap_map];rfl
theorem Eh(l:By)(e:EvV)(hl:l.length≤7000)(hz:yW l e=0):mN 0 ((bG l).1++[e])=Bx l e:=by
 obtain⟨k1,k2,k3,k4,k5⟩:=qT l hl;have k6:=k5 (yX hz).1;unfold Bx;rw[if_pos hz,tc,←k3];exact congrArg (·++jB (bG l).2.2.1 e) k6.symm
def Ku(e:EvV):GJ:=((e.ns.isEmpty,e.vs.isEmpty),iE e)
theorem QA(f g:Bool)(e:EvV)(l:By):bR 9 [.agg (gw f g e),SB l] (.bool true):=by
 have o42:=PA true [((f,g),e)] (by simp);simp only[List.all_cons,List.all_nil,Bool.and_true,zb4,List.flatMap_cons,List.flatMap_nil,zb6] at o42;rw[show decide (1≤24)=true from rfl,Bool.and_true] at o42;by_cases hh:gu e=true
 ·by_cases hl:l.length≤1500
  ·have hf:=Bg hh;obtain⟨k1,k2,k3,k4,k5⟩:=qT l (by omega);have o44:=Nt f g e hf.ns hf.vs (zb1 hf.t (by decide));have o54:=PD (bG l).1.isEmpty (bG l).1.isEmpty ((bG l).1.map Ku) (by rw[zc2];omega) (fun z hz=>by
    obtain⟨x,hx,rfl⟩:=zd6.1 hz;have h1:=(k1 x hx).ns;have h2:=(k1 x hx).vs;have h3:=gO x.k;exact⟨by show x.ns.length≤1000;omega,by show x.vs.length≤1000;omega⟩)
   rw[zc2,List.map_map,List.map_map,show(gA ∘ Ku)=iE from rfl,show(gB ∘ Ku)=iE from rfl,←HI] at o54;have fin:∀(B:FuncId→List D→Option D),gY B→B 42 [.slc true 1 [.int .i64 e.n,.str (bs e.k),.slc f e.ns.length (e.ns.map SB),.slc g e.vs.length (b9 e.vs),.str (bs e.t)]]=some (.bool true)→B 15 []=some (.bool true)→B 58 [.str (bs l),.agg [.int .i64 e.n,.str (bs e.k),.slc f e.ns.length (e.ns.map SB),.slc g e.vs.length (b9 e.vs),.str (bs e.t)]]=some (.tup [SB (Bx l e),.int .i64 (yW l e)])→
     B 59 [.str (bs l)]=some (w7 l)→B 50 [.str (bs l)]=some (w7 l)→B 44 [.agg [.int .i64 e.n,.str (bs e.k),.slc f e.ns.length (e.ns.map SB),.slc g e.vs.length (b9 e.vs),.str (bs e.t)]]=some (.int .i64 (lg e))→B 34 [.slc true 2 [.int .i64 (bG l).2.2.2,.int .i64 (lg e)]]=some (.int .i64 (yW l e))→
     B 54 [.slc (bG l).1.isEmpty (bG l).1.length ((bG l).1.flatMap cC),.slc (bG l).1.isEmpty (bG l).1.length ((bG l).1.flatMap cC)]=some (.bool true)→(yW l e=0→B 57 [.slc false ((bG l).1.length+1) ((bG l).1.flatMap cC++[.int .i64 e.n,.str (bs e.k),.slc f e.ns.length (e.ns.map SB),.slc g e.vs.length (b9 e.vs),.str (bs e.t)])]=some (SB (Bx l e)))→
     bR 9 [.agg (gw f g e),SB l] (.bool true):=by
    intro B hB g1 g2 g3 g4 g5 g6 g7 g8 g9;refine dG hB Tryz.func9 (ord:=O9) (N:=N9) (by kernel_rfl) ((DK B LL C1 e.n (bs e.k) f _ _ g _ _ (bs e.t) (bs l)).trans ?_);have g4:B 59 [.str (bs l)]=some (.tup [.slc (bG l).1.isEmpty (bG l).1.length ((bG l).1.flatMap cC),.int .i64 ((bG l).2.1:Int),.int .i64 (bG l).2.2.2]):=by rw[g4];unfold w7;rw[ms]
    have g5:B 50 [.str (bs l)]=some (.tup [.slc (bG l).1.isEmpty (bG l).1.length ((bG l).1.flatMap cC),.int .i64 ((bG l).2.1:Int),.int .i64 (bG l).2.2.2]):=by rw[g5];unfold w7;rw[ms]
    rw[g1,bf,bD,Bool.not_true,ba,bm,za2 (by omega),ba,GA (hC:=c1),g3,bf,AY,AZ,bE,A6,bp,g4,bf,GK,En,cW,Eo,bp,Ep,bp,g5,bf,GK,En,cW,Eo,bp,Ep,bp,g6,bf,bp,g7,bf,bp];by_cases hz:yW l e=0
    ·rw[show(yW l e==0)=true by rw[hz];rfl,be,HH,za1 rfl,bh,N6,bh];by_cases hn:(bG l).1.length=0
     ·have h0:(bG l).1=[]:=List.eq_nil_of_length_eq_zero hn;have g9:=g9 hz;rw[h0] at g9;have g9:B 57 [.slc false 1 [.int .i64 e.n,.str (bs e.k),.slc f e.ns.length (e.ns.map SB),.slc g e.vs.length (b9 e.vs),.str (bs e.t)]]=some (SB (Bx l e)):=g9;rw[za1 hn,be,g9,bf,bE];simp only[ze3,be,g8,bf,bD,g2]
     ·rw[za2 hn,ba,Nat.zero_add,za1 (show 0<(bG l).1.length∧0=0∧(bG l).1.length*88≤cg∧(bG l).1.length≤4611686018427387903 from⟨by omega,rfl,by rw[show cg=140737488355328 from rfl];omega,by omega⟩),bh,yU (show(bG l).1.length≤1000000 by omega),bh,g9 hz,bf,bE];simp only[ze3,be,g8,bf,bD,g2]
    ·have hv:Bx l e=[]:=by unfold Bx;rw[if_neg hz]
     rw[show(yW l e==0)=false from beq_eq_false_iff_ne.2 hz,ba,hv,j5];simp only[ze3,be,g8,bf,bD,g2]
   rw[hh] at o42;by_cases hz:yW l e=0
   ·have o57:=PL false ((bG l).1.map iE++[((f,g),e)]) (by simp;omega) (fun x hx=>by
     rcases za9.1 hx with hx|hx
     ·obtain⟨y,hy,rfl⟩:=zd6.1 hx;exact k1 y hy
     ·rw[zd1.1 hx];exact D8 (yX hz).2)
    have em:((bG l).1.map iE++[((f,g),e)]).map (·.2)=(bG l).1++[e]:=by
     rw[List.map_append,List.map_map];show List.map (fun x=>x) _++_=_;rw[List.map_id'];rfl
    rw[em,Eh l e (by omega) hz,za6,zc2,zb4,zd5,←HI] at o57;obtain⟨B,hB,e1,e2,e3,e4,e5,e6,e7,e8,e9,_⟩:=eL [one 42 [.slc true 1 (d4 ((f,g),e))] (.bool true),one 15 [] (.bool true),one 58 [SB l,.agg (gw f g e)] (.tup [SB (Bx l e),.int .i64 (yW l e)]),one 59 [SB l] (w7 l),one 50 [SB l] (w7 l),one 44 [.agg (gw f g e)] (.int .i64 (lg e)),one 34 [.slc true 2 [.int .i64 (bG l).2.2.2,.int .i64 (lg e)]] (.int .i64 (yW l e)),
     one 54 [.slc (bG l).1.isEmpty (bG l).1.length ((bG l).1.flatMap cC),.slc (bG l).1.isEmpty (bG l).1.length ((bG l).1.flatMap cC)] (.bool true),one 57 [.slc false ((bG l).1.length+1) ((bG l).1.flatMap cC++[((f,g),e)].flatMap d4)] (SB (Bx l e))]
     ⟨bg o42,bg FA,bg (N5 f g l e (by omega) hf),bg (GR l (by omega)),bg (N4 l (by omega)),bg o44,bg (MN _ _),bg o54,bg o57,trivial⟩ rfl
    exact fin B hB (e1 ()) (e2 ()) (e3 ()) (e4 ()) (e5 ()) (e6 ()) (e7 ()) (e8 ()) fun _=>e9 ()
   ·obtain⟨B,hB,e1,e2,e3,e4,e5,e6,e7,e8,_⟩:=eL [one 42 [.slc true 1 (d4 ((f,g),e))] (.bool true),one 15 [] (.bool true),one 58 [SB l,.agg (gw f g e)] (.tup [SB (Bx l e),.int .i64 (yW l e)]),one 59 [SB l] (w7 l),one 50 [SB l] (w7 l),one 44 [.agg (gw f g e)] (.int .i64 (lg e)),one 34 [.slc true 2 [.int .i64 (bG l).2.2.2,.int .i64 (lg e)]] (.int .i64 (yW l e)),
     one 54 [.slc (bG l).1.isEmpty (bG l).1.length ((bG l).1.flatMap cC),.slc (bG l).1.isEmpty (bG l).1.length ((bG l).1.flatMap cC)] (.bool true)]
     ⟨bg o42,bg FA,bg (N5 f g l e (by omega) hf),bg (GR l (by omega)),bg (N4 l (by omega)),bg o44,bg (MN _ _),bg o54,trivial⟩ rfl
    exact fin B hB (e1 ()) (e2 ()) (e3 ()) (e4 ()) (e5 ()) (e6 ()) (e7 ()) (e8 ()) fun h=>absurd h hz
  ·obtain⟨B,hB,e1,e2,_⟩:=eL [one 42 [.slc true 1 (d4 ((f,g),e))] (.bool (gu e)),one 15 [] (.bool true)] ⟨bg o42,bg FA,trivial⟩ rfl;have g1:B 42 [.slc true 1 [.int .i64 e.n,.str (bs e.k),.slc f e.ns.length (e.ns.map SB),.slc g e.vs.length (b9 e.vs),.str (bs e.t)]]=some (.bool (gu e)):=e1 ();refine dG hB Tryz.func9 (ord:=O9) (N:=N9) (by kernel_rfl) ((DK B LL C1 e.n (bs e.k) f _ _ g _ _ (bs e.t) (bs l)).trans ?_);rw[g1,bf,bD,hh,Bool.not_true,ba,bm,za1 (by omega),be];exact ct (e2 ()) rfl
 ·obtain⟨B,hB,e1,e2,_⟩:=eL [one 42 [.slc true 1 (d4 ((f,g),e))] (.bool (gu e)),one 15 [] (.bool true)] ⟨bg o42,bg FA,trivial⟩ rfl;have g1:B 42 [.slc true 1 [.int .i64 e.n,.str (bs e.k),.slc f e.ns.length (e.ns.map SB),.slc g e.vs.length (b9 e.vs),.str (bs e.t)]]=some (.bool (gu e)):=e1 ();refine dG hB Tryz.func9 (ord:=O9) (N:=N9) (by kernel_rfl) ((DK B LL C1 e.n (bs e.k) f _ _ g _ _ (bs e.t) (bs l)).trans ?_);rw[g1,bf,bD,show gu e=false by simpa using hh,Bool.not_false,be];exact ct (e2 ()) rfl
end Go.Pd
end
