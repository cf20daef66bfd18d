import Derived.Test.YtjhoaknnmfifgaaGreatDoorCards
import Derived.Test.YtjhoaknnmfifgaaGreatDoorTie
import Derived.Test.YtjhoaknnmfifgaaGreatDoorUnA
import Derived.Test.YtjhoaknnmfifgaaGreatDoorPdFf
import Derived.WalkKit
import Derived.ProofKit
import Derived.OpenShut
import Derived.FnData
import Derived.Deep.DeepHandedRow
import Derived.Lib.LaidTab
import Derived.Lib.ItoaNum
import Derived.LaidMore
section
namespace Go.Proofs.YtjhoaknnmfifgaaGreatDoor
open Go Go.Pd Go.ChangeShapes Go.WideShapes Go.ChangeAt Go.RowKit
set_option maxRecDepth 100000
theorem own:ownKnob Tryz.prog.godebug=none:=by kernel_rfl
theorem Jv:true=Tryz.pinned.checked.prog.looks []:=by kernel_rfl
theorem MH:Tryz.pinned.checked.prog.mainIs=some (true,"6fd77963fc8f73d9e36bc3de187e9a1e9370ba5596a484581e275bcd2ae2c10c".toList):=by kernel_rfl
theorem FQ:laidOutB Tryz.prog=true:=by kernel_rfl
def Dv(d:DataW Unit):Array Value:=match d with
 | .agg l=>(l.map fun d=>match d with
  | .lit (.int k x)=>Value.int k x
  | .lit (.string s)=>Value.string ⟨s.toArray⟩
  |_=>Value.bool false).toArray
 |_=> #[]
noncomputable def Dw(name:String)(d:DataW Unit)(w:World):World:=match Tryz.prog.globalNamed name with
 |some b=>{w with heap:=w.heap.modify b fun
  | .cells _ t frozen=> .cells (Dv d) t frozen
  |o=>o}
 |none=>w
theorem j4{P:Program}{w:World}:∀{l:List (String×DataW Unit)} {ps:List MemPlace},DataW.LaidVars P w l ps→∀n d,(n,d)∈l→
  ∃g t cs fuel p,P.globalNamed n=some g∧(P.globals[g]?).map (·.type)=some t∧w.var? P n=some cs∧DataW.trod (fun _=>()) P w 0 (fun _=>true) false fuel t cs.toList=some (d,p)
 |[],_,_,n,d,h=>by cases h
 |(n0,d0)::l,ps,h,n,d,hm=>by
  obtain⟨g,t,cs,fuel,p,q,h1,h2,h3,h4,h5,_⟩:=h;rcases List.mem_cons.1 hm with e|hm
  ·cases e;exact⟨g,t,cs,fuel,p,h1,h2,h3,h4⟩
  ·exact j4 h5 n d hm
theorem pow0:Tryz.prog.globalNamed "internal/strconv.uint64pow10"=some 1:=by kernel_rfl
theorem dbr0:Tryz.prog.globalNamed "math/bits.deBruijn64tab"=some 7:=by kernel_rfl
def dbrZ:List Int:=[0,1,56,2,57,49,28,3,61,58,42,50,38,29,17,4,62,47,59,36,45,43,51,22,53,39,33,30,24,18,12,5,63,55,48,27,60,41,37,16,46,35,44,21,52,32,23,11,54,26,40,15,34,20,31,10,25,14,19,9,13,8,7,6]
theorem qk{W:World}{name:String}{g:Nat}{cs:Array Value}(hg:Tryz.prog.globalNamed name=some g)(hv:W.var? Tryz.prog name=some cs){ds:List D}{vs:List Value}(hcs:cs.toList=vs)(hlen:ds.length=vs.length)(hpos:0<ds.length)
  (hrel:∀(j:Nat) (d:D),ds[j]?=some d→∃v,vs[j]?=some v∧d.toV=some v):RelG (fun b=>b<W.heap.size) W (.snap ds 0) g:=by
 have hcell:∀i,W.cell? ⟨g,i,none⟩=vs[i]?:=fun i=>by
  rw[World.var?_cell hg hv i,←hcs,Array.getElem?_toList]
 have hin:g<W.heap.size:=by
  have:=hcell 0;unfold World.cell? at this;refine Classical.byContradiction fun hn=> ?_;rw[zd0 (by simpa using hn),zd2 (by omega)] at this;cases this
 refine⟨RelC.snap ds 0 ⟨g,0,none⟩ (fun j=>(vs[j]?).getD undef) (fun _=>hin) (fun j d hd=> ?_) (fun j d hd=> ?_),fun ds' e=> ?_⟩
 ·obtain⟨v,hv1,hv2⟩:=hrel j d hd;have:=hcell j;rw[show(⟨g,0,none⟩:Addr).add j=⟨g,j,none⟩ by simp[Addr.add];intro h;exact h.symm,this];simp[hv1]
 ·obtain⟨v,hv1,hv2⟩:=hrel j d hd;simp only[hv1,Option.getD_some];exact ew hv2
 ·cases e;refine⟨hin,?_⟩;unfold World.var? at hv;rw[hg] at hv;simp only[Option.bind_some] at hv;split at hv
  ·rename_i c e t hc;cases hv;refine⟨cs,e,t,hc,?_⟩;have:=congrArg List.length hcs;simp at this;omega
  ·cases hv
theorem MI{l:List (String×DataW Unit)}(hl:("internal/strconv.uint64pow10",Rows.laid_internal_strconv_uint64pow10)∈l∧("math/bits.deBruijn64tab",Rows.laid_math_bits_deBruijn64tab)∈l) {W:World} (h:laidMet Tryz.prog l W):Gl je (fun b=>b<W.heap.size) W:=by
 obtain⟨hl,hl2⟩:=hl;obtain⟨ps,hv,_⟩:=h;have r1:RelG (fun b=>b<W.heap.size) W (.snap powL 0) 1:=by
  obtain⟨g,t,cs,fuel,p,h1,h2,h3,h4⟩:=j4 hv _ _ hl;obtain rfl:=Option.some.inj (pow0.symm.trans h1);have ht:∃e,Tryz.prog.underlying t=some (.array 20 e)∧Tryz.prog.underlying e=some (.int .u64)∧Tryz.prog.cellsOf e=1∧Tryz.prog.cellsOf t=20:=by
   have h5:(Tryz.prog.globals[1]?).map (·.type)=some (((Tryz.prog.globals[1]?).map (·.type)).getD 0):=by kernel_rfl
   obtain rfl:=Option.some.inj (h5.symm.trans h2);refine⟨(match Tryz.prog.underlying (((Tryz.prog.globals[1]?).map (·.type)).getD 0) with|some (.array _ e)=>e|_=>0),?_,?_,?_,?_⟩<;>kernel_rfl
  obtain⟨e,t1,t2,t3,t4⟩:=ht;have hd:(Rows.laid_internal_strconv_uint64pow10:DataW Unit)=Lib.tabData .u64 Lib.pow10Tab:=by kernel_rfl
  rw[hd] at h4;refine qk pow0 h3 (Lib.cells_of_tab t1 t2 t3 t4 h4) (by simp[powL,Lib.pow10Tab]) (by decide) fun j d hd=> ?_;have:powL=Lib.pow10Tab.map fun z=>D.int .u64 z:=by simp[powL,Lib.pow10Tab]
  rw[this,zc3,zd4] at hd;obtain⟨z,z1,rfl⟩:=hd;exact⟨_,by rw[zc3,z1];rfl,rfl⟩
 have r7:RelG (fun b=>b<W.heap.size) W (.snap Ih 0) 7:=by
  obtain⟨g,t,cs,fuel,p,h1,h2,h3,h4⟩:=j4 hv _ _ hl2;obtain rfl:=Option.some.inj (dbr0.symm.trans h1);have ht:∃e,Tryz.prog.underlying t=some (.array 64 e)∧Tryz.prog.underlying e=some (.int .u8)∧Tryz.prog.cellsOf e=1∧Tryz.prog.cellsOf t=64:=by
   have h5:(Tryz.prog.globals[7]?).map (·.type)=some (((Tryz.prog.globals[7]?).map (·.type)).getD 0):=by kernel_rfl
   obtain rfl:=Option.some.inj (h5.symm.trans h2);refine⟨(match Tryz.prog.underlying (((Tryz.prog.globals[7]?).map (·.type)).getD 0) with|some (.array _ e)=>e|_=>0),?_,?_,?_,?_⟩<;>kernel_rfl
  obtain⟨e,t1,t2,t3,t4⟩:=ht;have hd:(Rows.laid_math_bits_deBruijn64tab:DataW Unit)=Lib.tabData .u8 dbrZ:=by kernel_rfl
  rw[hd] at h4;have hz:Ih=dbrZ.map fun z=>D.int .u8 z:=by kernel_rfl
  refine qk dbr0 h3 (Lib.cells_of_tab t1 t2 t3 t4 h4) (by rw[hz,zc2,zc2]) (by decide) fun j d hd=> ?_;rw[hz,zc3,zd4] at hd;obtain⟨z,z1,rfl⟩:=hd;exact⟨_,by rw[zc3,z1];rfl,rfl⟩
 intro g d hg;unfold je at hg;split at hg
 ·cases hg;exact r1
 ·cases hg;exact r7
 ·cases hg
noncomputable def nc(os:Os):World:=Dw "unicode/utf8.first" Rows.laid_unicode_utf8_first (World.doorLaid Tryz.prog 72 os)
end Go.Proofs.YtjhoaknnmfifgaaGreatDoor
end
