import Derived.Test.YtmhbhlbnlmbhlaaGreatDoorCards
import Derived.Test.YtmhbhlbnlmbhlaaGreatDoorTie
import Derived.Test.YtmhbhlbnlmbhlaaGreatDoorCrA
import Derived.Test.YtmhbhlbnlmbhlaaGreatDoorPdFf
import Derived.WalkKit
import Derived.ProofKit
import Derived.OpenShut
import Derived.FnData
import Derived.Deep.DeepHandedRow
import Derived.Lib.LaidTab
import Derived.Lib.ItoaNum
import Derived.Test.YtmhbhlbnlmbhlaaGreatDoorCrE
section
namespace Go.Proofs.YtmhbhlbnlmbhlaaGreatDoor
open Go Go.Pd Go.ChangeShapes Go.WideShapes Go.ChangeAt Go.RowKit
set_option maxRecDepth 100000
theorem own:ownKnob Tryz.prog.godebug=none:=by kernel_rfl
theorem NM:true=Tryz.pinned.checked.prog.looks []:=by kernel_rfl
theorem RQ:Tryz.pinned.checked.prog.mainIs=some (true,"4ff72d5a0fb39f55855ba6dd7050c1bf8163202a223b41d630507daed42dba24".toList):=by kernel_rfl
theorem JY:laidOutB Tryz.prog=true:=by kernel_rfl
def Gp(d:DataW Unit):Array Value:=match d with
 | .agg l=>(l.map fun d=>match d with
  | .lit (.int k x)=>Value.int k x
  | .lit (.string s)=>Value.string ⟨s.toArray⟩
  |_=>Value.bool false).toArray
 |_=> #[]
noncomputable def Gq(name:String)(d:DataW Unit)(w:World):World:=match Tryz.prog.globalNamed name with
 |some b=>{w with heap:=w.heap.modify b fun
  | .cells _ t frozen=> .cells (Gp d) t frozen
  |o=>o}
 |none=>w
theorem vq{H:Type}{enc:TypeId×Value→H}{P:Program}{w:World}{base:Nat}{sp:Nat→Bool}{held:Bool}{fuel:Nat}{t e:TypeId}{n:Nat}{cs:List Value}{zs:List (List UInt8)}{p:List MemPlace}
  (ht:P.underlying t=some (.array n e)) (he:P.underlying e=some .string) (hce:P.cellsOf e=1) (hct:P.cellsOf t=n)
  (h:DataW.trod enc P w base sp held fuel t cs=some (.agg (zs.map fun z=> .lit (.string z)),p)):cs=zs.map fun z=>Value.string ⟨z.toArray⟩:=by
 cases fuel with
 |zero=>simp[DataW.trod] at h
 |succ fuel=>
  simp only[DataW.trod,ht,hce,hct,Nat.mul_one] at h;split at h
  ·rename_i hl;obtain⟨xs,hm,hx⟩:=zd7.1 h;have hxs:xs.map (·.1)=zs.map fun z=>(DataW.lit (.string z):DataW H):=by
    have:=congrArg Prod.fst hx;simpa using this
   have hxl:xs.length=n:=by simpa using Lib.mapM_length hm
   have hzl:zs.length=n:=by
    have:=congrArg List.length hxs;simp at this;omega
   apply List.ext_getElem?;intro i;by_cases hi:i<n
   ·obtain⟨b,hb,hf⟩:=Lib.mapM_at hm i i (by simp[hi]);obtain⟨s,hc,rfl,_⟩:=DataW.trod_string he hf;have h1:cs[i]?=some (.string s):=by
     have:=congrArg (·[0]?) hc;simpa [List.getElem?_take,List.getElem?_drop] using this
    have h2:(xs.map (·.1))[i]?=some (DataW.lit (.string s.data.toList):DataW H):=by simp[hb]
    rw[hxs] at h2;simp only[zc3,zd7,DataW.lit.injEq,Lit.string.injEq] at h2;obtain⟨z',hz',e⟩:=h2;simp[h1,hz',e]
   ·rw[zd6 (by omega),zd6 (by simp;omega)]
  ·cases h
theorem l7{P:Program}{w:World}:∀{l:List (String×DataW Unit)} {ps:List MemPlace},DataW.LaidVars P w l ps→∀n d,(n,d)∈l→
  ∃g t cs fuel p,P.globalNamed n=some g∧(P.globals[g]?).map (·.type)=some t∧w.var? P n=some cs∧DataW.trod (fun _=>()) P w 0 (fun _=>true) false fuel t cs.toList=some (d,p)
 |[],_,_,n,d,h=>by cases h
 |(n0,d0)::l,ps,h,n,d,hm=>by
  obtain⟨g,t,cs,fuel,p,q,h1,h2,h3,h4,h5,_⟩:=h;rcases List.mem_cons.1 hm with e|hm
  ·cases e;exact⟨g,t,cs,fuel,p,h1,h2,h3,h4⟩
  ·exact l7 h5 n d hm
def kindZ:List (List UInt8):=[[103,114,101,101,110],[116,101,101],[98,117,110,107,101,114],[119,97,116,101,114],[102,97,105,114,119,97,121],[114,111,117,103,104]]
theorem order0:Tryz.prog.globalNamed "niblick/course.order"=some 0:=by kernel_rfl
theorem pow0:Tryz.prog.globalNamed "internal/strconv.uint64pow10"=some 4:=by kernel_rfl
theorem tE{W:World}{name:String}{g:Nat}{cs:Array Value}(hg:Tryz.prog.globalNamed name=some g)(hv:W.var? Tryz.prog name=some cs){ds:List D}{vs:List Value}(hcs:cs.toList=vs)(hlen:ds.length=vs.length)(hpos:0<ds.length)
  (hrel:∀(j:Nat) (d:D),ds[j]?=some d→∃v,vs[j]?=some v∧d.toV=some v):RelG (fun b=>b<W.heap.size) W (.snap ds 0) g:=by
 have hcell:∀i,W.cell? ⟨g,i,none⟩=vs[i]?:=fun i=>by
  rw[World.var?_cell hg hv i,←hcs,Array.getElem?_toList]
 have hin:g<W.heap.size:=by
  have:=hcell 0;unfold World.cell? at this;refine Classical.byContradiction fun hn=> ?_;rw[zd3 (by simpa using hn),zd5 (by omega)] at this;cases this
 refine⟨RelC.snap ds 0 ⟨g,0,none⟩ (fun j=>(vs[j]?).getD undef) (fun _=>hin) (fun j d hd=> ?_) (fun j d hd=> ?_),fun ds' e=> ?_⟩
 ·obtain⟨v,hv1,hv2⟩:=hrel j d hd;have:=hcell j;rw[show(⟨g,0,none⟩:Addr).add j=⟨g,j,none⟩ by simp[Addr.add];intro h;exact h.symm,this];simp[hv1]
 ·obtain⟨v,hv1,hv2⟩:=hrel j d hd;simp only[hv1,Option.getD_some];exact gF hv2
 ·cases e;refine⟨hin,?_⟩;unfold World.var? at hv;rw[hg] at hv;simp only[Option.bind_some] at hv;split at hv
  ·rename_i c e t hc;cases hv;refine⟨cs,e,t,hc,?_⟩;have:=congrArg List.length hcs;simp at this;omega
  ·cases hv
theorem RR{l:List (String×DataW Unit)}(hl:("niblick/course.order",Rows.laid_niblick_course_order)∈l∧("internal/strconv.uint64pow10",Rows.laid_internal_strconv_uint64pow10)∈l) {W:World} (h:laidMet Tryz.prog l W):Gl ig (fun b=>b<W.heap.size) W:=by
 obtain⟨hl,hl2⟩:=hl;obtain⟨ps,hv,_⟩:=h;have r0:RelG (fun b=>b<W.heap.size) W (.snap FS 0) 0:=by
  obtain⟨g,t,cs,fuel,p,h1,h2,h3,h4⟩:=l7 hv _ _ hl;obtain rfl:=Option.some.inj (order0.symm.trans h1);have ht:∃e,Tryz.prog.underlying t=some (.array 6 e)∧Tryz.prog.underlying e=some .string∧Tryz.prog.cellsOf e=1∧Tryz.prog.cellsOf t=6:=by
   have h5:(Tryz.prog.globals[0]?).map (·.type)=some (((Tryz.prog.globals[0]?).map (·.type)).getD 0):=by kernel_rfl
   obtain rfl:=Option.some.inj (h5.symm.trans h2);refine⟨(match Tryz.prog.underlying (((Tryz.prog.globals[0]?).map (·.type)).getD 0) with|some (.array _ e)=>e|_=>0),?_,?_,?_,?_⟩<;>kernel_rfl
  obtain⟨e,t1,t2,t3,t4⟩:=ht;refine tE order0 h3 (vq (zs:=kindZ) t1 t2 t3 t4 h4) rfl (by decide) fun j d hd=> ?_;have:FS=kindZ.map S:=rfl;rw[this,zc3,zd7] at hd;obtain⟨z,z1,rfl⟩:=hd;exact⟨_,by rw[zc3,z1];rfl,rfl⟩
 have r4:RelG (fun b=>b<W.heap.size) W (.snap powL 0) 4:=by
  obtain⟨g,t,cs,fuel,p,h1,h2,h3,h4⟩:=l7 hv _ _ hl2;obtain rfl:=Option.some.inj (pow0.symm.trans h1);have ht:∃e,Tryz.prog.underlying t=some (.array 20 e)∧Tryz.prog.underlying e=some (.int .u64)∧Tryz.prog.cellsOf e=1∧Tryz.prog.cellsOf t=20:=by
   have h5:(Tryz.prog.globals[4]?).map (·.type)=some (((Tryz.prog.globals[4]?).map (·.type)).getD 0):=by kernel_rfl
   obtain rfl:=Option.some.inj (h5.symm.trans h2);refine⟨(match Tryz.prog.underlying (((Tryz.prog.globals[4]?).map (·.type)).getD 0) with|some (.array _ e)=>e|_=>0),?_,?_,?_,?_⟩<;>kernel_rfl
  obtain⟨e,t1,t2,t3,t4⟩:=ht;have hd:(Rows.laid_internal_strconv_uint64pow10:DataW Unit)=Lib.tabData .u64 Lib.pow10Tab:=by kernel_rfl
  rw[hd] at h4;refine tE pow0 h3 (Lib.cells_of_tab t1 t2 t3 t4 h4) (by simp[powL,Lib.pow10Tab]) (by decide) fun j d hd=> ?_;have:powL=Lib.pow10Tab.map fun z=>D.int .u64 z:=by simp[powL,Lib.pow10Tab]
  rw[this,zc3,zd7] at hd;obtain⟨z,z1,rfl⟩:=hd;exact⟨_,by rw[zc3,z1];rfl,rfl⟩
 intro g d hg;unfold ig at hg;split at hg
 ·cases hg;exact r0
 ·cases hg;exact r4
 ·cases hg
end Go.Proofs.YtmhbhlbnlmbhlaaGreatDoor
end
section
namespace Go.Pd
open Go Go.Proofs Go.RowKit
set_option maxRecDepth 100000
theorem Gr{n:Nat}{c:List D}(h:Ty Tryz.prog (n+2) 23 c):∃p:Pt,c=MU p:=by
 obtain⟨g1,g2,rfl,h1,h2⟩:=sE Tryz.underlying23 rfl h;obtain⟨x,rfl,_⟩:=FQ Tryz.underlying3 h1;obtain⟨y,rfl,_⟩:=FQ Tryz.underlying3 h2;exact⟨(x,y),rfl⟩
theorem Gt{n:Nat}{c:List D}(h:Ty Tryz.prog (n+3) 24 c):∃l:List Pt,c=[.slc false l.length (bJ l)]:=by
 obtain⟨gs,rfl,_,h1⟩:=yU Tryz.underlying24 h;obtain⟨l,h2,h3⟩:=xc MU (p:=Ty Tryz.prog (n+2) 23) (fun d hd=>Gr hd) gs h1;exact⟨l,by rw[h2,h3];rfl⟩
end Go.Pd
end
