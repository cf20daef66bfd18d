import Derived.Test.YtjhoaknnmfifgaaGreatDoorPdFf
import Derived.SizedLaws
import Derived.Test.YtjhoaknnmfifgaaGreatDoorUnA
import Derived.Test.YtjhoaknnmfifgaaGreatDoorUnH
section
namespace Go.Pd
open Go.RowKit Go.ChangeShapes Go.WideShapes
theorem pj{I:Nat→Prop}{w:World}{P:Program}{H:Type}{enc:TypeId×Value→H}{base:Nat}{spare:Nat→Bool}{held:Bool}{t e:TypeId}{fs:Array Field}{j:Nat}{f:Field}{v:Value}{dd:DataW H}{ps:List MemPlace}
  (hu:P.underlying t=some (.struct fs)) (hf:fs[j]?=some f) (hu2:P.underlying f.type=some (.slice e)) (hc:P.cellsOf f.type=1)
  (h:DataW.Trod enc P w base spare held t v dd ps) (hw:∀k∈dd.weights P t,k≤reachBytes) {cs:List D} {g:Bool} {m:Nat} {c:List D} (hr:RelC I w (.agg cs) v) (hcs:cs[f.offset]?=some (.slc g m c)):m*P.bytesOf e≤reachBytes:=by
 obtain⟨fuel,hm⟩:=h;obtain⟨xs,n',_,hx,_,hxl,hget⟩:=DataW.trod_struct hu hm;have hjlt:j<fs.size:=(zb7.1 hf).1;have h1:=hget j f hf;cases hr with
 |agg _ vs hl hrr=>
  have hlt:f.offset<vs.size:=by
   have:=(zb8.1 hcs).1;omega
  have hv1:(((Value.agg vs).cells).toList.drop f.offset).take (P.cellsOf f.type)=[vs[f.offset]]:=by
   rw[hc];show(vs.toList.drop f.offset).take 1=_;rw[List.drop_eq_getElem_cons (by simpa using hlt)];simp
  rw[hv1,zc9 (by omega)] at h1;have hrel:RelC I w (.slc g m c) vs[f.offset]:=hrr f.offset _ _ hcs (Array.getElem?_eq_getElem hlt);rcases Deep.open_slice hu2 h1 with⟨hcs,_⟩|⟨a,len,cap,m',n,Dd,Pl,hcs,_,_,_,_,hxx,_⟩
  ·simp only[zc2,and_true] at hcs;rw[hcs] at hrel;cases hrel;rw[Nat.zero_mul];exact Nat.zero_le _
  ·simp only[zc2,and_true] at hcs;rw[hcs] at hrel;cases hrel;have hdd:dd= .agg (xs.map (·.1)):=(Prod.mk.inj hx).1;have hmem:((((List.range m).map Dd).length+((List.range (m'-m)).map fun j=>Dd (m+j)).length)*P.bytesOf e)∈dd.weights P t:=by
    rw[hdd];simp only[DataW.weights,hu];refine DataW.weights_mem_each (j:=j) (t:=f.type) (d:= .slice ((List.range m).map Dd) ((List.range (m'-m)).map fun j=>Dd (m+j))) (by rw[zc0,Array.getElem?_toList,hf];rfl) ?_ _ (by simp[DataW.weights,hu2]);rw[zc0,zc9 (by omega)];show some (xs[j]).1=_;rw[hxx]
   have:=hw _ hmem;rw[zb9,zb9,List.length_range,List.length_range] at this;exact Nat.le_trans (Nat.mul_le_mul_right _ (Nat.le_add_right _ _)) this
theorem wR{P:Program}{gl:Nat→Option D}(hl:laidOutB P=true){f:FuncId}{fn:Func}{tb:TypeId}(hbool:P.underlying tb=some .bool)(hres:fn.resultTypes= #[tb])
  (hc:∀t∈fn.params.toList,oM P t=true) {H:Type} (enc:TypeId×Value→H) {s:ChangeSpec} (hvars:s.vars=[]) (hfn:∀ds:List (DataW H),ds.length=fn.params.toList.length→s.fn H (ds++[])={results:=[.lit (.bool true)],args:=ds})
  (W:World) (args:Array Value) (ds gs:List (DataW H)) (before:List MemPlace) (hval:∀(j:Nat) t v,fn.params[j]?=some t→args[j]?=some v→Value.okWide P W .any 0 t v)
  (hW:DataW.Whole enc P fn.params.toList s.vars false W args.toList ds gs before)
  (hgl:Gl gl (fun b=>b<W.heap.size) W) (hplain:∀cs,t8 P 12 fn.params.toList cs→(∃p,DataW.TrodAll enc P W 0 (fun _=>true) true fn.params.toList args.toList ds p)→(∀(j:Nat) (d:D) (v:Value),(fg P fn.params.toList cs)[j]?=some d→args.toList[j]?=some v→RelC (fun b=>b<W.heap.size) W d v)→
   CallOK P gl f (fg P fn.params.toList cs) (.bool true)):
  Calls P f args W fun e W'=>∃v,e= .returned v∧s.post enc P fn false true false false W args v W':=by
 have hW0:=hW;obtain⟨p,q,hA,hV,rfl,hfz,hnd⟩:=hW;rw[hvars] at hV;have hq:gs=[]∧q=[]:=by
  cases gs with
  |nil=>exact⟨rfl,hV⟩
  |cons=>exact hV.elim
 obtain⟨rfl,rfl⟩:=hq;have hf12:∀t∈fn.params.toList,kz P 12 t=true:=fun t ht=>by
  have:=hc t ht;simp only[oM,zc1] at this;exact this.2
 obtain⟨cs,c1,c2,c3⟩:=xD (I:=fun b=>b<W.heap.size) (w:=W) (fun b hb=>hb) _ _ _ _ hf12 (fun j t v ht hv=>hval j t v (by simpa using ht) (by simpa using hv)) hA;have hlen:ds.length=fn.params.toList.length:=by
  clear hW0 hplain c1 c2 c3 hval hfz hnd;have key:∀(ts:List TypeId) (vs:List Value) (ds:List (DataW H)) (ps:List MemPlace),DataW.TrodAll enc P W 0 (fun _=>true) true ts vs ds ps→ds.length=ts.length:=by
   intro ts
   induction ts with
   |nil=>intro vs ds ps h;obtain⟨_,rfl,_⟩:=trodAll_nil h;rfl
   |cons t ts ih=>
    intro vs ds ps h;obtain⟨v,vs1,d,ds1,a,b,rfl,rfl,rfl,h1,h2⟩:=trodAll_cons h;simp[ih _ _ _ h2]
  exact key _ _ _ _ hA
 have hcall:=hplain cs c1 ⟨p,hA⟩ c3;have hF:=hcall.2 (fun b=>b<W.heap.size) W args (fun b hb=>hb) hgl (by simpa using c2) (fun j d v hd hv=>c3 j d v hd (by simpa using hv));refine hF.mono fun e W' ⟨v,he,hr,hb⟩=> ?_;have hvt:v= .bool true:=(RelV.clo (A:=fun _ _=>none) (G:=fun _=>0) hr).bool_inv;subst hvt;have hold:∀x∈p++[],x.block<W.heap.size:=fun x hx=>by simpa using hW0.lt x hx
 have hs:=hfn ds hlen;refine⟨_,he,ds,[],p++[],[],p,[],hW0,?_,?_,?_,hb.below.frame _,fun h=>by cases h⟩
 ·rw[hs,hres];exact trodAll_cons_mk (shut_bool hbool _) trodAll_mk0
 ·rw[hs];exact kC hl hb.below _ _ _ _ hc hA fun x hx=>hold x (by simpa using hx)
 ·rw[hs,hvars];rfl
end Go.Pd
end
section
namespace Go.Pd
open Go Go.Proofs Go.RowKit
set_option maxRecDepth 100000
theorem Fl{n:Nat}{c:List D}(h:Ty Tryz.prog (n+2) 78 c):∃x:jv,c=yL x:=by
 obtain⟨g1,g2,rfl,h1,h2⟩:=wC Tryz.underlying78 rfl h;obtain⟨a,rfl,_⟩:=wA (k:= .i64) (by kernel_rfl) h1;obtain⟨b,rfl,_⟩:=wB Tryz.underlying9 h2;exact⟨(a,b),rfl⟩
end Go.Pd
end
