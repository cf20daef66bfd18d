import Derived.Test.YtjhoaknnmfifgaaGreatDoorPdFf
import Derived.SizedLaws
import Derived.Test.YtjhoaknnmfifgaaGreatDoorUnA
import Derived.Test.YtjhoaknnmfifgaaGreatDoorUnH
section
namespace Go.Pd
open Go.RowKit Go.ChangeShapes Go.WideShapes
theorem yw{P:Program}{gl:Nat→Option D}(hl:laidOutB P=true){f:FuncId}{fn:Func}{tb:TypeId}(hbool:P.underlying tb=some .bool)(hres:fn.resultTypes= #[tb])
  (hc:∀t∈fn.params.toList,pU P t=true) {H:Type} (enc:TypeId×Value→H) {s:ChangeSpec} (hvars:s.vars=[]) (hfn:∀ds:List (DataW H),ds.length=fn.params.toList.length→s.fn H (ds++[])={results:=[.lit (.bool true)],args:=ds})
  (W:World) (args:Array Value) (ds gs:List (DataW H)) (before:List MemPlace) (hval:∀(j:Nat) t v,fn.params[j]?=some t→args[j]?=some v→Value.okWide P W .any 0 t v)
  (hW:DataW.Whole enc P fn.params.toList s.vars false W args.toList ds gs before)
  (hgl:Gl gl (fun b=>b<W.heap.size) W) (hplain:∀cs,v6 P 12 fn.params.toList cs→(∃p,DataW.TrodAll enc P W 0 (fun _=>true) true fn.params.toList args.toList ds p)→(∀(j:Nat) (d:D) (v:Value),(fN P fn.params.toList cs)[j]?=some d→args.toList[j]?=some v→RelC (fun b=>b<W.heap.size) W d v)→
   CallOK P gl f (fN P fn.params.toList cs) (.bool true)):
  Calls P f args W fun e W'=>∃v,e= .returned v∧s.post enc P fn false true false false W args v W':=by
 have hW0:=hW;obtain⟨p,q,hA,hV,rfl,hfz,hnd⟩:=hW;rw[hvars] at hV;have hq:gs=[]∧q=[]:=by
  cases gs with
  |nil=>exact⟨rfl,hV⟩
  |cons=>exact hV.elim
 obtain⟨rfl,rfl⟩:=hq;have hf12:∀t∈fn.params.toList,k9 P 12 t=true:=fun t ht=>by
  have:=hc t ht;simp only[pU,zc4] at this;exact this.2
 obtain⟨cs,c1,c2,c3⟩:=zk (I:=fun b=>b<W.heap.size) (w:=W) (fun b hb=>hb) _ _ _ _ hf12 (fun j t v ht hv=>hval j t v (by simpa using ht) (by simpa using hv)) hA;have hlen:ds.length=fn.params.toList.length:=by
  clear hW0 hplain c1 c2 c3 hval hfz hnd;have key:∀(ts:List TypeId) (vs:List Value) (ds:List (DataW H)) (ps:List MemPlace),DataW.TrodAll enc P W 0 (fun _=>true) true ts vs ds ps→ds.length=ts.length:=by
   intro ts
   induction ts with
   |nil=>intro vs ds ps h;obtain⟨_,rfl,_⟩:=trodAll_nil h;rfl
   |cons t ts ih=>
    intro vs ds ps h;obtain⟨v,vs1,d,ds1,a,b,rfl,rfl,rfl,h1,h2⟩:=trodAll_cons h;simp[ih _ _ _ h2]
  exact key _ _ _ _ hA
 have hcall:=hplain cs c1 ⟨p,hA⟩ c3;have hF:=hcall.2 (fun b=>b<W.heap.size) W args (fun b hb=>hb) hgl (by simpa using c2) (fun j d v hd hv=>c3 j d v hd (by simpa using hv));refine hF.mono fun e W' ⟨v,he,hr,hb⟩=> ?_;have hvt:v= .bool true:=(RelV.clo (A:=fun _ _=>none) (G:=fun _=>0) hr).bool_inv;subst hvt;have hold:∀x∈p++[],x.block<W.heap.size:=fun x hx=>by simpa using hW0.lt x hx
 have hs:=hfn ds hlen;refine⟨_,he,ds,[],p++[],[],p,[],hW0,?_,?_,?_,hb.below.frame _,fun h=>by cases h⟩
 ·rw[hs,hres];exact trodAll_cons_mk (shut_bool hbool _) trodAll_mk0
 ·rw[hs];exact la hl hb.below _ _ _ _ hc hA fun x hx=>hold x (by simpa using hx)
 ·rw[hs,hvars];rfl
end Go.Pd
end
section
namespace Go.Pd
open Go Go.Proofs Go.RowKit
set_option maxRecDepth 100000
theorem sR:∀l:List ByteArray,l.flatMap (fun s=>[D.str s])=j3 l
 |[]=>rfl
 |x::l=>by rw[List.flatMap_cons,sR l];rfl
theorem Du{n:Nat}{c:List D}(h:Ty Tryz.prog (n+2) 22 c):∃l:List ByteArray,c=[.slc false l.length (j3 l)]:=by
 obtain⟨gs,rfl,_,h6⟩:=we Tryz.underlying22 h;obtain⟨l,h7,h8⟩:=tX (fun s:ByteArray=>[D.str s]) (p:=Ty Tryz.prog (n+1) 9) (fun d hd=>by
  obtain⟨a,rfl,_⟩:=tW Tryz.underlying9 hd;exact⟨a,rfl⟩) gs h6
 exact⟨l,by rw[h7,h8,sR]⟩
end Go.Pd
end
