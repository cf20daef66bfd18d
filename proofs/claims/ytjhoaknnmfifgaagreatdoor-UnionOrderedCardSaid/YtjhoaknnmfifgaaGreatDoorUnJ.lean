import Derived.Test.YtjhoaknnmfifgaaGreatDoorPdFf
import Derived.SizedLaws
import Derived.Test.YtjhoaknnmfifgaaGreatDoorUnA
import Derived.Test.YtjhoaknnmfifgaaGreatDoorUnH
import Derived.Test.YtjhoaknnmfifgaaGreatDoorUnI
import Derived.Test.YtjhoaknnmfifgaaGreatDoorUnF
section
namespace Go.Pd
open Go.RowKit Go.ChangeShapes Go.WideShapes
theorem mA{I:Nat→Prop}{w:World}{P:Program}{H:Type}{enc:TypeId×Value→H}{base:Nat}{spare:Nat→Bool}{held:Bool}{t e:TypeId}{fs:Array Field}{j:Nat}{f:Field}{v:Value}{dd:DataW H}{ps:List MemPlace}
  (hu:P.underlying t=some (.struct fs)) (hf:fs[j]?=some f) (hu2:P.underlying f.type=some (.slice e)) (hc:P.cellsOf f.type=1)
  (h:DataW.Trod enc P w base spare held t v dd ps) (hw:∀k∈dd.weights P t,k≤reachBytes) {cs:List D} {g:Bool} {m:Nat} {c:List D} (hr:RelC I w (.agg cs) v) (hcs:cs[f.offset]?=some (.slc g m c)):m*P.bytesOf e≤reachBytes:=by
 obtain⟨fuel,hm⟩:=h;obtain⟨xs,n',_,hx,_,hxl,hget⟩:=DataW.trod_struct hu hm;have hjlt:j<fs.size:=(zb8.1 hf).1;have h1:=hget j f hf;cases hr with
 |agg _ vs hl hrr=>
  have hlt:f.offset<vs.size:=by
   have:=(zb9.1 hcs).1;omega
  have hv1:(((Value.agg vs).cells).toList.drop f.offset).take (P.cellsOf f.type)=[vs[f.offset]]:=by
   rw[hc];show(vs.toList.drop f.offset).take 1=_;rw[List.drop_eq_getElem_cons (by simpa using hlt)];simp
  rw[hv1,zd0 (by omega)] at h1;have hrel:RelC I w (.slc g m c) vs[f.offset]:=hrr f.offset _ _ hcs (Array.getElem?_eq_getElem hlt);rcases Deep.open_slice hu2 h1 with⟨hcs,_⟩|⟨a,len,cap,m',n,Dd,Pl,hcs,_,_,_,_,hxx,_⟩
  ·simp only[zc3,and_true] at hcs;rw[hcs] at hrel;cases hrel;rw[Nat.zero_mul];exact Nat.zero_le _
  ·simp only[zc3,and_true] at hcs;rw[hcs] at hrel;cases hrel;have hdd:dd= .agg (xs.map (·.1)):=(Prod.mk.inj hx).1;have hmem:((((List.range m).map Dd).length+((List.range (m'-m)).map fun j=>Dd (m+j)).length)*P.bytesOf e)∈dd.weights P t:=by
    rw[hdd];simp only[DataW.weights,hu];refine DataW.weights_mem_each (j:=j) (t:=f.type) (d:= .slice ((List.range m).map Dd) ((List.range (m'-m)).map fun j=>Dd (m+j))) (by rw[zc1,Array.getElem?_toList,hf];rfl) ?_ _ (by simp[DataW.weights,hu2]);rw[zc1,zd0 (by omega)];show some (xs[j]).1=_;rw[hxx]
   have:=hw _ hmem;rw[zc0,zc0,List.length_range,List.length_range] at this;exact zb1 (Nat.mul_le_mul_right _ (Nat.le_add_right _ _)) this
theorem zJ{P:Program}{gl:Nat→Option D}(hl:laidOutB P=true){f:FuncId}{fn:Func}{tb:TypeId}(hbool:P.underlying tb=some .bool)(hres:fn.resultTypes= #[tb])
  (hc:∀t∈fn.params.toList,qT P t=true) {H:Type} (enc:TypeId×Value→H) {s:ChangeSpec} (hvars:s.vars=[]) (hfn:∀ds:List (DataW H),ds.length=fn.params.toList.length→s.fn H (ds++[])={results:=[.lit (.bool true)],args:=ds})
  (W:World) (args:Array Value) (ds gs:List (DataW H)) (before:List MemPlace) (hval:∀(j:Nat) t v,fn.params[j]?=some t→args[j]?=some v→Value.okWide P W .any 0 t v)
  (hW:DataW.Whole enc P fn.params.toList s.vars false W args.toList ds gs before)
  (hgl:Gl gl (fun b=>b<W.heap.size) W) (hplain:∀cs,w9 P 12 fn.params.toList cs→(∃p,DataW.TrodAll enc P W 0 (fun _=>true) true fn.params.toList args.toList ds p)→(∀(j:Nat) (d:D) (v:Value),(gh P fn.params.toList cs)[j]?=some d→args.toList[j]?=some v→RelC (fun b=>b<W.heap.size) W d v)→
   CallOK P gl f (gh P fn.params.toList cs) (.bool true)):
  Calls P f args W fun e W'=>∃v,e= .returned v∧s.post enc P fn false true false false W args v W':=by
 have hW0:=hW;obtain⟨p,q,hA,hV,rfl,hfz,hnd⟩:=hW;rw[hvars] at hV;have hq:gs=[]∧q=[]:=by
  cases gs with
  |nil=>exact⟨rfl,hV⟩
  |cons=>exact hV.elim
 obtain⟨rfl,rfl⟩:=hq;have hf12:∀t∈fn.params.toList,lJ P 12 t=true:=fun t ht=>by
  have:=hc t ht;simp only[qT,zc2] at this;exact this.2
 obtain⟨cs,c1,c2,c3⟩:=Ap (I:=fun b=>b<W.heap.size) (w:=W) (fun b hb=>hb) _ _ _ _ hf12 (fun j t v ht hv=>hval j t v (by simpa using ht) (by simpa using hv)) hA;have hlen:ds.length=fn.params.toList.length:=by
  clear hW0 hplain c1 c2 c3 hval hfz hnd;have key:∀(ts:List TypeId) (vs:List Value) (ds:List (DataW H)) (ps:List MemPlace),DataW.TrodAll enc P W 0 (fun _=>true) true ts vs ds ps→ds.length=ts.length:=by
   intro ts
   induction ts with
   |nil=>intro vs ds ps h;obtain⟨_,rfl,_⟩:=trodAll_nil h;rfl
   |cons t ts ih=>
    intro vs ds ps h;obtain⟨v,vs1,d,ds1,a,b,rfl,rfl,rfl,h1,h2⟩:=trodAll_cons h;simp[ih _ _ _ h2]
  exact key _ _ _ _ hA
 have hcall:=hplain cs c1 ⟨p,hA⟩ c3;have hF:=hcall.2 (fun b=>b<W.heap.size) W args (fun b hb=>hb) hgl (by simpa using c2) (fun j d v hd hv=>c3 j d v hd (by simpa using hv));refine hF.mono fun e W' ⟨v,he,hr,hb⟩=> ?_;have hvt:v= .bool true:=(RelV.clo (A:=fun _ _=>none) (G:=fun _=>0) hr).bool_inv;subst hvt;have hold:∀x∈p++[],x.block<W.heap.size:=fun x hx=>by simpa using hW0.lt x hx
 have hs:=hfn ds hlen;refine⟨_,he,ds,[],p++[],[],p,[],hW0,?_,?_,?_,hb.below.frame _,fun h=>by cases h⟩
 ·rw[hs,hres];exact trodAll_cons_mk (shut_bool hbool _) trodAll_mk0
 ·rw[hs];exact lK hl hb.below _ _ _ _ hc hA fun x hx=>hold x (by simpa using hx)
 ·rw[hs,hvars];rfl
end Go.Pd
end
section
namespace Go.Pd
open Go Go.Proofs Go.RowKit
set_option maxRecDepth 100000
theorem zK{P:Program}{n:Nat}{t:TypeId}{ds:List D}{fs:Array Field}{f1 f2 f3 f4:Field}(hu:P.underlying t=some (.struct fs))(hfs:fs.toList=[f1,f2,f3,f4])(h:Ty P (n+1) t ds):
  ∃g1 g2 g3 g4,ds=g1++g2++g3++g4∧Ty P n f1.type g1∧Ty P n f2.type g2∧Ty P n f3.type g3∧Ty P n f4.type g4:=by
 unfold Ty at h;rw[hu] at h;obtain⟨gs,h1,h2,h3⟩:=h;have hl:gs.length=4:=by rw[h2,←Array.length_toList,hfs];rfl
 match gs,hl with
 |[g1,g2,g3,g4],_=>exact⟨g1,g2,g3,g4,by rw[h1];simp,h3 0 f1 g1 (by rw[hfs];rfl) rfl,h3 1 f2 g2 (by rw[hfs];rfl) rfl,h3 2 f3 g3 (by rw[hfs];rfl) rfl,h3 3 f4 g4 (by rw[hfs];rfl) rfl⟩
theorem zL{P:Program}{n:Nat}{t:TypeId}{ds:List D}{fs:Array Field}{f1 f2 f3 f4 f5 f6:Field}(hu:P.underlying t=some (.struct fs))(hfs:fs.toList=[f1,f2,f3,f4,f5,f6])(h:Ty P (n+1) t ds):
  ∃g1 g2 g3 g4 g5 g6,ds=g1++g2++g3++g4++g5++g6∧Ty P n f1.type g1∧Ty P n f2.type g2∧Ty P n f3.type g3∧Ty P n f4.type g4∧Ty P n f5.type g5∧Ty P n f6.type g6:=by
 unfold Ty at h;rw[hu] at h;obtain⟨gs,h1,h2,h3⟩:=h;have hl:gs.length=6:=by rw[h2,←Array.length_toList,hfs];rfl
 match gs,hl with
 |[g1,g2,g3,g4,g5,g6],_=>exact⟨g1,g2,g3,g4,g5,g6,by rw[h1];simp,h3 0 f1 g1 (by rw[hfs];rfl) rfl,h3 1 f2 g2 (by rw[hfs];rfl) rfl,h3 2 f3 g3 (by rw[hfs];rfl) rfl,h3 3 f4 g4 (by rw[hfs];rfl) rfl,h3 4 f5 g5 (by rw[hfs];rfl) rfl,h3 5 f6 g6 (by rw[hfs];rfl) rfl⟩
theorem Eg{n:Nat}{c:List D}(h:Ty Tryz.prog (n+2) 78 c):∃x:cM,c=cQ x:=by
 obtain⟨g1,g2,rfl,h1,h2⟩:=mn Tryz.underlying78 rfl h;obtain⟨a,rfl,_⟩:=oy (k:= .i64) (by kernel_rfl) h1;obtain⟨b,rfl,_⟩:=kI Tryz.underlying9 h2;exact⟨(a,b),rfl⟩
theorem GU{n:Nat}{c:List D}(h:Ty Tryz.prog (n+2) 83 c):∃x:eT,c=bR x:=by
 obtain⟨g1,g2,rfl,h1,h2⟩:=mn Tryz.underlying83 rfl h;obtain⟨a,rfl,_⟩:=oy (k:= .i64) (by kernel_rfl) h1;obtain⟨b,rfl,_⟩:=oy (k:= .i64) (by kernel_rfl) h2;exact⟨(a,b),rfl⟩
theorem AV{n:Nat}{c:List D}(h:Ty Tryz.prog (n+3) 24 c):∃l:List eT,c=[.slc false l.length (l.flatMap bR)]:=by
 obtain⟨gs,rfl,_,h6⟩:=ig Tryz.underlying24 h;obtain⟨l,h7,h8⟩:=iS bR (p:=Ty Tryz.prog (n+2) 83) (fun d hd=>GU hd) gs h6;exact⟨l,by rw[h7,h8]⟩
theorem Kv{n:Nat}{c:List D}(h:Ty Tryz.prog (n+4) 42 c):∃x:CrdV,c=j8 x:=by
 obtain⟨g1,g2,rfl,h1,h2⟩:=mn Tryz.underlying42 rfl h;obtain⟨a,rfl,_⟩:=kI Tryz.underlying9 h1;obtain⟨gs,rfl,_,h6⟩:=ig Tryz.underlying40 h2;obtain⟨l,h7,h8⟩:=iS cQ (p:=Ty Tryz.prog (n+2) 78) (fun d hd=>Eg hd) gs h6;exact⟨(a,false,l),by rw[←h7,h8];rfl⟩
theorem Kw{n:Nat}{c:List D}(h:Ty Tryz.prog (n+2) 76 c):∃x:cw,c=bO x:=by
 obtain⟨g1,g2,g3,rfl,h1,h2,h3⟩:=rb Tryz.underlying76 rfl h;obtain⟨a,rfl,_⟩:=kI Tryz.underlying9 h1;obtain⟨b,rfl,_⟩:=kI Tryz.underlying9 h2;obtain⟨d,rfl,_⟩:=oy (k:= .i64) (by kernel_rfl) h3;exact⟨(a,b,d),rfl⟩
theorem Kx{n:Nat}{c:List D}(h:Ty Tryz.prog (n+3) 80 c):∃x:bU,c=bH x:=by
 obtain⟨g1,g2,g3,g4,rfl,h1,h2,h3,h4⟩:=zK Tryz.underlying80 rfl h;obtain⟨a,rfl,_⟩:=kI Tryz.underlying9 h1;obtain⟨b,rfl,_⟩:=kI Tryz.underlying9 h2;obtain⟨d,rfl,_⟩:=oy (k:= .i64) (by kernel_rfl) h3;obtain⟨e,rfl⟩:=Eg h4;exact⟨(a,b,d,e),rfl⟩
theorem Ky{n:Nat}{c:List D}(h:Ty Tryz.prog (n+6) 159 c):∃x:KepV,c=bV x:=by
 obtain⟨g1,g2,g3,rfl,h1,h2,h3⟩:=rb Tryz.underlying159 rfl h;obtain⟨a,rfl,_⟩:=kI Tryz.underlying9 h1;obtain⟨l,rfl⟩:=AV (n:=n+2) h2;obtain⟨gs,rfl,_,h6⟩:=ig (by kernel_rfl) h3;obtain⟨m,h7,h8⟩:=iS j8 (p:=Ty Tryz.prog (n+4) 42) (fun d hd=>Kv hd) gs h6;exact⟨(a,(false,l),(false,m)),by rw[←h7,h8];rfl⟩
theorem uo:∀l:List ByteArray,l.flatMap (fun s=>[D.str s])=bz l
 |[]=>rfl
 |x::l=>by rw[List.flatMap_cons,uo l];rfl
theorem xS{n:Nat}{c:List D}(h:Ty Tryz.prog (n+2) 22 c):∃l:List ByteArray,c=[.slc false l.length (bz l)]:=by
 obtain⟨gs,rfl,_,h6⟩:=ig Tryz.underlying22 h;obtain⟨l,h7,h8⟩:=iS (fun s:ByteArray=>[D.str s]) (p:=Ty Tryz.prog (n+1) 9) (fun d hd=>by
  obtain⟨a,rfl,_⟩:=kI Tryz.underlying9 hd;exact⟨a,rfl⟩) gs h6
 exact⟨l,by rw[h7,h8,uo]⟩
def P6(u:UV):List D:=[.slc u.cf u.cl.length (bz u.cl),.slc u.mf u.me.length (u.me.flatMap bO),.slc u.hf u.ho.length (u.ho.flatMap bR),.slc u.kf u.mr.length (u.mr.flatMap bH),.slc u.sf u.sg.length (bz u.sg),.slc u.pf u.pa.length (u.pa.flatMap bV)]
theorem Eh{n:Nat}{c:List D}(h:Ty Tryz.prog (n+8) 28 c):∃u:UV,c=P6 u:=by
 obtain⟨g1,g2,g3,g4,g5,g6,rfl,h1,h2,h3,h4,h5,h6⟩:=zL Tryz.underlying28 rfl h;obtain⟨cl,rfl⟩:=xS (n:=n+5) h1;obtain⟨gs,rfl,_,a1⟩:=ig Tryz.underlying23 h2;obtain⟨me,a2,a3⟩:=iS bO (p:=Ty Tryz.prog (n+6) 76) (fun d hd=>Kw (n:=n+4) hd) gs a1;obtain⟨ho,rfl⟩:=AV (n:=n+4) h3;obtain⟨gs',rfl,_,b1⟩:=ig Tryz.underlying25 h4;obtain⟨mr,b2,b3⟩:=iS bH (p:=Ty Tryz.prog (n+6) 80) (fun d hd=>Kx (n:=n+3) hd) gs' b1;obtain⟨sg,rfl⟩:=xS (n:=n+5) h5;obtain⟨gs'',rfl,_,c1⟩:=ig Tryz.underlying26 h6;obtain⟨pa,c2,c3⟩:=iS bV (p:=Ty Tryz.prog (n+6) 159) (fun d hd=>Ky (n:=n) hd) gs'' c1;refine⟨⟨false,false,false,false,false,false,cl,me,ho,mr,sg,pa⟩,?_⟩;rw[←a2,a3,←b2,b3,←c2,c3];rfl
theorem GV{γ:Type}(a b c d e f:D)(k:List D→Option γ):gG (.agg [a,b,c,d,e,f]) 6 k=k [a,b,c,d,e,f]:=rfl
section
variable {γ:Type}(a b c d e f:D)(k:D→Option γ)
theorem GW:bu [a,b,c,d,e,f] 0 k=k a:=rfl
theorem GX:bu [a,b,c,d,e,f] 1 k=k b:=rfl
theorem GY:bu [a,b,c,d,e,f] 2 k=k c:=rfl
theorem GZ:bu [a,b,c,d,e,f] 3 k=k d:=rfl
theorem G0:bu [a,b,c,d,e,f] 4 k=k e:=rfl
theorem G1:bu [a,b,c,d,e,f] 5 k=k f:=rfl
end
section
variable (u:UV)(s:ByteArray)
structure LawB(B:FuncId→List D→Option D):Prop where
 a13:B 13 [.agg [.slc u.cf u.cl.length (bz u.cl),.slc u.mf u.me.length (u.me.flatMap bO),.slc u.hf u.ho.length (u.ho.flatMap bR),.slc u.kf u.mr.length (u.mr.flatMap bH),.slc u.sf u.sg.length (bz u.sg),.slc u.pf u.pa.length (u.pa.flatMap bV)]]=some (.agg [.slc u.cf u.cl.length (bz u.cl),.slc u.me.isEmpty u.me.length (u.me.flatMap bO),.slc u.hf u.ho.length (u.ho.flatMap bR),.slc u.mr.isEmpty u.mr.length (u.mr.flatMap bH),.slc u.sf u.sg.length (bz u.sg),.slc u.pa.isEmpty u.pa.length (u.pa.flatMap bV)])
 a14:B 14 [.agg [.slc u.cf u.cl.length (bz u.cl),.slc u.me.isEmpty u.me.length (u.me.flatMap bO),.slc u.hf u.ho.length (u.ho.flatMap bR),.slc u.mr.isEmpty u.mr.length (u.mr.flatMap bH),.slc u.sf u.sg.length (bz u.sg),.slc u.pa.isEmpty u.pa.length (u.pa.flatMap bV)]]=some (.bool (x9 u))
 a15:B 15 []=some (.bool true)
structure LawC(B:FuncId→List D→Option D):Prop where
 a16:B 16 [.agg [.slc u.cf u.cl.length (bz u.cl),.slc u.me.isEmpty u.me.length (u.me.flatMap bO),.slc u.hf u.ho.length (u.ho.flatMap bR),.slc u.mr.isEmpty u.mr.length (u.mr.flatMap bH),.slc u.sf u.sg.length (bz u.sg),.slc u.pa.isEmpty u.pa.length (u.pa.flatMap bV)]]=some (.int .i64 (uE u))
 a17:B 17 [.agg [.slc u.cf u.cl.length (bz u.cl),.slc u.mf u.me.length (u.me.flatMap bO),.slc u.hf u.ho.length (u.ho.flatMap bR),.slc u.kf u.mr.length (u.mr.flatMap bH),.slc u.sf u.sg.length (bz u.sg),.slc u.pf u.pa.length (u.pa.flatMap bV)]]=some (.int .i64 (uE u))
 a18:B 18 [.agg [.slc u.cf u.cl.length (bz u.cl),.slc u.mf u.me.length (u.me.flatMap bO),.slc u.hf u.ho.length (u.ho.flatMap bR),.slc u.kf u.mr.length (u.mr.flatMap bH),.slc u.sf u.sg.length (bz u.sg),.slc u.pf u.pa.length (u.pa.flatMap bV)],.str s]=some (bC (HT u s !=0) (.tup [.agg [.str (ByteArray.mk #[]),.slc true 0 []],.int .i64 (HT u s)]) (.tup [.agg [.str s,eF cQ (dW u.mr s u.ho.length 0)],.int .i64 0]))
 a19:B 19 [.agg [.slc u.cf u.cl.length (bz u.cl),.slc u.mf u.me.length (u.me.flatMap bO),.slc u.hf u.ho.length (u.ho.flatMap bR),.slc u.kf u.mr.length (u.mr.flatMap bH),.slc u.sf u.sg.length (bz u.sg),.slc u.pf u.pa.length (u.pa.flatMap bV)],.str s]=some (bC (HT u s !=0) (.tup [.slc true 0 [],.int .i64 (HT u s)]) (.tup [eF iD (eu (il u.mr s) u.ho.length 0),.int .i64 0]))
 a20:B 20 [.agg [.slc u.cf u.cl.length (bz u.cl),.slc u.mf u.me.length (u.me.flatMap bO),.slc u.hf u.ho.length (u.ho.flatMap bR),.slc u.kf u.mr.length (u.mr.flatMap bH),.slc u.sf u.sg.length (bz u.sg),.slc u.pf u.pa.length (u.pa.flatMap bV)],.str s]=some (bC (HT u s !=0) (.tup [.slc true 0 [],.int .i64 (HT u s)]) (.tup [eF iD (eu (im u.mr s) u.ho.length 0),.int .i64 0]))
 a21:B 21 [.agg [.slc u.cf u.cl.length (bz u.cl),.slc u.mf u.me.length (u.me.flatMap bO),.slc u.hf u.ho.length (u.ho.flatMap bR),.slc u.kf u.mr.length (u.mr.flatMap bH),.slc u.sf u.sg.length (bz u.sg),.slc u.pf u.pa.length (u.pa.flatMap bV)],.str s]=some (.int .i64 (bC (HT u s !=0) (HT u s) (my u.mr u.ho.length s)))
 a22:∀(b:Bool) (e:Int),B 22 [.bool b,.int .i64 e]=some (.int .i64 (bC b e 0))
 a23:B 23 [.agg [.slc u.cf u.cl.length (bz u.cl),.slc u.me.isEmpty u.me.length (u.me.flatMap bO),.slc u.hf u.ho.length (u.ho.flatMap bR),.slc u.mr.isEmpty u.mr.length (u.mr.flatMap bH),.slc u.sf u.sg.length (bz u.sg),.slc u.pa.isEmpty u.pa.length (u.pa.flatMap bV)],.str s]=some (.int .i64 (ix (fun m:cw=>cN m.1 s) u.me))
 a24:B 24 [.agg [.slc u.cf u.cl.length (bz u.cl),.slc u.me.isEmpty u.me.length (u.me.flatMap bO),.slc u.hf u.ho.length (u.ho.flatMap bR),.slc u.mr.isEmpty u.mr.length (u.mr.flatMap bH),.slc u.sf u.sg.length (bz u.sg),.slc u.pa.isEmpty u.pa.length (u.pa.flatMap bV)],.str s]=some (.agg [.str s,eF cQ (dW u.mr s u.ho.length 0)])
 a25:B 25 [eF cQ (dW u.mr s u.ho.length 0),eF cQ (dW u.mr s u.ho.length 0)]=some (.bool true)
 a26:∀l:List Int,l.length≤100000→B 26 [eF iD l,eF iD l]=some (.bool true)
 a27:B 27 [.agg [.slc u.cf u.cl.length (bz u.cl),.slc u.me.isEmpty u.me.length (u.me.flatMap bO),.slc u.hf u.ho.length (u.ho.flatMap bR),.slc u.mr.isEmpty u.mr.length (u.mr.flatMap bH),.slc u.sf u.sg.length (bz u.sg),.slc u.pa.isEmpty u.pa.length (u.pa.flatMap bV)],.str s]=some (eF iD (eu (il u.mr s) u.ho.length 0))
 a28:B 28 [.agg [.slc u.cf u.cl.length (bz u.cl),.slc u.me.isEmpty u.me.length (u.me.flatMap bO),.slc u.hf u.ho.length (u.ho.flatMap bR),.slc u.mr.isEmpty u.mr.length (u.mr.flatMap bH),.slc u.sf u.sg.length (bz u.sg),.slc u.pa.isEmpty u.pa.length (u.pa.flatMap bV)],.str s]=some (eF iD (eu (im u.mr s) u.ho.length 0))
 a29:B 29 [.agg [.slc u.cf u.cl.length (bz u.cl),.slc u.me.isEmpty u.me.length (u.me.flatMap bO),.slc u.hf u.ho.length (u.ho.flatMap bR),.slc u.mr.isEmpty u.mr.length (u.mr.flatMap bH),.slc u.sf u.sg.length (bz u.sg),.slc u.pa.isEmpty u.pa.length (u.pa.flatMap bV)],.str s]=some (.int .i64 (my u.mr u.ho.length s))
end
end Go.Pd
end
