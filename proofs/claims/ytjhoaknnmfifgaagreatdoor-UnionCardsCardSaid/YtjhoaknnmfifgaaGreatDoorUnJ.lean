import Derived.Test.YtjhoaknnmfifgaaGreatDoorPdFf
import Derived.SizedLaws
import Derived.Test.YtjhoaknnmfifgaaGreatDoorUnA
import Derived.Test.YtjhoaknnmfifgaaGreatDoorUnH
import Derived.Test.YtjhoaknnmfifgaaGreatDoorUnI
import Derived.Test.YtjhoaknnmfifgaaGreatDoorUnF
section
namespace Go.Pd
open Go.RowKit Go.ChangeShapes Go.WideShapes
theorem lR{I:Nat→Prop}{w:World}{P:Program}{H:Type}{enc:TypeId×Value→H}{base:Nat}{spare:Nat→Bool}{held:Bool}{t e:TypeId}{fs:Array Field}{j:Nat}{f:Field}{v:Value}{dd:DataW H}{ps:List MemPlace}
  (hu:P.underlying t=some (.struct fs)) (hf:fs[j]?=some f) (hu2:P.underlying f.type=some (.slice e)) (hc:P.cellsOf f.type=1)
  (h:DataW.Trod enc P w base spare held t v dd ps) (hw:∀k∈dd.weights P t,k≤reachBytes) {cs:List D} {g:Bool} {m:Nat} {c:List D} (hr:RelC I w (.agg cs) v) (hcs:cs[f.offset]?=some (.slc g m c)):m*P.bytesOf e≤reachBytes:=by
 obtain⟨fuel,hm⟩:=h;obtain⟨xs,n',_,hx,_,hxl,hget⟩:=DataW.trod_struct hu hm;have hjlt:j<fs.size:=(zb6.1 hf).1;have h1:=hget j f hf;cases hr with
 |agg _ vs hl hrr=>
  have hlt:f.offset<vs.size:=by
   have:=(zb7.1 hcs).1;omega
  have hv1:(((Value.agg vs).cells).toList.drop f.offset).take (P.cellsOf f.type)=[vs[f.offset]]:=by
   rw[hc];show(vs.toList.drop f.offset).take 1=_;rw[List.drop_eq_getElem_cons (by simpa using hlt)];simp
  rw[hv1,zc8 (by omega)] at h1;have hrel:RelC I w (.slc g m c) vs[f.offset]:=hrr f.offset _ _ hcs (Array.getElem?_eq_getElem hlt);rcases Deep.open_slice hu2 h1 with⟨hcs,_⟩|⟨a,len,cap,m',n,Dd,Pl,hcs,_,_,_,_,hxx,_⟩
  ·simp only[zc1,and_true] at hcs;rw[hcs] at hrel;cases hrel;rw[Nat.zero_mul];exact Nat.zero_le _
  ·simp only[zc1,and_true] at hcs;rw[hcs] at hrel;cases hrel;have hdd:dd= .agg (xs.map (·.1)):=(Prod.mk.inj hx).1;have hmem:((((List.range m).map Dd).length+((List.range (m'-m)).map fun j=>Dd (m+j)).length)*P.bytesOf e)∈dd.weights P t:=by
    rw[hdd];simp only[DataW.weights,hu];refine DataW.weights_mem_each (j:=j) (t:=f.type) (d:= .slice ((List.range m).map Dd) ((List.range (m'-m)).map fun j=>Dd (m+j))) (by rw[zb9,Array.getElem?_toList,hf];rfl) ?_ _ (by simp[DataW.weights,hu2]);rw[zb9,zc8 (by omega)];show some (xs[j]).1=_;rw[hxx]
   have:=hw _ hmem;rw[zb8,zb8,List.length_range,List.length_range] at this;exact za9 (Nat.mul_le_mul_right _ (Nat.le_add_right _ _)) this
theorem x3{P:Program}{gl:Nat→Option D}(hl:laidOutB P=true){f:FuncId}{fn:Func}{tb:TypeId}(hbool:P.underlying tb=some .bool)(hres:fn.resultTypes= #[tb])
  (hc:∀t∈fn.params.toList,pV P t=true) {H:Type} (enc:TypeId×Value→H) {s:ChangeSpec} (hvars:s.vars=[]) (hfn:∀ds:List (DataW H),ds.length=fn.params.toList.length→s.fn H (ds++[])={results:=[.lit (.bool true)],args:=ds})
  (W:World) (args:Array Value) (ds gs:List (DataW H)) (before:List MemPlace) (hval:∀(j:Nat) t v,fn.params[j]?=some t→args[j]?=some v→Value.okWide P W .any 0 t v)
  (hW:DataW.Whole enc P fn.params.toList s.vars false W args.toList ds gs before)
  (hgl:Gl gl (fun b=>b<W.heap.size) W) (hplain:∀cs,vt P 12 fn.params.toList cs→(∃p,DataW.TrodAll enc P W 0 (fun _=>true) true fn.params.toList args.toList ds p)→(∀(j:Nat) (d:D) (v:Value),(fJ P fn.params.toList cs)[j]?=some d→args.toList[j]?=some v→RelC (fun b=>b<W.heap.size) W d v)→
   CallOK P gl f (fJ P fn.params.toList cs) (.bool true)):
  Calls P f args W fun e W'=>∃v,e= .returned v∧s.post enc P fn false true false false W args v W':=by
 have hW0:=hW;obtain⟨p,q,hA,hV,rfl,hfz,hnd⟩:=hW;rw[hvars] at hV;have hq:gs=[]∧q=[]:=by
  cases gs with
  |nil=>exact⟨rfl,hV⟩
  |cons=>exact hV.elim
 obtain⟨rfl,rfl⟩:=hq;have hf12:∀t∈fn.params.toList,kV P 12 t=true:=fun t ht=>by
  have:=hc t ht;simp only[pV,zc0] at this;exact this.2
 obtain⟨cs,c1,c2,c3⟩:=yr (I:=fun b=>b<W.heap.size) (w:=W) (fun b hb=>hb) _ _ _ _ hf12 (fun j t v ht hv=>hval j t v (by simpa using ht) (by simpa using hv)) hA;have hlen:ds.length=fn.params.toList.length:=by
  clear hW0 hplain c1 c2 c3 hval hfz hnd;have key:∀(ts:List TypeId) (vs:List Value) (ds:List (DataW H)) (ps:List MemPlace),DataW.TrodAll enc P W 0 (fun _=>true) true ts vs ds ps→ds.length=ts.length:=by
   intro ts
   induction ts with
   |nil=>intro vs ds ps h;obtain⟨_,rfl,_⟩:=trodAll_nil h;rfl
   |cons t ts ih=>
    intro vs ds ps h;obtain⟨v,vs1,d,ds1,a,b,rfl,rfl,rfl,h1,h2⟩:=trodAll_cons h;simp[ih _ _ _ h2]
  exact key _ _ _ _ hA
 have hcall:=hplain cs c1 ⟨p,hA⟩ c3;have hF:=hcall.2 (fun b=>b<W.heap.size) W args (fun b hb=>hb) hgl (by simpa using c2) (fun j d v hd hv=>c3 j d v hd (by simpa using hv));refine hF.mono fun e W' ⟨v,he,hr,hb⟩=> ?_;have hvt:v= .bool true:=(RelV.clo (A:=fun _ _=>none) (G:=fun _=>0) hr).bool_inv;subst hvt;have hold:∀x∈p++[],x.block<W.heap.size:=fun x hx=>by simpa using hW0.lt x hx
 have hs:=hfn ds hlen;refine⟨_,he,ds,[],p++[],[],p,[],hW0,?_,?_,?_,hb.below.frame _,fun h=>by cases h⟩
 ·rw[hs,hres];exact trodAll_cons_mk (shut_bool hbool _) trodAll_mk0
 ·rw[hs];exact kW hl hb.below _ _ _ _ hc hA fun x hx=>hold x (by simpa using hx)
 ·rw[hs,hvars];rfl
end Go.Pd
end
section
namespace Go.Pd
open Go Go.Proofs Go.RowKit
set_option maxRecDepth 100000
theorem x4{P:Program}{n:Nat}{t:TypeId}{ds:List D}{fs:Array Field}{f1 f2 f3 f4:Field}(hu:P.underlying t=some (.struct fs))(hfs:fs.toList=[f1,f2,f3,f4])(h:Ty P (n+1) t ds):
  ∃g1 g2 g3 g4,ds=g1++g2++g3++g4∧Ty P n f1.type g1∧Ty P n f2.type g2∧Ty P n f3.type g3∧Ty P n f4.type g4:=by
 unfold Ty at h;rw[hu] at h;obtain⟨gs,h1,h2,h3⟩:=h;have hl:gs.length=4:=by rw[h2,←Array.length_toList,hfs];rfl
 match gs,hl with
 |[g1,g2,g3,g4],_=>exact⟨g1,g2,g3,g4,by rw[h1];simp,h3 0 f1 g1 (by rw[hfs];rfl) rfl,h3 1 f2 g2 (by rw[hfs];rfl) rfl,h3 2 f3 g3 (by rw[hfs];rfl) rfl,h3 3 f4 g4 (by rw[hfs];rfl) rfl⟩
theorem x5{P:Program}{n:Nat}{t:TypeId}{ds:List D}{fs:Array Field}{f1 f2 f3 f4 f5 f6:Field}(hu:P.underlying t=some (.struct fs))(hfs:fs.toList=[f1,f2,f3,f4,f5,f6])(h:Ty P (n+1) t ds):
  ∃g1 g2 g3 g4 g5 g6,ds=g1++g2++g3++g4++g5++g6∧Ty P n f1.type g1∧Ty P n f2.type g2∧Ty P n f3.type g3∧Ty P n f4.type g4∧Ty P n f5.type g5∧Ty P n f6.type g6:=by
 unfold Ty at h;rw[hu] at h;obtain⟨gs,h1,h2,h3⟩:=h;have hl:gs.length=6:=by rw[h2,←Array.length_toList,hfs];rfl
 match gs,hl with
 |[g1,g2,g3,g4,g5,g6],_=>exact⟨g1,g2,g3,g4,g5,g6,by rw[h1];simp,h3 0 f1 g1 (by rw[hfs];rfl) rfl,h3 1 f2 g2 (by rw[hfs];rfl) rfl,h3 2 f3 g3 (by rw[hfs];rfl) rfl,h3 3 f4 g4 (by rw[hfs];rfl) rfl,h3 4 f5 g5 (by rw[hfs];rfl) rfl,h3 5 f6 g6 (by rw[hfs];rfl) rfl⟩
theorem Cs{n:Nat}{c:List D}(h:Ty Tryz.prog (n+2) 78 c):∃x:da,c=cq x:=by
 obtain⟨g1,g2,rfl,h1,h2⟩:=lF Tryz.underlying78 rfl h;obtain⟨a,rfl,_⟩:=p8 (k:= .i64) (by kernel_rfl) h1;obtain⟨b,rfl,_⟩:=jh Tryz.underlying9 h2;exact⟨(a,b),rfl⟩
theorem Ez{n:Nat}{c:List D}(h:Ty Tryz.prog (n+2) 83 c):∃x:jz,c=bN x:=by
 obtain⟨g1,g2,rfl,h1,h2⟩:=lF Tryz.underlying83 rfl h;obtain⟨a,rfl,_⟩:=p8 (k:= .i64) (by kernel_rfl) h1;obtain⟨b,rfl,_⟩:=p8 (k:= .i64) (by kernel_rfl) h2;exact⟨(a,b),rfl⟩
theorem yV{n:Nat}{c:List D}(h:Ty Tryz.prog (n+3) 24 c):∃l:List jz,c=[.slc false l.length (l.flatMap bN)]:=by
 obtain⟨gs,rfl,_,h6⟩:=gF Tryz.underlying24 h;obtain⟨l,h7,h8⟩:=g7 bN (p:=Ty Tryz.prog (n+2) 83) (fun d hd=>Ez hd) gs h6;exact⟨l,by rw[h7,h8]⟩
theorem HG{n:Nat}{c:List D}(h:Ty Tryz.prog (n+4) 42 c):∃x:CrdV,c=jq x:=by
 obtain⟨g1,g2,rfl,h1,h2⟩:=lF Tryz.underlying42 rfl h;obtain⟨a,rfl,_⟩:=jh Tryz.underlying9 h1;obtain⟨gs,rfl,_,h6⟩:=gF Tryz.underlying40 h2;obtain⟨l,h7,h8⟩:=g7 cq (p:=Ty Tryz.prog (n+2) 78) (fun d hd=>Cs hd) gs h6;exact⟨(a,false,l),by rw[←h7,h8];rfl⟩
theorem HH{n:Nat}{c:List D}(h:Ty Tryz.prog (n+2) 76 c):∃x:cY,c=bJ x:=by
 obtain⟨g1,g2,g3,rfl,h1,h2,h3⟩:=p9 Tryz.underlying76 rfl h;obtain⟨a,rfl,_⟩:=jh Tryz.underlying9 h1;obtain⟨b,rfl,_⟩:=jh Tryz.underlying9 h2;obtain⟨d,rfl,_⟩:=p8 (k:= .i64) (by kernel_rfl) h3;exact⟨(a,b,d),rfl⟩
theorem HI{n:Nat}{c:List D}(h:Ty Tryz.prog (n+3) 80 c):∃x:ci,c=bD x:=by
 obtain⟨g1,g2,g3,g4,rfl,h1,h2,h3,h4⟩:=x4 Tryz.underlying80 rfl h;obtain⟨a,rfl,_⟩:=jh Tryz.underlying9 h1;obtain⟨b,rfl,_⟩:=jh Tryz.underlying9 h2;obtain⟨d,rfl,_⟩:=p8 (k:= .i64) (by kernel_rfl) h3;obtain⟨e,rfl⟩:=Cs h4;exact⟨(a,b,d,e),rfl⟩
theorem HJ{n:Nat}{c:List D}(h:Ty Tryz.prog (n+6) 159 c):∃x:KepV,c=bM x:=by
 obtain⟨g1,g2,g3,rfl,h1,h2,h3⟩:=p9 Tryz.underlying159 rfl h;obtain⟨a,rfl,_⟩:=jh Tryz.underlying9 h1;obtain⟨l,rfl⟩:=yV (n:=n+2) h2;obtain⟨gs,rfl,_,h6⟩:=gF (by kernel_rfl) h3;obtain⟨m,h7,h8⟩:=g7 jq (p:=Ty Tryz.prog (n+4) 42) (fun d hd=>HG hd) gs h6;exact⟨(a,(false,l),(false,m)),by rw[←h7,h8];rfl⟩
theorem sT:∀l:List ByteArray,l.flatMap (fun s=>[D.str s])=br l
 |[]=>rfl
 |x::l=>by rw[List.flatMap_cons,sT l];rfl
theorem wn{n:Nat}{c:List D}(h:Ty Tryz.prog (n+2) 22 c):∃l:List ByteArray,c=[.slc false l.length (br l)]:=by
 obtain⟨gs,rfl,_,h6⟩:=gF Tryz.underlying22 h;obtain⟨l,h7,h8⟩:=g7 (fun s:ByteArray=>[D.str s]) (p:=Ty Tryz.prog (n+1) 9) (fun d hd=>by
  obtain⟨a,rfl,_⟩:=jh Tryz.underlying9 hd;exact⟨a,rfl⟩) gs h6
 exact⟨l,by rw[h7,h8,sT]⟩
def MR(u:UV):List D:=[.slc u.cf u.cl.length (br u.cl),.slc u.mf u.me.length (u.me.flatMap bJ),.slc u.hf u.ho.length (u.ho.flatMap bN),.slc u.kf u.mr.length (u.mr.flatMap bD),.slc u.sf u.sg.length (br u.sg),.slc u.pf u.pa.length (u.pa.flatMap bM)]
theorem Ct{n:Nat}{c:List D}(h:Ty Tryz.prog (n+8) 28 c):∃u:UV,c=MR u:=by
 obtain⟨g1,g2,g3,g4,g5,g6,rfl,h1,h2,h3,h4,h5,h6⟩:=x5 Tryz.underlying28 rfl h;obtain⟨cl,rfl⟩:=wn (n:=n+5) h1;obtain⟨gs,rfl,_,a1⟩:=gF Tryz.underlying23 h2;obtain⟨me,a2,a3⟩:=g7 bJ (p:=Ty Tryz.prog (n+6) 76) (fun d hd=>HH (n:=n+4) hd) gs a1;obtain⟨ho,rfl⟩:=yV (n:=n+4) h3;obtain⟨gs',rfl,_,b1⟩:=gF Tryz.underlying25 h4;obtain⟨mr,b2,b3⟩:=g7 bD (p:=Ty Tryz.prog (n+6) 80) (fun d hd=>HI (n:=n+3) hd) gs' b1;obtain⟨sg,rfl⟩:=wn (n:=n+5) h5;obtain⟨gs'',rfl,_,c1⟩:=gF Tryz.underlying26 h6;obtain⟨pa,c2,c3⟩:=g7 bM (p:=Ty Tryz.prog (n+6) 159) (fun d hd=>HJ (n:=n) hd) gs'' c1;refine⟨⟨false,false,false,false,false,false,cl,me,ho,mr,sg,pa⟩,?_⟩;rw[←a2,a3,←b2,b3,←c2,c3];rfl
theorem MS(b:Bool)(e:Int):ce 22 [.bool b,.int .i64 e] (.int .i64 (bx b e 0)):=
 eA cx Tryz.func22 (ord:=O0) (N:=N0) (by kernel_rfl) ((He _ _ _ b e).trans (by cases b<;>rfl))
def fa22:Fam:=⟨22,Bool×Int,fun x=>[.bool x.1,.int .i64 x.2],fun x=> .int .i64 (bx x.1 x.2 0)⟩
theorem zP:fa22.Good:=⟨fun x=>MS x.1 x.2,fun i j h=>by
 obtain⟨a,b⟩:=i;obtain⟨a',b'⟩:=j;have h:[D.bool a,D.int .i64 b]=[D.bool a',D.int .i64 b']:=h;simp at h;simp[h]⟩
theorem MT{call:CL}{f g:Bool}{n:Nat}:∀(r pre:List da) (fuel:Nat),(pre++r).length=n→n≤100000→r.length<fuel→
  tS call LL C1 fuel f n ((pre++r).flatMap cq) g n ((pre++r).flatMap cq) (pre.length:Int)=some (.bool true):=by
 intro r
 induction r with
 |nil=>
  intro pre fuel hn hB hf;cases fuel with
  |zero=>exact absurd hf (Nat.not_lt_zero _)
  |succ fuel=>
   subst hn;rw[sC,co,bp]
 |cons x r ih=>
  intro pre fuel hn hB hf;cases fuel with
  |zero=>exact absurd hf (Nat.not_lt_zero _)
  |succ fuel=>
   have ih:=ih (pre++[x]) fuel (by rw[cJ];exact hn) hB (by simp at hf;omega);rw[cJ] at ih;subst hn;have he:(!(x.1==x.1&&(ByteArray.toList x.2==ByteArray.toList x.2&&true)))=false:=by simp
   rw[sC,cD,bq,cB,bv,n0,bo,n1,bw,bv,n0,bo,n1,bw,he,bp,bZ pre x r (by omega),ih]
theorem MU(l:List da)(hl:l.length≤100000):ce 25 [.slc l.isEmpty l.length (l.flatMap cq),.slc l.isEmpty l.length (l.flatMap cq)] (.bool true):=by
 refine eA cx Tryz.func25 (ord:=O0) (N:=Mi) (by kernel_rfl) ((Hf _ _ _ _ _ _ _ _ _).trans ?_);have h:((l.length:Int) !=(l.length:Int))=false:=by simp
 rw[h,bp];exact MT l [] LL rfl hl (by unfold LL;omega)
theorem MV{call:CL}{f g:Bool}{n:Nat}:∀(r pre:List Int) (fuel:Nat),(pre++r).length=n→n≤100000→r.length<fuel→
  tT call LL C1 fuel f n (np (pre++r)) g n (np (pre++r)) (pre.length:Int)=some (.bool true):=by
 intro r
 induction r with
 |nil=>
  intro pre fuel hn hB hf;cases fuel with
  |zero=>exact absurd hf (Nat.not_lt_zero _)
  |succ fuel=>
   subst hn;rw[sD,co,bp]
 |cons x r ih=>
  intro pre fuel hn hB hf;cases fuel with
  |zero=>exact absurd hf (Nat.not_lt_zero _)
  |succ fuel=>
   have ih:=ih (pre++[x]) fuel (by rw[cJ];exact hn) hB (by simp at hf;omega);rw[cJ] at ih;subst hn;have he:(x !=x)=false:=by simp
   rw[sD,cD,bq,cB,bv,nq,bo,bv,nq,bo,he,bp,bZ pre x r (by omega),ih]
theorem EA(l:List Int):l.flatMap iD=np l:=by
 induction l with
 |nil=>rfl
 |cons x l ih=>rw[List.flatMap_cons,ih];rfl
theorem MW(l:List Int)(hl:l.length≤100000):ce 26 [.slc l.isEmpty l.length (l.flatMap iD),.slc l.isEmpty l.length (l.flatMap iD)] (.bool true):=by
 refine eA cx Tryz.func26 (ord:=O0) (N:=Mj) (by kernel_rfl) ((Hg _ _ _ _ _ _ _ _ _).trans ?_);have h:((l.length:Int) !=(l.length:Int))=false:=by simp
 rw[h,bp,EA];exact MV l [] LL rfl hl (by unfold LL;omega)
def fa26:Fam:=⟨26,{l:List Int//l.length≤100000},fun l=>[.slc l.1.isEmpty l.1.length (l.1.flatMap iD),.slc l.1.isEmpty l.1.length (l.1.flatMap iD)],fun _=> .bool true⟩
theorem zQ:fa26.Good:=⟨fun l=>MW l.1 l.2,fun _ _ _=>rfl⟩
theorem MX{γ:Type}(a b c d e f:D)(k:List D→Option γ):gy (.agg [a,b,c,d,e,f]) 6 k=k [a,b,c,d,e,f]:=rfl
section
variable {γ:Type}(a b c d e f:D)(k:D→Option γ)
theorem MY:bn [a,b,c,d,e,f] 0 k=k a:=rfl
theorem MZ:bn [a,b,c,d,e,f] 1 k=k b:=rfl
theorem M1:bn [a,b,c,d,e,f] 2 k=k c:=rfl
theorem M2:bn [a,b,c,d,e,f] 3 k=k d:=rfl
theorem M3:bn [a,b,c,d,e,f] 4 k=k e:=rfl
theorem M4:bn [a,b,c,d,e,f] 5 k=k f:=rfl
end
section
variable (u:UV)(s:ByteArray)
structure LawB(B:FuncId→List D→Option D):Prop where
 a13:B 13 [.agg [.slc u.cf u.cl.length (br u.cl),.slc u.mf u.me.length (u.me.flatMap bJ),.slc u.hf u.ho.length (u.ho.flatMap bN),.slc u.kf u.mr.length (u.mr.flatMap bD),.slc u.sf u.sg.length (br u.sg),.slc u.pf u.pa.length (u.pa.flatMap bM)]]=some (.agg [.slc u.cf u.cl.length (br u.cl),.slc u.me.isEmpty u.me.length (u.me.flatMap bJ),.slc u.hf u.ho.length (u.ho.flatMap bN),.slc u.mr.isEmpty u.mr.length (u.mr.flatMap bD),.slc u.sf u.sg.length (br u.sg),.slc u.pa.isEmpty u.pa.length (u.pa.flatMap bM)])
 a14:B 14 [.agg [.slc u.cf u.cl.length (br u.cl),.slc u.me.isEmpty u.me.length (u.me.flatMap bJ),.slc u.hf u.ho.length (u.ho.flatMap bN),.slc u.mr.isEmpty u.mr.length (u.mr.flatMap bD),.slc u.sf u.sg.length (br u.sg),.slc u.pa.isEmpty u.pa.length (u.pa.flatMap bM)]]=some (.bool (Co u))
 a15:B 15 []=some (.bool true)
structure LawC(B:FuncId→List D→Option D):Prop where
 a16:B 16 [.agg [.slc u.cf u.cl.length (br u.cl),.slc u.me.isEmpty u.me.length (u.me.flatMap bJ),.slc u.hf u.ho.length (u.ho.flatMap bN),.slc u.mr.isEmpty u.mr.length (u.mr.flatMap bD),.slc u.sf u.sg.length (br u.sg),.slc u.pa.isEmpty u.pa.length (u.pa.flatMap bM)]]=some (.int .i64 (uE u))
 a17:B 17 [.agg [.slc u.cf u.cl.length (br u.cl),.slc u.mf u.me.length (u.me.flatMap bJ),.slc u.hf u.ho.length (u.ho.flatMap bN),.slc u.kf u.mr.length (u.mr.flatMap bD),.slc u.sf u.sg.length (br u.sg),.slc u.pf u.pa.length (u.pa.flatMap bM)]]=some (.int .i64 (uE u))
 a18:B 18 [.agg [.slc u.cf u.cl.length (br u.cl),.slc u.mf u.me.length (u.me.flatMap bJ),.slc u.hf u.ho.length (u.ho.flatMap bN),.slc u.kf u.mr.length (u.mr.flatMap bD),.slc u.sf u.sg.length (br u.sg),.slc u.pf u.pa.length (u.pa.flatMap bM)],.str s]=some (bx (gL u s !=0) (.tup [.agg [.str (ByteArray.mk #[]),.slc true 0 []],.int .i64 (gL u s)]) (.tup [.agg [.str s,ew cq (dL u.mr s u.ho.length 0)],.int .i64 0]))
 a19:B 19 [.agg [.slc u.cf u.cl.length (br u.cl),.slc u.mf u.me.length (u.me.flatMap bJ),.slc u.hf u.ho.length (u.ho.flatMap bN),.slc u.kf u.mr.length (u.mr.flatMap bD),.slc u.sf u.sg.length (br u.sg),.slc u.pf u.pa.length (u.pa.flatMap bM)],.str s]=some (bx (gL u s !=0) (.tup [.slc true 0 [],.int .i64 (gL u s)]) (.tup [ew iD (cS (eH u.mr s) u.ho.length 0),.int .i64 0]))
 a20:B 20 [.agg [.slc u.cf u.cl.length (br u.cl),.slc u.mf u.me.length (u.me.flatMap bJ),.slc u.hf u.ho.length (u.ho.flatMap bN),.slc u.kf u.mr.length (u.mr.flatMap bD),.slc u.sf u.sg.length (br u.sg),.slc u.pf u.pa.length (u.pa.flatMap bM)],.str s]=some (bx (gL u s !=0) (.tup [.slc true 0 [],.int .i64 (gL u s)]) (.tup [ew iD (cS (eI u.mr s) u.ho.length 0),.int .i64 0]))
 a21:B 21 [.agg [.slc u.cf u.cl.length (br u.cl),.slc u.mf u.me.length (u.me.flatMap bJ),.slc u.hf u.ho.length (u.ho.flatMap bN),.slc u.kf u.mr.length (u.mr.flatMap bD),.slc u.sf u.sg.length (br u.sg),.slc u.pf u.pa.length (u.pa.flatMap bM)],.str s]=some (.int .i64 (bx (gL u s !=0) (gL u s) (gI u.mr u.ho.length s)))
 a22:∀(b:Bool) (e:Int),B 22 [.bool b,.int .i64 e]=some (.int .i64 (bx b e 0))
 a23:B 23 [.agg [.slc u.cf u.cl.length (br u.cl),.slc u.me.isEmpty u.me.length (u.me.flatMap bJ),.slc u.hf u.ho.length (u.ho.flatMap bN),.slc u.mr.isEmpty u.mr.length (u.mr.flatMap bD),.slc u.sf u.sg.length (br u.sg),.slc u.pa.isEmpty u.pa.length (u.pa.flatMap bM)],.str s]=some (.int .i64 (ix (fun m:cY=>db m.1 s) u.me))
 a24:B 24 [.agg [.slc u.cf u.cl.length (br u.cl),.slc u.me.isEmpty u.me.length (u.me.flatMap bJ),.slc u.hf u.ho.length (u.ho.flatMap bN),.slc u.mr.isEmpty u.mr.length (u.mr.flatMap bD),.slc u.sf u.sg.length (br u.sg),.slc u.pa.isEmpty u.pa.length (u.pa.flatMap bM)],.str s]=some (.agg [.str s,ew cq (dL u.mr s u.ho.length 0)])
 a25:B 25 [ew cq (dL u.mr s u.ho.length 0),ew cq (dL u.mr s u.ho.length 0)]=some (.bool true)
 a26:∀l:List Int,l.length≤100000→B 26 [ew iD l,ew iD l]=some (.bool true)
 a27:B 27 [.agg [.slc u.cf u.cl.length (br u.cl),.slc u.me.isEmpty u.me.length (u.me.flatMap bJ),.slc u.hf u.ho.length (u.ho.flatMap bN),.slc u.mr.isEmpty u.mr.length (u.mr.flatMap bD),.slc u.sf u.sg.length (br u.sg),.slc u.pa.isEmpty u.pa.length (u.pa.flatMap bM)],.str s]=some (ew iD (cS (eH u.mr s) u.ho.length 0))
 a28:B 28 [.agg [.slc u.cf u.cl.length (br u.cl),.slc u.me.isEmpty u.me.length (u.me.flatMap bJ),.slc u.hf u.ho.length (u.ho.flatMap bN),.slc u.mr.isEmpty u.mr.length (u.mr.flatMap bD),.slc u.sf u.sg.length (br u.sg),.slc u.pa.isEmpty u.pa.length (u.pa.flatMap bM)],.str s]=some (ew iD (cS (eI u.mr s) u.ho.length 0))
 a29:B 29 [.agg [.slc u.cf u.cl.length (br u.cl),.slc u.me.isEmpty u.me.length (u.me.flatMap bJ),.slc u.hf u.ho.length (u.ho.flatMap bN),.slc u.mr.isEmpty u.mr.length (u.mr.flatMap bD),.slc u.sf u.sg.length (br u.sg),.slc u.pa.isEmpty u.pa.length (u.pa.flatMap bM)],.str s]=some (.int .i64 (gI u.mr u.ho.length s))
theorem NB{B:FuncId→List D→Option D}(hn:u.ho.length≤100000)(h:LawB u B)(hc:LawC u s B):vX B LL C1 s u.cf u.cl.length (br u.cl) u.mf u.me.length (u.me.flatMap bJ) u.hf u.ho.length (u.ho.flatMap bN) u.kf u.mr.length (u.mr.flatMap bD) u.sf u.sg.length (br u.sg) u.pf u.pa.length (u.pa.flatMap bM) u.cf u.cl.length (br u.cl) u.me.isEmpty u.me.length (u.me.flatMap bJ) u.hf u.ho.length (u.ho.flatMap bN) u.mr.isEmpty u.mr.length (u.mr.flatMap bD) u.sf u.sg.length (br u.sg) u.pa.isEmpty u.pa.length (u.pa.flatMap bM)=some (.bool true):=by
 have b1:=j7 (eH u.mr s) u.ho.length 0;have b2:=j7 (eI u.mr s) u.ho.length 0;have e25:=hc.a25;have e26o:=hc.a26 _ (za9 b1 hn);have e26d:=hc.a26 _ (za9 b2 hn);have e24:=hc.a24;have e27:=hc.a27;have e28:=hc.a28;have e18:=hc.a18;have e19:=hc.a19;have e20:=hc.a20;rw[dX] at e25 e26o e26d e24 e27 e28 e18 e19 e20;have hne:(uE u !=uE u)=false:=by simp
 have hch:∀vo_f vo_n vo_c vd_f vd_n vd_c vc vc_f vc_n vc_c e1 e2 e3 e4,gL u s=0→vo_f=(cS (eH u.mr s) u.ho.length 0).isEmpty→vo_n=(cS (eH u.mr s) u.ho.length 0).length→vo_c=(cS (eH u.mr s) u.ho.length 0).flatMap iD→
   vd_f=(cS (eI u.mr s) u.ho.length 0).isEmpty→vd_n=(cS (eI u.mr s) u.ho.length 0).length→vd_c=(cS (eI u.mr s) u.ho.length 0).flatMap iD→vc=s→vc_f=(dL u.mr s u.ho.length 0).isEmpty→vc_n=(dL u.mr s u.ho.length 0).length→vc_c=(dL u.mr s u.ho.length 0).flatMap cq→e1=0→e2=0→e3=0→e4=gI u.mr u.ho.length s→
   kz B LL C1 s u.cf u.cl.length (br u.cl) u.me.isEmpty u.me.length (u.me.flatMap bJ) u.hf u.ho.length (u.ho.flatMap bN) u.mr.isEmpty u.mr.length (u.mr.flatMap bD) u.sf u.sg.length (br u.sg) u.pa.isEmpty u.pa.length (u.pa.flatMap bM) 0 e1 vo_f vo_n vo_c e2 vd_f vd_n vd_c e3 e4 vc vc_f vc_n vc_c=some (.bool true):=by
  intro vo_f vo_n vo_c vd_f vd_n vd_c vc vc_f vc_n vc_c e1 e2 e3 e4 _ h1 h2 h3 h4 h5 h6 h7 h8 h9 h10 h11 h12 h13 h14;subst h1 h2 h3 h4 h5 h6 h7 h8 h9 h10 h11 h12 h13 h14;have t1:((0:Int) !=0)=false:=rfl;have t2:((0:Int)==0)=true:=rfl;have t3:(ByteArray.toList vc==ByteArray.toList vc)=true:=by simp
  have t4:(gI u.mr u.ho.length vc==gI u.mr u.ho.length vc)=true:=by simp
  rw[qG (hC:=c1),t1,bp,e24,bm,mS,fa,bw,fb,bH,t2,bq,t3,bq,e25,bm,bA,bq,bq,e27,bm,bH,e26o,bm,bA,bq,bq,e28,bm,bH,e26d,bm,bA,bq,hc.a29,bm,bo,t4,bq,h.a15,bm,bA]
 have hbad:∀e,e≠0→kz B LL C1 s u.cf u.cl.length (br u.cl) u.me.isEmpty u.me.length (u.me.flatMap bJ) u.hf u.ho.length (u.ho.flatMap bN) u.mr.isEmpty u.mr.length (u.mr.flatMap bD) u.sf u.sg.length (br u.sg) u.pa.isEmpty u.pa.length (u.pa.flatMap bM) e e true 0 [] e true 0 [] e e (ByteArray.mk #[]) true 0 []=some (.bool true):=by
  intro e he;have t1:(e !=0)=true:=by simpa using he
  have t2:(e==e)=true:=by simp
  have t3:(IntKind.wrap IntKind.i64 (IntKind.wrap IntKind.i64 (((0:Nat):Int)+((0:Nat):Int))+((0:Nat):Int))==0)=true:=by decide
  have t4:(ByteArray.toList (ByteArray.mk #[])==ByteArray.toList (ByteArray.mk #[]))=true:=by simp
  rw[qG (hC:=c1),t1,bq,t2,bq,t4,bq,t3,bq,bq,bq,bq,h.a15,bm,bA]
 rw[B6 (hC:=c1),hc.a16,bm,bo,hc.a17,bm,bo,hne,bp,e18,bm];cases hce:gL u s !=0 with
 |true=>
  have hce':gL u s≠0:=by simpa using hce
  rw[hce] at e19 e20;have e21:=hc.a21;rw[hce] at e21;rw[bq,kK,fa,mS,fa,bw,fb,bH,fb,bo,e19,bm,bq,kK,fa,bH,fb,bo,e20,bm,bq,kK,fa,bH,fb,bo,e21,bm,bo,bq,hc.a23,bm,bo,js,hc.a22,bm,bo];cases hu:uE u==0 with
  |true=>
   have h0:uE u=0:=by simpa using hu
   have:bx (!zK u.me s) 10 0=gL u s:=by unfold gL;rw[h0];rfl
   rw[bq,this];exact hbad _ hce'
  |false=>
   have h0:(uE u !=0)=true:=by unfold bne;rw[hu];rfl
   have:uE u=gL u s:=by unfold gL;rw[h0];rfl
   rw[bp,this];exact hbad _ hce'
 |false=>
  have hce':gL u s=0:=by simpa using hce
  rw[hce] at e19 e20;have e21:=hc.a21;rw[hce] at e21;have hu:uE u=0:=by
   unfold gL at hce';cases h:uE u !=0 with
   |true=>rw[h,bq] at hce';exact hce'
   |false=>simpa using h
  have hu':(uE u==0)=true:=by rw[hu];rfl
  have hmb:bx (!zK u.me s) 10 0=(0:Int):=by unfold gL at hce';rw[hu] at hce';exact hce'
  rw[bp,kK,fa,mS,fa,bw,fb,bH,fb,bo,e19,bm,bp,kK,fa,bH,fb,bo,e20,bm,bp,kK,fa,bH,fb,bo,e21,bm,bo,hu',bq,hc.a23,bm,bo,js,hc.a22,bm,bo,hmb];exact hch _ _ _ _ _ _ _ _ _ _ _ _ _ _ hce' rfl rfl rfl rfl rfl rfl rfl rfl rfl rfl rfl rfl rfl rfl
theorem Lc{B:FuncId→List D→Option D}(h:LawB u B)(hc:Co u=true→(s.size:Int)≤60→vX B LL C1 s u.cf u.cl.length (br u.cl) u.mf u.me.length (u.me.flatMap bJ) u.hf u.ho.length (u.ho.flatMap bN) u.kf u.mr.length (u.mr.flatMap bD) u.sf u.sg.length (br u.sg) u.pf u.pa.length (u.pa.flatMap bM) u.cf u.cl.length (br u.cl) u.me.isEmpty u.me.length (u.me.flatMap bJ) u.hf u.ho.length (u.ho.flatMap bN) u.mr.isEmpty u.mr.length (u.mr.flatMap bD) u.sf u.sg.length (br u.sg) u.pa.isEmpty u.pa.length (u.pa.flatMap bM)=some (.bool true)):
  bS (cz B LL C1) O0 N3 FinM.canon Tryz.f3 [.agg [.slc u.cf u.cl.length (br u.cl),.slc u.mf u.me.length (u.me.flatMap bJ),.slc u.hf u.ho.length (u.ho.flatMap bN),.slc u.kf u.mr.length (u.mr.flatMap bD),.slc u.sf u.sg.length (br u.sg),.slc u.pf u.pa.length (u.pa.flatMap bM)],.str s]=some (.bool true):=by
 refine(Kb _ _ _ _ _ _ _ _ _ _ _ _ _ _ _ _ _ _ _ _ _ _).trans ?_;rw[h.a13,bm,MX,MY,bH,MZ,bH,M1,bH,M2,bH,M3,bH,M4,bH,h.a14,bm,bA,h.a15,bm,bA];cases h1:Co u with
 |false=>rfl
 |true=>
  rw[Bool.not_true,bp];cases h2:decide ((s.size:Int)>60) with
  |true=>rfl
  |false=>
   simp only[decide_eq_false_iff_not] at h2;rw[bp];exact hc h1 (by omega)
theorem NC(h1:u.me.length*40≤cu)(h3:u.mr.length*64≤cu)(h5:u.pa.length*64≤cu):ce 3 [j6 u,.str s] (.bool true):=by
 have q13:ce 13 [.agg [.slc u.cf u.cl.length (br u.cl),.slc u.mf u.me.length (u.me.flatMap bJ),.slc u.hf u.ho.length (u.ho.flatMap bN),.slc u.kf u.mr.length (u.mr.flatMap bD),.slc u.sf u.sg.length (br u.sg),.slc u.pf u.pa.length (u.pa.flatMap bM)]] (.agg [.slc u.cf u.cl.length (br u.cl),.slc u.me.isEmpty u.me.length (u.me.flatMap bJ),.slc u.hf u.ho.length (u.ho.flatMap bN),.slc u.mr.isEmpty u.mr.length (u.mr.flatMap bD),.slc u.sf u.sg.length (br u.sg),.slc u.pa.isEmpty u.pa.length (u.pa.flatMap bM)]):=MQ u h1 h3 h5;have q14:ce 14 [.agg [.slc u.cf u.cl.length (br u.cl),.slc u.me.isEmpty u.me.length (u.me.flatMap bJ),.slc u.hf u.ho.length (u.ho.flatMap bN),.slc u.mr.isEmpty u.mr.length (u.mr.flatMap bD),.slc u.sf u.sg.length (br u.sg),.slc u.pa.isEmpty u.pa.length (u.pa.flatMap bM)]] (.bool (Co u)):=MP (HE u);cases hs:Co u with
 |false=>
  obtain⟨B,hB,hF⟩:=j2 [one 13 [.agg [.slc u.cf u.cl.length (br u.cl),.slc u.mf u.me.length (u.me.flatMap bJ),.slc u.hf u.ho.length (u.ho.flatMap bN),.slc u.kf u.mr.length (u.mr.flatMap bD),.slc u.sf u.sg.length (br u.sg),.slc u.pf u.pa.length (u.pa.flatMap bM)]] (.agg [.slc u.cf u.cl.length (br u.cl),.slc u.me.isEmpty u.me.length (u.me.flatMap bJ),.slc u.hf u.ho.length (u.ho.flatMap bN),.slc u.mr.isEmpty u.mr.length (u.mr.flatMap bD),.slc u.sf u.sg.length (br u.sg),.slc u.pa.isEmpty u.pa.length (u.pa.flatMap bM)]),one 14 [.agg [.slc u.cf u.cl.length (br u.cl),.slc u.me.isEmpty u.me.length (u.me.flatMap bJ),.slc u.hf u.ho.length (u.ho.flatMap bN),.slc u.mr.isEmpty u.mr.length (u.mr.flatMap bD),.slc u.sf u.sg.length (br u.sg),.slc u.pa.isEmpty u.pa.length (u.pa.flatMap bM)]] (.bool (Co u)),one 15 [] (.bool true)] ⟨bL q13,bL q14,bL J4,trivial⟩ (by kernel_rfl);refine eA hB Tryz.func3 (ord:=O0) (N:=N3) (by kernel_rfl) (Lc u s ⟨hF.1 (),hF.2.1 (),hF.2.2.1 ()⟩ fun h=> ?_);rw[hs] at h;cases h
 |true=>
  obtain⟨hu,h39⟩:=HD u hs;have ho:u.ho.length≤100000:=hu.1.2.2.1;have hm:u.mr.length≤100000:=hu.1.2.2.2.1;have b1:=j7 (eH u.mr s) u.ho.length 0;have b2:=j7 (eI u.mr s) u.ho.length 0;have q16:ce 16 [.agg [.slc u.cf u.cl.length (br u.cl),.slc u.me.isEmpty u.me.length (u.me.flatMap bJ),.slc u.hf u.ho.length (u.ho.flatMap bN),.slc u.mr.isEmpty u.mr.length (u.mr.flatMap bD),.slc u.sf u.sg.length (br u.sg),.slc u.pa.isEmpty u.pa.length (u.pa.flatMap bM)]] (.int .i64 (uE u)):=MG (HE u) hu;have q17:ce 17 [.agg [.slc u.cf u.cl.length (br u.cl),.slc u.mf u.me.length (u.me.flatMap bJ),.slc u.hf u.ho.length (u.ho.flatMap bN),.slc u.kf u.mr.length (u.mr.flatMap bD),.slc u.sf u.sg.length (br u.sg),.slc u.pf u.pa.length (u.pa.flatMap bM)]] (.int .i64 (uE u)):=K7 u hu;have q25:ce 25 [ew cq (dL u.mr s u.ho.length 0),ew cq (dL u.mr s u.ho.length 0)] (.bool true):=by
   rw[dX];exact MU _ (by rw[sO];exact ho)
  obtain⟨B,hB,hF⟩:=j2 [one 13 [.agg [.slc u.cf u.cl.length (br u.cl),.slc u.mf u.me.length (u.me.flatMap bJ),.slc u.hf u.ho.length (u.ho.flatMap bN),.slc u.kf u.mr.length (u.mr.flatMap bD),.slc u.sf u.sg.length (br u.sg),.slc u.pf u.pa.length (u.pa.flatMap bM)]] (.agg [.slc u.cf u.cl.length (br u.cl),.slc u.me.isEmpty u.me.length (u.me.flatMap bJ),.slc u.hf u.ho.length (u.ho.flatMap bN),.slc u.mr.isEmpty u.mr.length (u.mr.flatMap bD),.slc u.sf u.sg.length (br u.sg),.slc u.pa.isEmpty u.pa.length (u.pa.flatMap bM)]),one 14 [.agg [.slc u.cf u.cl.length (br u.cl),.slc u.me.isEmpty u.me.length (u.me.flatMap bJ),.slc u.hf u.ho.length (u.ho.flatMap bN),.slc u.mr.isEmpty u.mr.length (u.mr.flatMap bD),.slc u.sf u.sg.length (br u.sg),.slc u.pa.isEmpty u.pa.length (u.pa.flatMap bM)]] (.bool (Co u)),one 15 [] (.bool true),one 16 [.agg [.slc u.cf u.cl.length (br u.cl),.slc u.me.isEmpty u.me.length (u.me.flatMap bJ),.slc u.hf u.ho.length (u.ho.flatMap bN),.slc u.mr.isEmpty u.mr.length (u.mr.flatMap bD),.slc u.sf u.sg.length (br u.sg),.slc u.pa.isEmpty u.pa.length (u.pa.flatMap bM)]] (.int .i64 (uE u)),one 17 [.agg [.slc u.cf u.cl.length (br u.cl),.slc u.mf u.me.length (u.me.flatMap bJ),.slc u.hf u.ho.length (u.ho.flatMap bN),.slc u.kf u.mr.length (u.mr.flatMap bD),.slc u.sf u.sg.length (br u.sg),.slc u.pf u.pa.length (u.pa.flatMap bM)]] (.int .i64 (uE u)),
    one 18 [.agg [.slc u.cf u.cl.length (br u.cl),.slc u.mf u.me.length (u.me.flatMap bJ),.slc u.hf u.ho.length (u.ho.flatMap bN),.slc u.kf u.mr.length (u.mr.flatMap bD),.slc u.sf u.sg.length (br u.sg),.slc u.pf u.pa.length (u.pa.flatMap bM)],.str s] (bx (gL u s !=0) (.tup [.agg [.str (ByteArray.mk #[]),.slc true 0 []],.int .i64 (gL u s)]) (.tup [.agg [.str s,ew cq (dL u.mr s u.ho.length 0)],.int .i64 0])),
    one 19 [.agg [.slc u.cf u.cl.length (br u.cl),.slc u.mf u.me.length (u.me.flatMap bJ),.slc u.hf u.ho.length (u.ho.flatMap bN),.slc u.kf u.mr.length (u.mr.flatMap bD),.slc u.sf u.sg.length (br u.sg),.slc u.pf u.pa.length (u.pa.flatMap bM)],.str s] (bx (gL u s !=0) (.tup [.slc true 0 [],.int .i64 (gL u s)]) (.tup [ew iD (cS (eH u.mr s) u.ho.length 0),.int .i64 0])),
    one 20 [.agg [.slc u.cf u.cl.length (br u.cl),.slc u.mf u.me.length (u.me.flatMap bJ),.slc u.hf u.ho.length (u.ho.flatMap bN),.slc u.kf u.mr.length (u.mr.flatMap bD),.slc u.sf u.sg.length (br u.sg),.slc u.pf u.pa.length (u.pa.flatMap bM)],.str s] (bx (gL u s !=0) (.tup [.slc true 0 [],.int .i64 (gL u s)]) (.tup [ew iD (cS (eI u.mr s) u.ho.length 0),.int .i64 0])),
    one 21 [.agg [.slc u.cf u.cl.length (br u.cl),.slc u.mf u.me.length (u.me.flatMap bJ),.slc u.hf u.ho.length (u.ho.flatMap bN),.slc u.kf u.mr.length (u.mr.flatMap bD),.slc u.sf u.sg.length (br u.sg),.slc u.pf u.pa.length (u.pa.flatMap bM)],.str s] (.int .i64 (bx (gL u s !=0) (gL u s) (gI u.mr u.ho.length s))),fa22,one 23 [.agg [.slc u.cf u.cl.length (br u.cl),.slc u.me.isEmpty u.me.length (u.me.flatMap bJ),.slc u.hf u.ho.length (u.ho.flatMap bN),.slc u.mr.isEmpty u.mr.length (u.mr.flatMap bD),.slc u.sf u.sg.length (br u.sg),.slc u.pa.isEmpty u.pa.length (u.pa.flatMap bM)],.str s] (.int .i64 (ix (fun m:cY=>db m.1 s) u.me)),one 24 [.agg [.slc u.cf u.cl.length (br u.cl),.slc u.me.isEmpty u.me.length (u.me.flatMap bJ),.slc u.hf u.ho.length (u.ho.flatMap bN),.slc u.mr.isEmpty u.mr.length (u.mr.flatMap bD),.slc u.sf u.sg.length (br u.sg),.slc u.pa.isEmpty u.pa.length (u.pa.flatMap bM)],.str s] (.agg [.str s,ew cq (dL u.mr s u.ho.length 0)]),
    one 25 [ew cq (dL u.mr s u.ho.length 0),ew cq (dL u.mr s u.ho.length 0)] (.bool true),fa26,one 27 [.agg [.slc u.cf u.cl.length (br u.cl),.slc u.me.isEmpty u.me.length (u.me.flatMap bJ),.slc u.hf u.ho.length (u.ho.flatMap bN),.slc u.mr.isEmpty u.mr.length (u.mr.flatMap bD),.slc u.sf u.sg.length (br u.sg),.slc u.pa.isEmpty u.pa.length (u.pa.flatMap bM)],.str s] (ew iD (cS (eH u.mr s) u.ho.length 0)),one 28 [.agg [.slc u.cf u.cl.length (br u.cl),.slc u.me.isEmpty u.me.length (u.me.flatMap bJ),.slc u.hf u.ho.length (u.ho.flatMap bN),.slc u.mr.isEmpty u.mr.length (u.mr.flatMap bD),.slc u.sf u.sg.length (br u.sg),.slc u.pa.isEmpty u.pa.length (u.pa.flatMap bM)],.str s] (ew iD (cS (eI u.mr s) u.ho.length 0)),one 29 [.agg [.slc u.cf u.cl.length (br u.cl),.slc u.me.isEmpty u.me.length (u.me.flatMap bJ),.slc u.hf u.ho.length (u.ho.flatMap bN),.slc u.mr.isEmpty u.mr.length (u.mr.flatMap bD),.slc u.sf u.sg.length (br u.sg),.slc u.pa.isEmpty u.pa.length (u.pa.flatMap bM)],.str s] (.int .i64 (gI u.mr u.ho.length s))]
   ⟨bL q13,bL q14,bL J4,bL q16,bL q17,bL (MH u hu s),bL (MJ u hu s),bL (MK u hu s),bL (MI u hu s),zP,bL (Em u.me s hu.1.2.1),bL (Mr u.mr s ho hm),bL q25,zQ,bL (KP u.mr s ho hm),bL (KQ u.mr s ho hm),bL (K1 u.mr s ho hm),trivial⟩ (by kernel_rfl)
  obtain⟨g13,g14,g15,g16,g17,g18,g19,g20,g21,g22,g23,g24,g25,g26,g27,g28,g29,_⟩:=hF;have hL:LawB u B:=⟨g13 (),g14 (),g15 ()⟩;have hC:LawC u s B:=⟨g16 (),g17 (),g18 (),g19 (),g20 (),g21 (),fun b e=>g22 (b,e),g23 (),g24 (),g25 (),fun l hl=>by rw[dX];exact g26 ⟨l,hl⟩,g27 (),g28 (),g29 ()⟩;exact eA hB Tryz.func3 (ord:=O0) (N:=N3) (by kernel_rfl) (Lc u s hL fun _ _=>NB u s ho hL hC)
end
end Go.Pd
end
