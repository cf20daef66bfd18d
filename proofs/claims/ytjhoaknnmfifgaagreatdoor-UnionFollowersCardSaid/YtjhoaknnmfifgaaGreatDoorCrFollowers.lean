import Derived.Test.YtjhoaknnmfifgaaGreatDoorUnW
import Derived.Test.YtjhoaknnmfifgaaGreatDoorUnJ
import Derived.Test.YtjhoaknnmfifgaaGreatDoorUnV
section
namespace Go.Pd
open Go Go.Proofs Go.RowKit
set_option maxRecDepth 100000
theorem u7{P:Program}{n:Nat}{t:TypeId}{ds:List D}{fs:Array Field}{f1:Field}(hu:P.underlying t=some (.struct fs))(hfs:fs.toList=[f1])(h:Ty P (n+1) t ds):Ty P n f1.type ds:=by
 unfold Ty at h;rw[hu] at h;obtain⟨gs,h1,h2,h3⟩:=h;have hl:gs.length=1:=by rw[h2,←Array.length_toList,hfs];rfl
 match gs,hl with
 |[g1],_=>
  have:=h3 0 f1 g1 (by rw[hfs];rfl) rfl;rw[h1];simpa using this
theorem vd{P:Program}{n:Nat}{t:TypeId}{ds:List D}{fs:Array Field}{f1 f2 f3 f4 f5:Field}(hu:P.underlying t=some (.struct fs))(hfs:fs.toList=[f1,f2,f3,f4,f5])(h:Ty P (n+1) t ds):
  ∃g1 g2 g3 g4 g5,ds=g1++g2++g3++g4++g5∧Ty P n f1.type g1∧Ty P n f2.type g2∧Ty P n f3.type g3∧Ty P n f4.type g4∧Ty P n f5.type g5:=by
 unfold Ty at h;rw[hu] at h;obtain⟨gs,h1,h2,h3⟩:=h;have hl:gs.length=5:=by rw[h2,←Array.length_toList,hfs];rfl
 match gs,hl with
 |[g1,g2,g3,g4,g5],_=>exact⟨g1,g2,g3,g4,g5,by rw[h1];simp,h3 0 f1 g1 (by rw[hfs];rfl) rfl,h3 1 f2 g2 (by rw[hfs];rfl) rfl,h3 2 f3 g3 (by rw[hfs];rfl) rfl,h3 3 f4 g4 (by rw[hfs];rfl) rfl,h3 4 f5 g5 (by rw[hfs];rfl) rfl⟩
theorem y7{n:Nat}{c:List D}(h:Ty Tryz.prog (n+3) 130 c):∃x:MsgV,c=bA x:=by
 obtain⟨g1,g2,g3,g4,g5,rfl,h1,h2,h3,h4,h5⟩:=vd Tryz.underlying130 rfl h;obtain⟨a,rfl,_⟩:=wB Tryz.underlying9 h1;obtain⟨b,rfl,_⟩:=wA (k:= .i64) (by kernel_rfl) h2;obtain⟨d,rfl,_⟩:=wB Tryz.underlying9 h3;obtain⟨e,rfl,_⟩:=wA (k:= .i64) (by kernel_rfl) h4;obtain⟨x,rfl⟩:=Fl h5;exact⟨(a,b,d,e,x),rfl⟩
theorem y8{n:Nat}{c:List D}(h:Ty Tryz.prog (n+5) 59 c):∃l:List MsgV,c=[mS false l]:=by
 have h:=u7 Tryz.underlying59 rfl h;obtain⟨gs,rfl,_,h6⟩:=Av (by kernel_rfl) h;obtain⟨l,h7,h8⟩:=xE bA (p:=Ty Tryz.prog (n+3) 130) (fun d hd=>y7 hd) gs h6;exact⟨l,by rw[←h7,h8]⟩
theorem FY(cs:List (List D))(h:t8 Tryz.prog 12 Tryz.f11.params.toList cs)(ha:∀cs',(fg Tryz.prog Tryz.f11.params.toList cs)[0]?=some (.agg cs')→∀g m c,cs'[0]?=some (.slc g m c)→m*72≤reachBytes)(hb:∀cs',(fg Tryz.prog Tryz.f11.params.toList cs)[1]?=some (.agg cs')→∀g m c,cs'[0]?=some (.slc g m c)→m*72≤reachBytes):CallOK Tryz.prog jo 11 (fg Tryz.prog Tryz.f11.params.toList cs) (.bool true):=by
 rw[Tryz.params11] at h ha hb ⊢;obtain⟨c1,c2,c3,rfl,h1,h2,h3⟩:=Cp h;obtain⟨a,rfl⟩:=y8 (n:=7) h1;obtain⟨b,rfl⟩:=y8 (n:=7) h2;obtain⟨m,rfl⟩:=y7 (n:=9) h3;have e:fg Tryz.prog #[59,59,130].toList [[mS false a],[mS false b],bA m]=[.agg [mS false a],.agg [mS false b],.agg (bA m)]:=by
  simp[fg,lK,c9,Tryz.underlying59,Tryz.underlying130]
 rw[e] at ha hb ⊢;have hr:∀m,m≤reachBytes→m≤bS:=fun m hm=>Nat.le_of_lt (Nat.lt_of_le_of_lt hm reachBytes_lt);exact Ky a b m (hr _ (ha _ rfl _ _ _ rfl)) (hr _ (hb _ rfl _ _ _ rfl))
end Go.Pd
namespace Go.Proofs.YtjhoaknnmfifgaaGreatDoor.unionFollowers
set_option maxRecDepth 100000
open Go Go.Pd Go.ChangeShapes Go.WideShapes Go.ChangeAt Go.RowKit
theorem y9(H:Type)(enc:TypeId×Value→H)(W:World)(args:Array Value)(ds gs:List (DataW H))(before:List MemPlace)
  (hval:∀(j:Nat) t v,Tryz.f11.params[j]?=some t→args[j]?=some v→Value.okWide Tryz.prog W .any 0 t v)
  (hW:DataW.Whole enc Tryz.prog Tryz.f11.params.toList Rows.unionFollowersSpec.vars false W args.toList ds gs before) (hm:laidMet Tryz.prog Rows.unionFollowersRow.laid W)
  (hw:(DataW.weightsEach Tryz.prog (Tryz.f11.params.toList++(OpenSpec.ofChange Rows.unionFollowersSpec).bare.plain.varTypes Tryz.prog) (ds++gs)).all (· ≤reachBytes)=true):
  Calls Tryz.prog 11 args W fun e W'=>∃v,e= .returned v∧Rows.unionFollowersSpec.post enc Tryz.prog Tryz.f11 false true false false W args v W':=
 wR (tb:=4) CZ Tryz.underlying4 (by kernel_rfl) (zd3.1 (by kernel_rfl:Tryz.f11.params.toList.all (oM Tryz.prog)=true)) enc rfl (fun ds hl=>by
  rw[Tryz.params11] at hl
  match ds,hl with
  |[d1,d2,d3],_=>rfl) W args ds gs before hval hW (Ik By hm) fun cs hcs ⟨p,hA⟩ hr=>FY cs hcs (fun cs' hd g m c h=>by
   rw[show Tryz.f11.params.toList=[59,59,130] by rw[Tryz.params11]] at hA;obtain⟨v0,vs0,d0,ds0,p0,q0,hvs0,hds0,_,hv0,hA0⟩:=trodAll_cons hA;have hb:=pj (e:=130) (j:=0) Tryz.underlying59 rfl (by kernel_rfl) (by kernel_rfl) hv0 (fun k hk=>by
    have:=zd3.1 hw k (DataW.weights_mem_each (j:=0) (t:=59) (d:=d0) (by rw[Tryz.params11];rfl) (by rw[hds0];rfl) k hk);simpa using this) (hr 0 _ v0 hd (by rw[hvs0];rfl)) h
   rw[show Tryz.prog.bytesOf 130=72 by kernel_rfl] at hb;exact hb) (fun cs' hd g m c h=>by
   rw[show Tryz.f11.params.toList=[59,59,130] by rw[Tryz.params11]] at hA;obtain⟨v0,vs0,d0,ds0,p0,q0,hvs0,hds0,_,hv0,hA0⟩:=trodAll_cons hA;obtain⟨v1,vs1,d1,ds1,p1,q1,hvs1,hds1,_,hv1,hA1⟩:=trodAll_cons hA0;have hb:=pj (e:=130) (j:=0) Tryz.underlying59 rfl (by kernel_rfl) (by kernel_rfl) hv1 (fun k hk=>by
    have:=zd3.1 hw k (DataW.weights_mem_each (j:=1) (t:=59) (d:=d1) (by rw[Tryz.params11];rfl) (by rw[hds0,hds1];rfl) k hk);simpa using this) (hr 1 _ v1 hd (by rw[hvs0,hvs1];rfl)) h
   rw[show Tryz.prog.bytesOf 130=72 by kernel_rfl] at hb;exact hb)
theorem card:Rows.UnionFollowersCardSaid:=IW fun H enc W args ds gs before hval hW hm hw=>y9 H enc W args ds gs before hval hW hm hw
end Go.Proofs.YtjhoaknnmfifgaaGreatDoor.unionFollowers
end
