import Derived.Test.YtjhoaknnmfifgaaGreatDoorUnN
import Derived.Test.YtjhoaknnmfifgaaGreatDoorUnJ
import Derived.Test.YtjhoaknnmfifgaaGreatDoorUnM
section
namespace Go.Pd
open Go Go.Proofs Go.RowKit
set_option maxRecDepth 100000
theorem LZ(cs:List (List D))(h:vM Tryz.prog 12 Tryz.f5.params.toList cs)(hb:∀cs',(fR Tryz.prog Tryz.f5.params.toList cs)[0]?=some (.agg cs')→(∀g m c,cs'[1]?=some (.slc g m c)→m*40≤reachBytes)∧(∀g m c,cs'[3]?=some (.slc g m c)→m*64≤reachBytes)∧(∀g m c,cs'[5]?=some (.slc g m c)→m*64≤reachBytes)):CallOK Tryz.prog jI 5 (fR Tryz.prog Tryz.f5.params.toList cs) (.bool true):=by
 rw[Tryz.params5] at h hb ⊢;obtain⟨c1,c2,rfl,h1,h2⟩:=DO h;obtain⟨u,rfl⟩:=CP (n:=4) h1;obtain⟨v,rfl,hw⟩:=nH Tryz.underlying5 h2;have e:fR Tryz.prog #[28,5].toList [Nn u,[.int .u8 v]]=[jM u,.int .u8 v]:=by
  simp[fR,mI,d5,Tryz.underlying28,Tryz.underlying5,Nn,jM]
 rw[e] at hb ⊢;obtain⟨b1,b3,b5⟩:=hb _ rfl;have hr:∀m,m≤reachBytes→m≤cu:=fun m hm=>Nat.le_of_lt (Nat.lt_of_le_of_lt hm reachBytes_lt);have hv:0≤v∧v≤255:=by simp[Lit.wf,IntKind.min,IntKind.max,IntKind.bits,IntKind.signed] at hw;omega
 exact NX u (hr _ (b1 _ _ _ rfl)) (hr _ (b3 _ _ _ rfl)) (hr _ (b5 _ _ _ rfl)) v hv
end Go.Pd
namespace Go.Proofs.YtjhoaknnmfifgaaGreatDoor.unionSigns
set_option maxRecDepth 100000
open Go Go.Pd Go.ChangeShapes Go.WideShapes Go.ChangeAt Go.RowKit
theorem Av(H:Type)(enc:TypeId×Value→H)(W:World)(args:Array Value)(ds gs:List (DataW H))(before:List MemPlace)
  (hval:∀(j:Nat) t v,Tryz.f5.params[j]?=some t→args[j]?=some v→Value.okWide Tryz.prog W .any 0 t v)
  (hW:DataW.Whole enc Tryz.prog Tryz.f5.params.toList Rows.unionSignsSpec.vars false W args.toList ds gs before) (hm:laidMet Tryz.prog Rows.unionSignsRow.laid W)
  (hw:(DataW.weightsEach Tryz.prog (Tryz.f5.params.toList++(OpenSpec.ofChange Rows.unionSignsSpec).bare.plain.varTypes Tryz.prog) (ds++gs)).all (· ≤reachBytes)=true):
  Calls Tryz.prog 5 args W fun e W'=>∃v,e= .returned v∧Rows.unionSignsSpec.post enc Tryz.prog Tryz.f5 false true false false W args v W':=
 ym (tb:=4) E3 Tryz.underlying4 (by kernel_rfl) (zd1.1 (by kernel_rfl:Tryz.f5.params.toList.all (qi Tryz.prog)=true)) enc rfl (fun ds hl=>by
  rw[Tryz.params5] at hl
  match ds,hl with
  |[d1,d2],_=>rfl) W args ds gs before hval hW (LF C0 hm) fun cs hcs ⟨p,hA⟩ hr=>LZ cs hcs fun cs' hd=>by
   rw[show Tryz.f5.params.toList=[28,5] by rw[Tryz.params5]] at hA;obtain⟨v,vs1,d,ds1,p1,q1,hvs,hds,_,hv,_⟩:=trodAll_cons hA;have hrel:=hr 0 _ v hd (by rw[hvs];rfl);have hk:∀k∈d.weights Tryz.prog 28,k≤reachBytes:=fun k hk=>by
    have:=zd1.1 hw k (DataW.weights_mem_each (j:=0) (t:=28) (d:=d) (by rw[Tryz.params5];rfl) (by rw[hds];rfl) k hk);simpa using this
   refine⟨fun g m c h=> ?_,fun g m c h=> ?_,fun g m c h=> ?_⟩
   ·have hb:=l6 (j:=1) Tryz.underlying28 rfl Tryz.underlying23 (by kernel_rfl) hv hk hrel h;rw[show Tryz.prog.bytesOf 76=40 by kernel_rfl] at hb;exact hb
   ·have hb:=l6 (j:=3) Tryz.underlying28 rfl Tryz.underlying25 (by kernel_rfl) hv hk hrel h;rw[show Tryz.prog.bytesOf 80=64 by kernel_rfl] at hb;exact hb
   ·have hb:=l6 (j:=5) Tryz.underlying28 rfl Tryz.underlying26 (by kernel_rfl) hv hk hrel h;rw[show Tryz.prog.bytesOf 159=64 by kernel_rfl] at hb;exact hb
theorem card:Rows.UnionSignsCardSaid:=LP fun H enc W args ds gs before hval hW hm hw=>Av H enc W args ds gs before hval hW hm hw
end Go.Proofs.YtjhoaknnmfifgaaGreatDoor.unionSigns
end
