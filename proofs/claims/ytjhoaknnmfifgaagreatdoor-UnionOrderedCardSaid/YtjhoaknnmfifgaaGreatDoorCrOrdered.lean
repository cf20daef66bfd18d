import Derived.Test.YtjhoaknnmfifgaaGreatDoorUnS
import Derived.Test.YtjhoaknnmfifgaaGreatDoorUnJ
import Derived.Test.YtjhoaknnmfifgaaGreatDoorUnR
section
namespace Go.Pd
open Go Go.Proofs Go.RowKit
set_option maxRecDepth 100000
theorem OI(cs:List (List D))(h:w9 Tryz.prog 12 Tryz.f6.params.toList cs)(hb:∀cs',(gh Tryz.prog Tryz.f6.params.toList cs)[0]?=some (.agg cs')→(∀g m c,cs'[1]?=some (.slc g m c)→m*40≤reachBytes)∧(∀g m c,cs'[3]?=some (.slc g m c)→m*64≤reachBytes)∧(∀g m c,cs'[5]?=some (.slc g m c)→m*64≤reachBytes)):CallOK Tryz.prog iy 6 (gh Tryz.prog Tryz.f6.params.toList cs) (.bool true):=by
 rw[Tryz.params6] at h hb ⊢;obtain⟨c1,c2,rfl,h1,h2⟩:=Fy h;obtain⟨u,rfl⟩:=Eh (n:=4) h1;obtain⟨v,rfl,hw⟩:=oy Tryz.underlying5 h2;have e:gh Tryz.prog #[28,5].toList [P6 u,[.int .u8 v]]=[dY u,.int .u8 v]:=by
  simp[gh,na,em,Tryz.underlying28,Tryz.underlying5,P6,dY]
 rw[e] at hb ⊢;obtain⟨b1,b3,b5⟩:=hb _ rfl;have hr:∀m,m≤reachBytes→m≤cB:=fun m hm=>Nat.le_of_lt (Nat.lt_of_le_of_lt hm reachBytes_lt);have hv:0≤v∧v≤255:=by simp[Lit.wf,IntKind.min,IntKind.max,IntKind.bits,IntKind.signed] at hw;omega
 exact QP u (hr _ (b1 _ _ _ rfl)) (hr _ (b3 _ _ _ rfl)) (hr _ (b5 _ _ _ rfl)) v hv
end Go.Pd
namespace Go.Proofs.YtjhoaknnmfifgaaGreatDoor.unionOrdered
set_option maxRecDepth 100000
open Go Go.Pd Go.ChangeShapes Go.WideShapes Go.ChangeAt Go.RowKit
theorem B9(H:Type)(enc:TypeId×Value→H)(W:World)(args:Array Value)(ds gs:List (DataW H))(before:List MemPlace)
  (hval:∀(j:Nat) t v,Tryz.f6.params[j]?=some t→args[j]?=some v→Value.okWide Tryz.prog W .any 0 t v)
  (hW:DataW.Whole enc Tryz.prog Tryz.f6.params.toList Rows.unionOrderedSpec.vars false W args.toList ds gs before) (hm:laidMet Tryz.prog Rows.unionOrderedRow.laid W)
  (hw:(DataW.weightsEach Tryz.prog (Tryz.f6.params.toList++(OpenSpec.ofChange Rows.unionOrderedSpec).bare.plain.varTypes Tryz.prog) (ds++gs)).all (· ≤reachBytes)=true):
  Calls Tryz.prog 6 args W fun e W'=>∃v,e= .returned v∧Rows.unionOrderedSpec.post enc Tryz.prog Tryz.f6 false true false false W args v W':=
 zJ (tb:=4) G2 Tryz.underlying4 (by kernel_rfl) (zd5.1 (by kernel_rfl:Tryz.f6.params.toList.all (qT Tryz.prog)=true)) enc rfl (fun ds hl=>by
  rw[Tryz.params6] at hl
  match ds,hl with
  |[d1,d2],_=>rfl) W args ds gs before hval hW (NV EJ hm) fun cs hcs ⟨p,hA⟩ hr=>OI cs hcs fun cs' hd=>by
   rw[show Tryz.f6.params.toList=[28,5] by rw[Tryz.params6]] at hA;obtain⟨v,vs1,d,ds1,p1,q1,hvs,hds,_,hv,_⟩:=trodAll_cons hA;have hrel:=hr 0 _ v hd (by rw[hvs];rfl);have hk:∀k∈d.weights Tryz.prog 28,k≤reachBytes:=fun k hk=>by
    have:=zd5.1 hw k (DataW.weights_mem_each (j:=0) (t:=28) (d:=d) (by rw[Tryz.params6];rfl) (by rw[hds];rfl) k hk);simpa using this
   refine⟨fun g m c h=> ?_,fun g m c h=> ?_,fun g m c h=> ?_⟩
   ·have hb:=mA (j:=1) Tryz.underlying28 rfl Tryz.underlying23 (by kernel_rfl) hv hk hrel h;rw[show Tryz.prog.bytesOf 76=40 by kernel_rfl] at hb;exact hb
   ·have hb:=mA (j:=3) Tryz.underlying28 rfl Tryz.underlying25 (by kernel_rfl) hv hk hrel h;rw[show Tryz.prog.bytesOf 80=64 by kernel_rfl] at hb;exact hb
   ·have hb:=mA (j:=5) Tryz.underlying28 rfl Tryz.underlying26 (by kernel_rfl) hv hk hrel h;rw[show Tryz.prog.bytesOf 159=64 by kernel_rfl] at hb;exact hb
theorem card:Rows.UnionOrderedCardSaid:=Ov fun H enc W args ds gs before hval hW hm hw=>B9 H enc W args ds gs before hval hW hm hw
end Go.Proofs.YtjhoaknnmfifgaaGreatDoor.unionOrdered
end
