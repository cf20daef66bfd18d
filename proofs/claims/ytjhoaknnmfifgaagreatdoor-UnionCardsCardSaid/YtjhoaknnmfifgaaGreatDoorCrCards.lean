import Derived.Test.YtjhoaknnmfifgaaGreatDoorUnL
import Derived.Test.YtjhoaknnmfifgaaGreatDoorUnJ
section
namespace Go.Pd
open Go Go.Proofs Go.RowKit
set_option maxRecDepth 100000
theorem Ls(cs:List (List D))(h:vt Tryz.prog 12 Tryz.f3.params.toList cs)(hb:∀cs',(fJ Tryz.prog Tryz.f3.params.toList cs)[0]?=some (.agg cs')→(∀g m c,cs'[1]?=some (.slc g m c)→m*40≤reachBytes)∧(∀g m c,cs'[3]?=some (.slc g m c)→m*64≤reachBytes)∧(∀g m c,cs'[5]?=some (.slc g m c)→m*64≤reachBytes)):CallOK Tryz.prog jx 3 (fJ Tryz.prog Tryz.f3.params.toList cs) (.bool true):=by
 rw[Tryz.params3] at h hb ⊢;obtain⟨c1,c2,rfl,h1,h2⟩:=Dl h;obtain⟨u,rfl⟩:=Ct (n:=4) h1;obtain⟨s,rfl,_⟩:=jh Tryz.underlying9 h2;have e:fJ Tryz.prog #[28,9].toList [MR u,[.str s]]=[j6 u,.str s]:=by
  simp[fJ,mv,dV,Tryz.underlying28,Tryz.underlying9,MR,j6]
 rw[e] at hb ⊢;obtain⟨b1,b3,b5⟩:=hb _ rfl;have hr:∀m,m≤reachBytes→m≤cu:=fun m hm=>Nat.le_of_lt (Nat.lt_of_le_of_lt hm reachBytes_lt);exact NC u s (hr _ (b1 _ _ _ rfl)) (hr _ (b3 _ _ _ rfl)) (hr _ (b5 _ _ _ rfl))
end Go.Pd
namespace Go.Proofs.YtjhoaknnmfifgaaGreatDoor.unionCards
set_option maxRecDepth 100000
open Go Go.Pd Go.ChangeShapes Go.WideShapes Go.ChangeAt Go.RowKit
theorem zX(H:Type)(enc:TypeId×Value→H)(W:World)(args:Array Value)(ds gs:List (DataW H))(before:List MemPlace)
  (hval:∀(j:Nat) t v,Tryz.f3.params[j]?=some t→args[j]?=some v→Value.okWide Tryz.prog W .any 0 t v)
  (hW:DataW.Whole enc Tryz.prog Tryz.f3.params.toList Rows.unionCardsSpec.vars false W args.toList ds gs before) (hm:laidMet Tryz.prog Rows.unionCardsRow.laid W)
  (hw:(DataW.weightsEach Tryz.prog (Tryz.f3.params.toList++(OpenSpec.ofChange Rows.unionCardsSpec).bare.plain.varTypes Tryz.prog) (ds++gs)).all (· ≤reachBytes)=true):
  Calls Tryz.prog 3 args W fun e W'=>∃v,e= .returned v∧Rows.unionCardsSpec.post enc Tryz.prog Tryz.f3 false true false false W args v W':=
 x3 (tb:=4) EB Tryz.underlying4 (by kernel_rfl) (zd1.1 (by kernel_rfl:Tryz.f3.params.toList.all (pV Tryz.prog)=true)) enc rfl (fun ds hl=>by
  rw[Tryz.params3] at hl
  match ds,hl with
  |[d1,d2],_=>rfl) W args ds gs before hval hW (Le Cw hm) fun cs hcs ⟨p,hA⟩ hr=>Ls cs hcs fun cs' hd=>by
   rw[show Tryz.f3.params.toList=[28,9] by rw[Tryz.params3]] at hA;obtain⟨v,vs1,d,ds1,p1,q1,hvs,hds,_,hv,_⟩:=trodAll_cons hA;have hrel:=hr 0 _ v hd (by rw[hvs];rfl);have hk:∀k∈d.weights Tryz.prog 28,k≤reachBytes:=fun k hk=>by
    have:=zd1.1 hw k (DataW.weights_mem_each (j:=0) (t:=28) (d:=d) (by rw[Tryz.params3];rfl) (by rw[hds];rfl) k hk);simpa using this
   refine⟨fun g m c h=> ?_,fun g m c h=> ?_,fun g m c h=> ?_⟩
   ·have hb:=lR (j:=1) Tryz.underlying28 rfl Tryz.underlying23 (by kernel_rfl) hv hk hrel h;rw[show Tryz.prog.bytesOf 76=40 by kernel_rfl] at hb;exact hb
   ·have hb:=lR (j:=3) Tryz.underlying28 rfl Tryz.underlying25 (by kernel_rfl) hv hk hrel h;rw[show Tryz.prog.bytesOf 80=64 by kernel_rfl] at hb;exact hb
   ·have hb:=lR (j:=5) Tryz.underlying28 rfl Tryz.underlying26 (by kernel_rfl) hv hk hrel h;rw[show Tryz.prog.bytesOf 159=64 by kernel_rfl] at hb;exact hb
theorem card:Rows.UnionCardsCardSaid:=Lk fun H enc W args ds gs before hval hW hm hw=>zX H enc W args ds gs before hval hW hm hw
end Go.Proofs.YtjhoaknnmfifgaaGreatDoor.unionCards
end
