import Derived.Test.YtjhoaknnmfifgaaGreatDoorUoE
import Derived.Test.YtjhoaknnmfifgaaGreatDoorUnJ
import Derived.Test.YtjhoaknnmfifgaaGreatDoorUoD
section
namespace Go.Pd
open Go Go.Proofs Go.RowKit
set_option maxRecDepth 100000
theorem xa{P:Program}{n:Nat}{t:TypeId}{ds:List D}{fs:Array Field}{f1 f2 f3 f4 f5:Field}(hu:P.underlying t=some (.struct fs))(hfs:fs.toList=[f1,f2,f3,f4,f5])(h:Ty P (n+1) t ds):
  ∃g1 g2 g3 g4 g5,ds=g1++g2++g3++g4++g5∧Ty P n f1.type g1∧Ty P n f2.type g2∧Ty P n f3.type g3∧Ty P n f4.type g4∧Ty P n f5.type g5:=by
 unfold Ty at h;rw[hu] at h;obtain⟨gs,h1,h2,h3⟩:=h;have hl:gs.length=5:=by rw[h2,←Array.length_toList,hfs];rfl
 match gs,hl with
 |[g1,g2,g3,g4,g5],_=>exact⟨g1,g2,g3,g4,g5,by rw[h1];simp,h3 0 f1 g1 (by rw[hfs];rfl) rfl,h3 1 f2 g2 (by rw[hfs];rfl) rfl,h3 2 f3 g3 (by rw[hfs];rfl) rfl,h3 3 f4 g4 (by rw[hfs];rfl) rfl,h3 4 f5 g5 (by rw[hfs];rfl) rfl⟩
theorem PQ(s:ByteArray):bs s.data.toList=s:=rfl
theorem yY:∀l:List ByteArray,j3 l=(l.map fun s=>s.data.toList).map SB
 |[]=>rfl
 |s::l=>congrArg (D.str s::·) (yY l)
theorem rG:∀l:List Int,l.flatMap iD=b9 l
 |[]=>rfl
 |x::l=>by rw[List.flatMap_cons,rG l];rfl
theorem KD{n:Nat}{c:List D}(h:Ty Tryz.prog (n+4) 91 c):∃e:EvV,c=gw false false e:=by
 obtain⟨g1,g2,g3,g4,g5,rfl,h1,h2,h3,h4,h5⟩:=xa Tryz.underlying91 rfl h;obtain⟨a,rfl,_⟩:=CK (k:= .i64) (by kernel_rfl) h1;obtain⟨k,rfl,_⟩:=tW Tryz.underlying9 h2;obtain⟨l,rfl⟩:=Du (n:=n+1) h3;obtain⟨gs,rfl,_,h6⟩:=we (e:=3) (by kernel_rfl) h4;obtain⟨m,h7,h8⟩:=tX iD (p:=Ty Tryz.prog (n+2) 3) (fun d hd=>by
  obtain⟨x,rfl,_⟩:=CK (k:= .i64) (by kernel_rfl) hd;exact⟨x,rfl⟩) gs h6
 obtain⟨t,rfl,_⟩:=tW Tryz.underlying9 h5;refine⟨⟨a,k.data.toList,l.map fun s=>s.data.toList,m,t.data.toList⟩,?_⟩;rw[h8,rG,←h7,yY];unfold gw;rw[zc2];rfl
theorem Ou(cs:List (List D))(h:v6 Tryz.prog 12 Tryz.f9.params.toList cs):CallOK Tryz.prog je 9 (fN Tryz.prog Tryz.f9.params.toList cs) (.bool true):=by
 rw[Tryz.params9] at h ⊢;obtain⟨c1,c2,rfl,h1,h2⟩:=Fb h;obtain⟨e,rfl⟩:=KD (n:=8) h1;obtain⟨s,rfl,_⟩:=tW Tryz.underlying9 h2;have he:fN Tryz.prog #[91,9].toList [gw false false e,[.str s]]=[.agg (gw false false e),.str s]:=by
  simp[fN,mm,c5,Tryz.underlying91,Tryz.underlying9]
 rw[he];exact QA false false e s.data.toList
end Go.Pd
namespace Go.Proofs.YtjhoaknnmfifgaaGreatDoor.unionLogs
set_option maxRecDepth 100000
open Go Go.Pd Go.ChangeShapes Go.WideShapes Go.ChangeAt Go.RowKit
theorem BD(H:Type)(enc:TypeId×Value→H)(W:World)(args:Array Value)(ds gs:List (DataW H))(before:List MemPlace)
  (hval:∀(j:Nat) t v,Tryz.f9.params[j]?=some t→args[j]?=some v→Value.okWide Tryz.prog W .any 0 t v)
  (hW:DataW.Whole enc Tryz.prog Tryz.f9.params.toList Rows.unionLogsSpec.vars false W args.toList ds gs before) (hm:laidMet Tryz.prog Rows.unionLogsRow.laid W)
  (_:(DataW.weightsEach Tryz.prog (Tryz.f9.params.toList++(OpenSpec.ofChange Rows.unionLogsSpec).bare.plain.varTypes Tryz.prog) (ds++gs)).all (· ≤reachBytes)=true):
  Calls Tryz.prog 9 args W fun e W'=>∃v,e= .returned v∧Rows.unionLogsSpec.post enc Tryz.prog Tryz.f9 false true false false W args v W':=
 yw (tb:=4) FQ Tryz.underlying4 (by kernel_rfl) (zd7.1 (by kernel_rfl:Tryz.f9.params.toList.all (pU Tryz.prog)=true)) enc rfl (fun ds hl=>by
  rw[Tryz.params9] at hl
  match ds,hl with
  |[d1,d2],_=>rfl) W args ds gs before hval hW (MI Ei hm) fun cs hcs ⟨p,hA⟩ hr=>Ou cs hcs
theorem card:Rows.UnionLogsCardSaid:=Oe fun H enc W args ds gs before hval hW hm hw=>BD H enc W args ds gs before hval hW hm hw
end Go.Proofs.YtjhoaknnmfifgaaGreatDoor.unionLogs
end
