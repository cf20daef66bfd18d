import Derived.Test.YtjhoaknnmfifgaaGreatDoorUnY
import Derived.Test.YtjhoaknnmfifgaaGreatDoorUnJ
import Derived.Test.YtjhoaknnmfifgaaGreatDoorUnX
section
namespace Go.Pd
open Go Go.Proofs Go.RowKit
set_option maxRecDepth 100000
theorem uT{P:Program}{n:Nat}{t:TypeId}{ds:List D}{fs:Array Field}{f1 f2 f3 f4 f5:Field}(hu:P.underlying t=some (.struct fs))(hfs:fs.toList=[f1,f2,f3,f4,f5])(h:Ty P (n+1) t ds):
  ∃g1 g2 g3 g4 g5,ds=g1++g2++g3++g4++g5∧Ty P n f1.type g1∧Ty P n f2.type g2∧Ty P n f3.type g3∧Ty P n f4.type g4∧Ty P n f5.type g5:=by
 unfold Ty at h;rw[hu] at h;obtain⟨gs,h1,h2,h3⟩:=h;have hl:gs.length=5:=by rw[h2,←Array.length_toList,hfs];rfl
 match gs,hl with
 |[g1,g2,g3,g4,g5],_=>exact⟨g1,g2,g3,g4,g5,by rw[h1];simp,h3 0 f1 g1 (by rw[hfs];rfl) rfl,h3 1 f2 g2 (by rw[hfs];rfl) rfl,h3 2 f3 g3 (by rw[hfs];rfl) rfl,h3 3 f4 g4 (by rw[hfs];rfl) rfl,h3 4 f5 g5 (by rw[hfs];rfl) rfl⟩
theorem Er{n:Nat}{c:List D}(h:Ty Tryz.prog (n+3) 130 c):∃x:MsgV,c=bp x:=by
 obtain⟨g1,g2,g3,g4,g5,rfl,h1,h2,h3,h4,h5⟩:=uT Tryz.underlying130 rfl h;obtain⟨a,rfl,_⟩:=wo Tryz.underlying9 h1;obtain⟨b,rfl,_⟩:=ms (k:= .i64) (by kernel_rfl) h2;obtain⟨d,rfl,_⟩:=wo Tryz.underlying9 h3;obtain⟨e,rfl,_⟩:=ms (k:= .i64) (by kernel_rfl) h4;obtain⟨x,rfl⟩:=F6 h5;exact⟨(a,b,d,e,x),rfl⟩
theorem B2{n:Nat}{c:List D}(h:Ty Tryz.prog (n+4) 57 c):∃l:List MsgV,c=[mS false l]:=by
 obtain⟨gs,rfl,_,h6⟩:=t7 (e:=130) (by kernel_rfl) h;obtain⟨l,h7,h8⟩:=xx bp (p:=Ty Tryz.prog (n+3) 130) (fun d hd=>Er hd) gs h6;exact⟨l,by rw[←h7,h8]⟩
theorem Es{n:Nat}{c:List D}(h:Ty Tryz.prog (n+2) 121 c):∃l:List Int,c=[.slc false l.length (BS l)]∧∀k∈l,0≤k∧k≤255:=by
 obtain⟨gs,rfl,_,h1⟩:=t7 (e:=5) (by kernel_rfl) h;have key:∀gs:List (List D),(∀g∈gs,Ty Tryz.prog (n+1) 5 g)→∃l:List Int,gs.length=l.length∧gs.flatten=BS l∧∀k∈l,0≤k∧k≤255:=by
  intro gs
  induction gs with
  |nil=>exact fun _=>⟨[],rfl,rfl,fun k hk=>by cases hk⟩
  |cons g gs ih=>
   intro h;obtain⟨l,e1,e2,e3⟩:=ih fun g hg=>h g (za5 _ hg);obtain⟨x,rfl,hx⟩:=ms (k:= .u8) (by kernel_rfl) (h g (za4 ..));refine⟨x::l,by simp[e1],by rw[List.flatten_cons,e2];rfl,fun k hk=> ?_⟩;rcases List.mem_cons.1 hk with rfl|hk
   ·exact BT hx
   ·exact e3 k hk
 obtain⟨l,e1,e2,e3⟩:=key gs h1;exact⟨l,by rw[e1,e2],e3⟩
theorem B3{n:Nat}{c:List D}(h:Ty Tryz.prog (n+2) 153 c):∃u v:Int,c=[.int .u8 u,.int .u8 v]∧(0≤u∧u≤255)∧0≤v∧v≤255:=by
 unfold Ty at h;rw[show Tryz.prog.underlying 153=some (.array 2 5) by kernel_rfl] at h;obtain⟨gs,rfl,hl,h1⟩:=h
 match gs,hl with
 |[a,b],_=>
  obtain⟨x,rfl,hx⟩:=ms (k:= .u8) (by kernel_rfl) (h1 a (by simp));obtain⟨y,rfl,hy⟩:=ms (k:= .u8) (by kernel_rfl) (h1 b (by simp));exact⟨x,y,rfl,BT hx,BT hy⟩
theorem GL(cs:List (List D))(h:tT Tryz.prog 12 Tryz.f12.params.toList cs)(ha:∀g m c,(fj Tryz.prog Tryz.f12.params.toList cs)[0]?=some (.slc g m c)→m*72≤reachBytes):CallOK Tryz.prog jf 12 (fj Tryz.prog Tryz.f12.params.toList cs) (.bool true):=by
 rw[Tryz.params12] at h ha ⊢;obtain⟨c1,c2,c3,rfl,h1,h2,h3⟩:=CS h;obtain⟨a,rfl⟩:=B2 (n:=8) h1;obtain⟨b,rfl,hb⟩:=Es (n:=10) h2;obtain⟨u,v,rfl,hu,hv⟩:=B3 (n:=10) h3;have e:fj Tryz.prog #[57,121,153].toList [[mS false a],[.slc false b.length (BS b)],[.int .u8 u,.int .u8 v]]=[mS false a,.slc false b.length (BS b),.agg [.int .u8 u,.int .u8 v]]:=by
  simp[fj,lK,cV,show Tryz.prog.underlying 57=some (.slice 130) by kernel_rfl,show Tryz.prog.underlying 121=some (.slice 5) by kernel_rfl,show Tryz.prog.underlying 153=some (.array 2 5) by kernel_rfl]
 rw[e] at ha ⊢;exact K9 a b u v (Nat.le_of_lt (Nat.lt_of_le_of_lt (ha _ _ _ rfl) reachBytes_lt)) hb hu hv
end Go.Pd
namespace Go.Proofs.YtjhoaknnmfifgaaGreatDoor.unionArrives
set_option maxRecDepth 100000
open Go Go.Pd Go.ChangeShapes Go.WideShapes Go.ChangeAt Go.RowKit
theorem zl(H:Type)(enc:TypeId×Value→H)(W:World)(args:Array Value)(ds gs:List (DataW H))(before:List MemPlace)
  (hval:∀(j:Nat) t v,Tryz.f12.params[j]?=some t→args[j]?=some v→Value.okWide Tryz.prog W .any 0 t v)
  (hW:DataW.Whole enc Tryz.prog Tryz.f12.params.toList Rows.unionArrivesSpec.vars false W args.toList ds gs before) (hm:laidMet Tryz.prog Rows.unionArrivesRow.laid W)
  (hw:(DataW.weightsEach Tryz.prog (Tryz.f12.params.toList++(OpenSpec.ofChange Rows.unionArrivesSpec).bare.plain.varTypes Tryz.prog) (ds++gs)).all (· ≤reachBytes)=true):
  Calls Tryz.prog 12 args W fun e W'=>∃v,e= .returned v∧Rows.unionArrivesSpec.post enc Tryz.prog Tryz.f12 false true false false W args v W':=
 wF (tb:=4) Dt Tryz.underlying4 (by kernel_rfl) (zd4.1 (by kernel_rfl:Tryz.f12.params.toList.all (oJ Tryz.prog)=true)) enc rfl (fun ds hl=>by
  rw[Tryz.params12] at hl
  match ds,hl with
  |[d1,d2,d3],_=>rfl) W args ds gs before hval hW (Ja BV hm) fun cs hcs ⟨p,hA⟩ hr=>GL cs hcs fun g m c h=>by
   rw[show Tryz.f12.params.toList=[57,121,153] by rw[Tryz.params12]] at hA;obtain⟨v0,vs0,d0,ds0,p0,q0,hvs0,hds0,_,hv0,hA0⟩:=trodAll_cons hA;have hb:=wZ (e:=130) (show Tryz.prog.underlying 57=some (.slice 130) by kernel_rfl) hv0 (fun k hk=>by
    have:=zd4.1 hw k (DataW.weights_mem_each (j:=0) (t:=57) (d:=d0) (by rw[Tryz.params12];rfl) (by rw[hds0];rfl) k hk);simpa using this) (hr 0 _ v0 h (by rw[hvs0];rfl))
   rw[show Tryz.prog.bytesOf 130=72 by kernel_rfl] at hb;exact hb
theorem card:Rows.UnionArrivesCardSaid:=JP fun H enc W args ds gs before hval hW hm hw=>zl H enc W args ds gs before hval hW hm hw
end Go.Proofs.YtjhoaknnmfifgaaGreatDoor.unionArrives
end
