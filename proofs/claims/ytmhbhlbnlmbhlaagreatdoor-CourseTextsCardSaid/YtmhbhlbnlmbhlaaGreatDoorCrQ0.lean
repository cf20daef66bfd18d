import Derived.Test.YtmhbhlbnlmbhlaaGreatDoorCrA
import Derived.KernelRfl
import Derived.Test.YtmhbhlbnlmbhlaaGreatDoorCrK
import Derived.Test.YtmhbhlbnlmbhlaaGreatDoorCrN
section
namespace Go.Pd
open Go Go.Proofs
set_option maxRecDepth 100000
def TC:bY:=fun p=>match p with
 |7=>nm [2,3] [] [2,3]
 |58=>nm [2,3,5] [] [2,3]
 |_=>none
noncomputable def xI(call:CL)(L:Nat)(C:Nat→Nat)(q:Nat)(z:ByteArray)(K M O S:Int)(V:Bool)(W:Nat)(U:List D)(Y:Bool)(a0:Nat)(X:List D)(a1:ByteArray)(a2 a3 a4 a5:Int)(a7:Bool)(a8:Nat)(a6:List D)(aa:Bool)(ab:Nat)(a9:List D)(vi:Int):Option D:=
 cw (cF call L C) O0 TC FinM.canon Tryz.f68 (bt 5 11) [] q (St.mk (J::J::D.loc 2 0 0::D.loc 3 0 0::J::D.int .i64 vi::jn 72 []) (Z::Z::(1,some (Ob.box [D.str z,D.int .i64 K,D.int .i64 M,D.int .i64 O,D.int .i64 S,D.slc V W U,D.slc Y a0 X] false))::(1,some (Ob.box [D.str a1,D.int .i64 a2,D.int .i64 a3,D.int .i64 a4,D.int .i64 a5,D.slc a7 a8 a6,D.slc aa ab a9] false))::zn 74 []))
noncomputable def Gx(call:CL)(L:Nat)(C:Nat→Nat)(q:ByteArray)(z K M O:Int)(U:Bool)(V:Nat)(S:List D)(X:Bool)(Y:Nat)(W:List D)(a0:ByteArray)(a1 a2 a3 a4:Int)(a6:Bool)(a7:Nat)(a5:List D)(a9:Bool)(aa:Nat)(a8:List D):Option D:=
 eL (cF call L C) O0 TC FinM.canon Tryz.f68 [true,true] [] (C 7) (St.mk (J::J::D.loc 2 0 0::D.loc 3 0 0::jn 74 []) (Z::Z::(1,some (Ob.box [D.str q,D.int .i64 z,D.int .i64 K,D.int .i64 M,D.int .i64 O,D.slc U V S,D.slc X Y W] false))::(1,some (Ob.box [D.str a0,D.int .i64 a1,D.int .i64 a2,D.int .i64 a3,D.int .i64 a4,D.slc a6 a7 a5,D.slc a9 aa a8] false))::zn 74 []))
theorem v6(call:CL)(L:Nat)(C:Nat→Nat)(O:Nat)(S:ByteArray)(U V W X:Int)(Z:Bool)(a0:Nat)(Y:List D)(a1:Bool)(z:Nat)(J:List D)(a2:ByteArray)(a3 a4 a5 a6:Int)(a8:Bool)(a9:Nat)(a7:List D)(aa:Bool)(M:Nat)(K:List D)(q:Int):xI call L C (O+1) S U V W X Z a0 Y a1 z J a2 a3 a4 a5 a6 a8 a9 a7 aa M K q=
 (bz (decide (q<(z:Int)))
 (bH (decide (0≤q∧q<(z:Int)))
 (bu J (Int.toNat q*2+0) fun d=>bU d fun s=>bH (decide (0≤q∧q<(M:Int)))
 (bu K (Int.toNat q*2+0) fun ad=>bU ad fun ak=>bz (!ByteArray.toList s==ByteArray.toList ak)
 (some (D.bool false))
 (bH (decide (0≤q∧q<(z:Int)))
 (bu J (Int.toNat q*2+1) fun ae=>dr ae fun f ah c=>bH (decide (0≤q∧q<(M:Int)))
 (bu K (Int.toNat q*2+1) fun af=>dr af fun ag ai ac=>bB (call 121 [D.slc f ah c,D.slc ag ai ac]) fun aj=>ce aj fun ab=>bz (!ab)
 (some (D.bool false))
 (xI call L C O S U V W X Z a0 Y a1 z J a2 a3 a4 a5 a6 a8 a9 a7 aa M K (IntKind.wrap .i64 (q+1)))))))))
 (some (D.bool true))):=by kernel_rfl
theorem Gy(call:CL)(L:Nat)(C:Nat→Nat)(q:ByteArray)(z J K M:Int)(S:Bool)(U:Nat)(O:List D)(W:Bool)(X:Nat)(V:List D)(Y:ByteArray)(Z a0 a1 a2:Int)(a4:Bool)(a5:Nat)(a3:List D)(a7:Bool)(a8:Nat)(a6:List D)(hC:∀t,C t=1):Gx call L C q z J K M S U O W X V Y Z a0 a1 a2 a4 a5 a3 a7 a8 a6=
 (xI call L C L q z J K M S U O W X V Y Z a0 a1 a2 a4 a5 a3 a7 a8 a6 0):=by
 unfold Gx;rw[hC]
 kernel_rfl
theorem NO(call:CL)(L:Nat)(C:Nat→Nat)(q:ByteArray)(z J K M:Int)(S:Bool)(U:Nat)(O:List D)(a6:Bool)(V:Nat)(a5:List D)(W:ByteArray)(X Y Z a0:Int)(a2:Bool)(a3:Nat)(a1:List D)(a8:Bool)(a4:Nat)(a7:List D):bT (cF call L C) O0 TC FinM.canon Tryz.f68 [D.agg [D.str q,D.int .i64 z,D.int .i64 J,D.int .i64 K,D.int .i64 M,D.slc S U O,D.slc a6 V a5],D.agg [D.str W,D.int .i64 X,D.int .i64 Y,D.int .i64 Z,D.int .i64 a0,D.slc a2 a3 a1,D.slc a8 a4 a7]]=
 (bz (!ByteArray.toList q==ByteArray.toList W)
 (some (D.bool false))
 (bz (!(z==X&&(J==Y&&true)))
 (some (D.bool false))
 (bz (!(K==Z&&(M==a0&&true)))
 (some (D.bool false))
 (bB (call 121 [D.slc S U O,D.slc a2 a3 a1]) fun r=>ce r fun b=>bz (!b)
 (some (D.bool false))
 (bz ((V:Int) !=(a4:Int))
 (some (D.bool false))
 (Gx call L C q z J K M S U O a6 V a5 W X Y Z a0 a2 a3 a1 a8 a4 a7)))))):=by kernel_rfl
def NP:bY:=fun p=>match p with
 |58=>nm [0,1,5] [] []
 |_=>none
noncomputable def rT(call:CL)(L:Nat)(C:Nat→Nat)(n:Nat)(z:Bool)(K:Nat)(q:List D)(O:Bool)(S:Nat)(M:List D)(U:Int):Option D:=
 cw (cF call L C) O0 NP FinM.canon Tryz.f121 (bt 5 11) [] n (St.mk (D.slc z K q::D.slc O S M::J::J::J::D.int .i64 U::jn 20 []) (zn 26 []))
theorem tF(call:CL)(L:Nat)(C:Nat→Nat)(n:Nat)(O:Bool)(J:Nat)(z:List D)(S:Bool)(M:Nat)(K:List D)(q:Int):rT call L C (n+1) O J z S M K q=
 (bz (decide (q<(J:Int)))
 (bH (decide (0≤q∧q<(J:Int)))
 (bu z (Int.toNat q*2+0) fun d=>bD .i64 d fun x=>bu z (Int.toNat q*2+1) fun U=>bD .i64 U fun X=>bH (decide (0≤q∧q<(M:Int)))
 (bu K (Int.toNat q*2+0) fun V=>bD .i64 V fun Y=>bu K (Int.toNat q*2+1) fun W=>bD .i64 W fun Z=>bz (!(x==Y&&(X==Z&&true)))
 (some (D.bool false))
 (rT call L C n O J z S M K (IntKind.wrap .i64 (q+1))))))
 (some (D.bool true))):=by kernel_rfl
theorem JZ(call:CL)(L:Nat)(C:Nat→Nat)(K:Bool)(q:Nat)(J:List D)(O:Bool)(z:Nat)(M:List D):bT (cF call L C) O0 NP FinM.canon Tryz.f121 [D.slc K q J,D.slc O z M]=
 (bz ((q:Int) !=(z:Int))
 (some (D.bool false))
 (rT call L C L K q J O z M 0)):=by kernel_rfl
end Go.Pd
end
section
namespace Go.Pd
open Go Go.Proofs Go.RowKit
set_option maxRecDepth 100000
theorem RS{call:CL}{f g:Bool}{l:List Pt}(hl:l.length≤1000):∀(r pre:List Pt) (fuel:Nat),pre++r=l→r.length<fuel→rT call LL C1 fuel f l.length (bJ l) g l.length (bJ l) (pre.length:Int)=some (.bool true):=by
 intro r
 induction r with
 |nil=>
  intro pre fuel hp hf;obtain⟨fuel,rfl⟩:∃n,fuel=n+1:=⟨fuel-1,by omega⟩;rw[zb6] at hp;rw[tF,show decide ((pre.length:Int)<(l.length:Int))=false by rw[hp];simp,bv]
 |cons x r ih=>
  intro pre fuel hp hf;obtain⟨fuel,rfl⟩:∃n,fuel=n+1:=⟨fuel-1,by omega⟩;have ih:=ih (pre++[x]) fuel (by rw[←hp];simp) (by simp at hf;omega);have hlen:pre.length<l.length:=by rw[←hp];simp
  have c0:∀{γ:Type} (k:D→Option γ),bu (bJ l) (Int.toNat (pre.length:Int)*2+0) k=k (.int .i64 x.1):=fun k=>by rw[←hp];exact q0 pre x r
  have c1:∀{γ:Type} (k:D→Option γ),bu (bJ l) (Int.toNat (pre.length:Int)*2+1) k=k (.int .i64 x.2):=fun k=>by rw[←hp];exact q1 pre x r
  have e1:decide ((0:Int)≤(pre.length:Int)∧(pre.length:Int)<(l.length:Int))=true:=za1 ⟨by omega,by omega⟩;have e3:IntKind.wrap .i64 ((pre.length:Int)+1)=((pre++[x]).length:Int):=(bS (by omega)).trans (by simp);rw[tF,show decide ((pre.length:Int)<(l.length:Int))=true by simp;omega,bx,e1,bC,c0,bF,c1,bF,bC,c0,bF,c1,bF,show(!(x.1==x.1&&(x.2==x.2&&true)))=false by simp,bv,e3];exact ih
theorem NQ:eh Tryz.prog O0 Tryz.f121=true:=by kernel_rfl
theorem RT{f g:Bool}(l:List Pt)(hl:l.length≤1000):OK2 121 [.slc f l.length (bJ l),.slc g l.length (bJ l)] (.bool true):=by
 refine dT cK Tryz.func121 (ord:=O0) (N:=NP) NQ ((JZ _ _ _ _ _ _ _ _ _).trans ?_);rw[show((l.length:Int) !=(l.length:Int))=false by simp,bv];exact RS hl l [] LL rfl (by unfold LL;omega)
theorem Vx{call:CL}{h:Hl}(hk:h.Ok)(h121:∀(f:Bool) (l:List Pt),l.length≤1000→call 121 [.slc f l.length (bJ l),.slc f l.length (bJ l)]=some (.bool true)):∀(r pre:List Ar) (fuel:Nat),pre++r=h.areas→r.length<fuel→
  xI call LL C1 fuel h.name h.tee.1 h.tee.2 h.cup.1 h.cup.2 h.lf h.line.length (bJ h.line) h.af h.areas.length (bV h.areas) h.name h.tee.1 h.tee.2 h.cup.1 h.cup.2 h.lf h.line.length (bJ h.line) h.af h.areas.length (bV h.areas) (pre.length:Int)=some (.bool true):=by
 have hal:=hk.a;intro r
 induction r with
 |nil=>
  intro pre fuel hp hf;obtain⟨fuel,rfl⟩:∃n,fuel=n+1:=⟨fuel-1,by omega⟩;rw[zb6] at hp;rw[v6,show decide ((pre.length:Int)<(h.areas.length:Int))=false by rw[hp];simp,bv]
 |cons x r ih=>
  intro pre fuel hp hf;obtain⟨fuel,rfl⟩:∃n,fuel=n+1:=⟨fuel-1,by omega⟩;have ih:=ih (pre++[x]) fuel (by rw[←hp];simp) (by simp at hf;omega);have hlen:pre.length<h.areas.length:=by rw[←hp];simp
  have hxl:x.2.2.length≤1000:=hk.c x (by rw[←hp];simp);have e1:decide ((0:Int)≤(pre.length:Int)∧(pre.length:Int)<(h.areas.length:Int))=true:=za1 ⟨by omega,by omega⟩;have e3:IntKind.wrap .i64 ((pre.length:Int)+1)=((pre++[x]).length:Int):=(bS (by omega)).trans (by simp);have c0:∀{γ:Type} (k:D→Option γ),bu (bV h.areas) (Int.toNat (pre.length:Int)*2+0) k=k (.str x.1):=fun k=>by rw[←hp];exact a0 pre x r
  have c1:∀{γ:Type} (k:D→Option γ),bu (bV h.areas) (Int.toNat (pre.length:Int)*2+1) k=k (.slc x.2.1 x.2.2.length (bJ x.2.2)):=fun k=>by rw[←hp];exact a1 pre x r
  rw[v6,show decide ((pre.length:Int)<(h.areas.length:Int))=true by simp;omega,bx,e1,bC,c0,bP,bC,c0,bP,show(!ByteArray.toList x.1==ByteArray.toList x.1)=false by simp,bv,bC,c1,cL,bC,c1,cL];refine bI (h121 x.2.1 x.2.2 hxl) ?_;rw[cj,Bool.not_true,bv,e3];exact ih
theorem RU:eh Tryz.prog O0 Tryz.f68=true:=by kernel_rfl
def fam121:Fam:=⟨121,{x:Bool×List Pt//x.2.length≤1000},fun x=>[.slc x.1.1 x.1.2.length (bJ x.1.2),.slc x.1.1 x.1.2.length (bJ x.1.2)],fun _=> .bool true⟩
theorem zu:fam121.Good:=⟨fun x=>RT x.1.2 x.2,fun _ _ _=>rfl,fun _=>rfl⟩
theorem Vy(h:Hl)(hk:h.Ok):OK2 68 [bQ h,bQ h] (.bool true):=by
 obtain⟨B,hb,e121,_⟩:=fP [fam121] ⟨zu,trivial⟩ rfl;have f121:∀(f:Bool) (l:List Pt),l.length≤1000→bw B 121 [.slc f l.length (bJ l),.slc f l.length (bJ l)]=some (.bool true):=fun f l hl=>e121 ⟨(f,l),hl⟩;have hal:=hk.a;refine dT hb Tryz.func68 (ord:=O0) (N:=TC) RU ((NO _ _ _ h.name h.tee.1 h.tee.2 h.cup.1 h.cup.2 h.lf h.line.length (bJ h.line) h.af h.areas.length (bV h.areas) h.name h.tee.1 h.tee.2 h.cup.1 h.cup.2 h.lf h.line.length (bJ h.line) h.af h.areas.length (bV h.areas)).trans ?_);rw[show(!ByteArray.toList h.name==ByteArray.toList h.name)=false by simp,bv,show(!(h.tee.1==h.tee.1&&(h.tee.2==h.tee.2&&true)))=false by simp,bv,show(!(h.cup.1==h.cup.1&&(h.cup.2==h.cup.2&&true)))=false by simp,bv];refine bI (f121 h.lf h.line hk.l) ?_;rw[cj,Bool.not_true,bv,show((h.areas.length:Int) !=(h.areas.length:Int))=false by simp,bv,Gy (C:=C1) (hC:=fun _=>rfl)];exact Vx hk f121 h.areas [] LL rfl (by unfold LL;omega)
end Go.Pd
end
