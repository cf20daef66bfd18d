import Derived.Test.YtjhoaknnmfifgaaGreatDoorUnA
import Derived.KernelRfl
import Derived.Test.YtjhoaknnmfifgaaGreatDoorUnJ
section
namespace Go.Pd
open Go Go.Proofs
set_option maxRecDepth 100000
theorem Ek(call:CL)(L:Nat)(C:Nat→Nat)(z:Bool)(J:Nat)(q:List D)(M:Bool)(O:Nat)(K:List D)(V:Bool)(W:Nat)(U:List D)(Z:Bool)(a0:Nat)(Y:List D)(a2:Bool)(a3:Nat)(a1:List D)(a5:Bool)(a6:Nat)(a4:List D):bS (cD call L C) O0 N0 FinM.canon Tryz.f40 [D.agg [D.slc z J q,D.slc M O K,D.slc V W U,D.slc Z a0 Y,D.slc a2 a3 a1,D.slc a5 a6 a4]]=
 (bG (call 14 [D.agg [D.slc z J q,D.slc M O K,D.slc V W U,D.slc Z a0 Y,D.slc a2 a3 a1,D.slc a5 a6 a4]]) fun r=>bW r fun b=>bC b
 (bG (call 16 [D.agg [D.slc z J q,D.slc M O K,D.slc V W U,D.slc Z a0 Y,D.slc a2 a3 a1,D.slc a5 a6 a4]]) fun a7=>bF .i64 a7 fun x=>some (D.bool (x==0)))
 (some (D.bool false))):=by kernel_rfl
end Go.Pd
end
section
namespace Go.Pd
open Go Go.Proofs Go.RowKit
set_option maxRecDepth 100000
def b1(b:Bool):Nat:=match b with
 |true=>1
 |false=>0
section
variable (u:UV){B:FuncId→List D→Option D}{p vc:ByteArray}{of df cf:Bool}{on dn cn:Nat}{oc dc cc:List D}
theorem P7(hu:u.Fit'):ct 40 [dY u] (.bool (x9 u&&uE u==0)):=by
 obtain⟨B,hB,hF⟩:=iz [one 14 [.agg [.slc u.cf u.cl.length (bz u.cl),.slc u.mf u.me.length (u.me.flatMap bO),.slc u.hf u.ho.length (u.ho.flatMap bR),.slc u.kf u.mr.length (u.mr.flatMap bH),.slc u.sf u.sg.length (bz u.sg),.slc u.pf u.pa.length (u.pa.flatMap bV)]] (.bool (x9 u)),one 16 [.agg [.slc u.cf u.cl.length (bz u.cl),.slc u.mf u.me.length (u.me.flatMap bO),.slc u.hf u.ho.length (u.ho.flatMap bR),.slc u.kf u.mr.length (u.mr.flatMap bH),.slc u.sf u.sg.length (bz u.sg),.slc u.pf u.pa.length (u.pa.flatMap bV)]] (.int .i64 (uE u))] ⟨bN (NS u),bN (NP u hu),trivial⟩ (by kernel_rfl);have a:B 14 [.agg [.slc u.cf u.cl.length (bz u.cl),.slc u.mf u.me.length (u.me.flatMap bO),.slc u.hf u.ho.length (u.ho.flatMap bR),.slc u.kf u.mr.length (u.mr.flatMap bH),.slc u.sf u.sg.length (bz u.sg),.slc u.pf u.pa.length (u.pa.flatMap bV)]]=some (.bool (x9 u)):=hF.1 ();have b:B 16 [.agg [.slc u.cf u.cl.length (bz u.cl),.slc u.mf u.me.length (u.me.flatMap bO),.slc u.hf u.ho.length (u.ho.flatMap bR),.slc u.kf u.mr.length (u.mr.flatMap bH),.slc u.sf u.sg.length (bz u.sg),.slc u.pf u.pa.length (u.pa.flatMap bV)]]=some (.int .i64 (uE u)):=hF.2.1 ();refine ed hB Tryz.func40 (ord:=O0) (N:=N0) (by kernel_rfl) ((Ek _ _ _ _ _ _ _ _ _ _ _ _ _ _ _ _ _ _ _ _ _).trans ?_);rw[a,bq,bD,b,bq,bv];cases x9 u<;>rfl
theorem NW(hs:x9 u=false):ct 40 [dY u] (.bool false):=by
 obtain⟨B,hB,hF⟩:=iz [one 14 [.agg [.slc u.cf u.cl.length (bz u.cl),.slc u.mf u.me.length (u.me.flatMap bO),.slc u.hf u.ho.length (u.ho.flatMap bR),.slc u.kf u.mr.length (u.mr.flatMap bH),.slc u.sf u.sg.length (bz u.sg),.slc u.pf u.pa.length (u.pa.flatMap bV)]] (.bool (x9 u))] ⟨bN (NS u),trivial⟩ (by kernel_rfl);have a:B 14 [.agg [.slc u.cf u.cl.length (bz u.cl),.slc u.mf u.me.length (u.me.flatMap bO),.slc u.hf u.ho.length (u.ho.flatMap bR),.slc u.kf u.mr.length (u.mr.flatMap bH),.slc u.sf u.sg.length (bz u.sg),.slc u.pf u.pa.length (u.pa.flatMap bV)]]=some (.bool (x9 u)):=hF.1 ();refine ed hB Tryz.func40 (ord:=O0) (N:=N0) (by kernel_rfl) ((Ek _ _ _ _ _ _ _ _ _ _ _ _ _ _ _ _ _ _ _ _ _).trans ?_);rw[a,bq,bD,hs];rfl
end
end Go.Pd
end
