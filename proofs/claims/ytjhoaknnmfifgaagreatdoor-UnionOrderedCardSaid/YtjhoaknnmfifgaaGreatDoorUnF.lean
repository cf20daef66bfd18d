import Derived.Test.YtjhoaknnmfifgaaGreatDoorUnA
import Derived.Test.YtjhoaknnmfifgaaGreatDoorPdFf
import Derived.Test.YtjhoaknnmfifgaaGreatDoorUnDb
import Derived.Test.YtjhoaknnmfifgaaGreatDoorUnDc
import Derived.Test.YtjhoaknnmfifgaaGreatDoorUnDe
section
namespace Go.Pd
open Go Go.Proofs
set_option maxRecDepth 100000
def DN:bP:=fun p=>match p with
 |14=>nm [0,1,3,4] [8] [3,8]
 |_=>none
noncomputable def pY(call:CL)(L:Nat)(C:Nat→Nat)(l n:Nat)(M:ByteArray)(q vx z K:Int):Option (List (List D)):=
 Fh (Mr call L C l) O0 DN FinM.raw Tryz.f268 [true,true,false] [] n (St.mk (D.fn (Fn.yield l) [] []::D.snap [D.str M] 0::J::D.loc 3 0 0::D.int .i64 q::jn 66 []) (Z::Z::Z::(1,some (Ob.box [D.int .i64 vx,D.int .i64 z,D.int .i64 K] false))::zn 67 []))
theorem zj(call:CL)(L:Nat)(C:Nat→Nat)(l n:Nat)(q:ByteArray)(O vx J ag:Int):pY call L C l (n+1) q O vx J ag=
 (bC (decide (vx<((ByteArray.size q):Int)))
 (bL (decide (0≤vx∧vx≤((ByteArray.size q):Int)∧((ByteArray.size q):Int)≤((ByteArray.size q):Int)))
 (bG (call 133 [D.str (ByteArray.extract q (Int.toNat vx) (Int.toNat ((ByteArray.size q):Int))),D.str (ByteArray.mk #[10])]) fun r=>fY r 3 fun c=>bu c 0 fun d=>bY d fun s=>bu c 1 fun Y=>bY Y fun _=>bu c 2 fun a0=>bW a0 fun b=>bC (!b)
 (bL (decide (l=l))
 (lB [D.agg [D.int .i64 0,D.str (ByteArray.mk #[]),D.nils,D.nils,D.str (ByteArray.mk #[])],D.agg [D.int .i64 vx,D.int .i64 J,D.int .i64 28]]
 (some [])
 (some [])))
 (bG (call 269 [D.str s,D.int .i64 J]) fun ab=>fY ab 3 fun M=>bu M 0 fun a1=>gG a1 5 fun z=>bu z 0 fun a2=>bF .i64 a2 fun x=>bu z 1 fun a3=>bY a3 fun ae=>bu z 2 fun a4=>cV a4 fun f a9 V=>bu z 3 fun a5=>cV a5 fun a8 aa W=>bu z 4 fun a6=>bY a6 fun af=>bu M 1 fun a7=>bF .i64 a7 fun U=>bu M 2 fun Z=>bF .i64 Z fun ah=>bG (call 119 [D.bool (O==1000),D.int .i64 5]) fun ac=>bF .i64 ac fun ai=>bG (call 87 [D.slc true 2 [D.int .i64 ah,D.int .i64 ai]]) fun ad=>bF .i64 ad fun K=>bC (K !=0)
 (bL (decide (l=l))
 (lB [D.agg [D.int .i64 0,D.str (ByteArray.mk #[]),D.nils,D.nils,D.str (ByteArray.mk #[])],D.agg [D.int .i64 vx,D.int .i64 J,D.int .i64 K]]
 (some [])
 (some [])))
 (bL (decide (l=l))
 (lB [D.agg [D.int .i64 x,D.str ae,D.slc f a9 V,D.slc a8 aa W,D.str af],D.agg [D.int .i64 (IntKind.wrap .i64 (IntKind.wrap .i64 (vx+((ByteArray.size s):Int))+1)),D.int .i64 U,D.int .i64 K]]
 (pY call L C l n q (IntKind.wrap .i64 (O+1)) (IntKind.wrap .i64 (IntKind.wrap .i64 (vx+((ByteArray.size s):Int))+1)) U K)
 (some []))))))
 (some [])):=by kernel_rfl
theorem FV(call:CL)(L:Nat)(C:Nat→Nat)(l:Nat)(q:ByteArray):ke (fh (Mr call L C l) O0 DN (uS Tryz.f268) 1 (cT Tryz.f268 [D.fn (Fn.yield l) [] [],D.snap [D.str q] 0]) (kE (Mr call L C l).E FinM.raw Tryz.f268))=
 (pY call L C l L q 0 0 0 0):=by kernel_rfl
noncomputable def JD(call:CL)(vyield0:ByteArray)(n:Nat):Int→Int→Int→Int→Option (List (List D)):=Nat.rec (fun _ _ _ _=>none) (fun _ R vcount vx vx1 _=>
 (bC (decide (vx<((ByteArray.size vyield0):Int)))
  (bL (decide (0≤vx∧vx≤((ByteArray.size vyield0):Int)∧((ByteArray.size vyield0):Int)≤((ByteArray.size vyield0):Int)))
   (bG (call 133 [D.str (ByteArray.extract vyield0 (Int.toNat vx) (Int.toNat ((ByteArray.size vyield0):Int))),D.str (ByteArray.mk #[10])]) fun r=>
    (fY (r) 3 fun c=>
    (bu (c) (0) fun d=>
    (bY (d) fun s=>
    (bu (c) (1) fun d_1=>
    (bY (d_1) fun _=>
    (bu (c) (2) fun d_2=>
    (bW (d_2) fun b=>
    (bC (!b)
     (
      (lB [D.agg [D.int IntKind.i64 0,D.str (ByteArray.mk #[]),D.nils,D.nils,D.str (ByteArray.mk #[])],D.agg [D.int IntKind.i64 vx,D.int IntKind.i64 vx1,D.int IntKind.i64 28]]
       (some [])
       (some [])))
     (bG (call 269 [D.str s,D.int IntKind.i64 vx1]) fun r_1=>
      (fY (r_1) 3 fun c_1=>
      (bu (c_1) (0) fun d_3=>
      (gG (d_3) 5 fun c_2=>
      (bu (c_2) (0) fun d_4=>
      (bF IntKind.i64 (d_4) fun x=>
      (bu (c_2) (1) fun d_5=>
      (bY (d_5) fun s_2=>
      (bu (c_2) (2) fun d_6=>
      (cV (d_6) fun f n_1 c_3=>
      (bu (c_2) (3) fun d_7=>
      (cV (d_7) fun f_1 n_2 c_4=>
      (bu (c_2) (4) fun d_8=>
      (bY (d_8) fun s_3=>
      (bu (c_1) (1) fun d_9=>
      (bF IntKind.i64 (d_9) fun x_1=>
      (bu (c_1) (2) fun d_10=>
      (bF IntKind.i64 (d_10) fun x_2=>
      (bG (call 119 [D.bool (vcount==1000),D.int IntKind.i64 5]) fun r_2=>
       (bF IntKind.i64 (r_2) fun x_3=>
       (bG (call 87 [D.slc true 2 [D.int IntKind.i64 x_2,D.int IntKind.i64 x_3]]) fun r_3=>
        (bF IntKind.i64 (r_3) fun x_4=>
        (bC (x_4 !=0)
         (
          (lB [D.agg [D.int IntKind.i64 0,D.str (ByteArray.mk #[]),D.nils,D.nils,D.str (ByteArray.mk #[])],D.agg [D.int IntKind.i64 vx,D.int IntKind.i64 vx1,D.int IntKind.i64 x_4]]
           (some [])
           (some [])))
         (
          (lB [D.agg [D.int IntKind.i64 x,D.str s_2,D.slc f n_1 c_3,D.slc f_1 n_2 c_4,D.str s_3],D.agg [D.int IntKind.i64 (IntKind.wrap IntKind.i64 (IntKind.wrap IntKind.i64 (vx+((ByteArray.size s):Int))+1)),D.int IntKind.i64 x_1,D.int IntKind.i64 x_4]]
           (R (IntKind.wrap IntKind.i64 (vcount+1)) (IntKind.wrap IntKind.i64 (IntKind.wrap IntKind.i64 (vx+((ByteArray.size s):Int))+1)) (x_1) (x_4))
           (some []))))))))))))))))))))))))))))))))))))
  (some []))) n
theorem AD(call:CL)(L:Nat)(C:Nat→Nat)(l:Nat)(s:ByteArray):∀(n:Nat) (c x x1 x2:Int),pY call L C l n s c x x1 x2=JD call s n c x x1 x2
 |0,c,x,x1,x2=>by kernel_rfl
 |n+1,c,x,x1,x2=>by
  rw[zj];simp only[AD call L C l s n];rfl
theorem SeqOK.weak{P:Program}{gl:Nat→Option D}{g:FuncId}{caps:List D}{ys:List (List D)}{f:D→D}(hf:∀I w d v,RelC I w d v→RelC I w (f d) v)(h:SeqOK P gl g caps ys):SeqOK P gl g caps (ys.map fun y=>y.map f):=
 ⟨h.1,fun n l I w vcaps O Fz J Jx a1 a2 a3 a4 a5 a6 a7 a8 a9 a10=>by
  rw[zc0];exact h.2 n l I w vcaps O Fz J Jx a1 a2 a3 a4 a5 a6 a7 a8 (fun i y O Fz I1 W1 args hy hJ b1 b2 b3 hl hr=>a9 i (y.map f) O Fz I1 W1 args (by rw[zc1,hy];rfl) hJ b1 b2 b3 (by simpa using hl) fun j d v hd hv=>by
   obtain⟨x,hx,rfl⟩:=jZ hd;exact hf _ _ _ _ (hr j x v hx hv)) a10⟩
theorem FW{call:CL}{s:ByteArray}{ys:List (List D)}(hE:EnvOK (cD call 1000 C1).E)(h:JD call s 1000 0 0 0 0=some ys):SeqOK Tryz.prog iy 268 [.snap [.str s] 0] ys:=by
 refine C9 (Te:=cD call 1000 C1) j0 hE (fun _ _ _ h=>by cases h) Tryz.func268 (ord:=O0) (N:=DN) (by kernel_rfl) rfl ?_;unfold CX;have hb:Tryz.f268.body=some (uS Tryz.f268):=rfl;rw[hb];dsimp only;have he:∀l,ke (fh (Mr call 1000 C1 l) O0 DN (uS Tryz.f268) 1 (cT Tryz.f268 [D.fn (Fn.yield l) [] [],D.snap [D.str s] 0]) (kE (Mr call 1000 C1 l).E FinM.raw Tryz.f268))=some ys:=fun l=>by
  rw[FV,AD];exact h
 have:(fun l=>ke (fh {cD call 1000 C1 with it:=some l} O0 DN (uS Tryz.f268) 1 (cT Tryz.f268 (.fn (.yield l) [] []::[D.snap [D.str s] 0])) (kE (cD call 1000 C1).E .raw Tryz.f268)))=fun _=>some ys:=funext he;rw[this];exact y5 _
end Go.Pd
end
section
namespace Go.Pd
open Go Go.Proofs Go.RowKit
set_option maxRecDepth 100000
def DO:Nat→Int
 |1=>20
 |2=>48
 |3=>76
 |4=>99
 |5=>125
 |6=>148
 |7=>174
 |8=>200
 |_=>0
def QK:D:= .agg [nI 0,SB [],.nils,.nils,SB []]
def rcY:List (List D):=[[c6 1,.agg [nI (DO 1),nI (bJ 1),nI 0]],[c6 2,.agg [nI (DO 2),nI (bJ 2),nI 0]],[c6 3,.agg [nI (DO 3),nI (bJ 3),nI 0]],[c6 4,.agg [nI (DO 4),nI (bJ 4),nI 0]],[c6 5,.agg [nI (DO 5),nI (bJ 5),nI 0]],[c6 6,.agg [nI (DO 6),nI (bJ 6),nI 0]],[c6 7,.agg [nI (DO 7),nI (bJ 7),nI 0]],[c6 8,.agg [nI (DO 8),nI (bJ 8),nI 0]],[QK,.agg [nI (DO 8),nI (bJ 8),nI 28]]]
theorem QL:JD (gi (BU Qp [] []) 60 false) (bs Dw) 1000 0 0 0 0=some rcY:=by kernel_rfl
theorem QM:SeqOK Tryz.prog iy 268 [.snap [SB Dw] 0] (rcY.map fun y=>y.map (Ft 6)):=SeqOK.weak (fun _ _ _ _ h=>kY 6 h) (FW ⟨Br (fun _ _ _ h=>BQ JC pX rm h),fun _ _ h=>(by cases h),fun _ _ _ h=>(by cases h),fun _ _ h=>(by cases h)⟩ QL)
def Pr:List xy:=[(268,[.snap [SB Dw] 0],rcY.map fun y=>y.map (Ft 6))]
theorem FX:∀e∈Pr,SeqOK Tryz.prog iy e.1 e.2.1 e.2.2:=fun e he=>by rw[zc9.1 he];exact QM
theorem QN:ct 59 [SB Dw] (.tup [.slc false 8 (MJ 8),nI (DO 8),nI 28]):=BQ ly pX FX (by kernel_rfl)
def Qq:List mo:=[(61,[MK],Dv),(45,[Dv],.tup [uD,nI 0,nI 0]),(18,[uD,SB kK],lA (.agg [SB kK,.slc false 2 [nI 5,SB [],nI 3,SB []]])),(19,[uD,SB kK],lA (.slc false 1 [nI 2])),(20,[uD,SB kK],lA (.slc true 0 [])),(21,[uD,SB kK],nI 7),(32,[uD],lA (.slc false 2 KW)),(69,[fD],lA (.slc false 1 [SB [100],nI 1,SB kK,nI 1,nI 4,SB []])),(70,[fD],lA (.slc false 1 [SB [100],nI 2])),(33,[uD,fD],lA (.slc false 1 [SB kK,nI 1,nI 0])),(59,[SB Dw],.tup [.slc false 8 (MJ 8),nI (DO 8),nI 28])]
theorem JE:∀e∈Qq,ct e.1 e.2.1 e.2.2:=cb Qy (cb Qx (cb QA (cb QB (cb QC (cb QD (cb f32 (cb QG (cb QH (cb QI (cb QN (ly)))))))))))
def Qr:List mo:=[(53,[hD 0,SB (ga 1)],.tup [hD 1,lA (SB ([100,111,110,101,32]++[49]))]),(53,[hD 1,SB (ga 2)],.tup [hD 2,lA (SB ([100,111,110,101,32]++[50]))]),(53,[hD 2,SB (ga 3)],.tup [hD 3,lA (SB ([100,111,110,101,32]++[51]))]),(53,[hD 3,SB (ga 4)],.tup [hD 4,lA (SB ([100,111,110,101,32]++[52]))]),(53,[hD 4,SB (ga 5)],.tup [hD 5,lA (SB ([100,111,110,101,32]++[53]))]),(53,[hD 5,SB (ga 6)],.tup [hD 6,lA (SB ([100,111,110,101,32]++[54]))]),(53,[hD 6,SB (ga 7)],.tup [hD 7,lA (SB ([100,111,110,101,32]++[55]))]),(53,[hD 7,SB (ga 8)],.tup [hD 8,lA (SB ([100,111,110,101,32]++[56]))]),(53,[hD 8,SB [98,111,97,114,100]],.tup [hD 8,lA (SB Qn)]),(56,[hD 8],.tup [hD 8,SB (FU 8)])]
theorem JF:∀e∈Qr,PF e.1 e.2.1 e.2.2:=ek ML (ek MM (ek MN (ek MO (ek MP (ek MQ (ek MR (ek MS (ek Pq (ek QJ pX)))))))))
theorem FY:ct 15 [] (.bool true):=BQ JE JF rm (by kernel_rfl:gi (BU Qq Qr []) 60 false 15 []=_)
end Go.Pd
end
