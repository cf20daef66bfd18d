import Derived.Test.YtjhoaknnmfifgaaGreatDoorUnA
import Derived.Test.YtjhoaknnmfifgaaGreatDoorPdFf
import Derived.Test.YtjhoaknnmfifgaaGreatDoorUnDb
import Derived.Test.YtjhoaknnmfifgaaGreatDoorUnDc
import Derived.Test.YtjhoaknnmfifgaaGreatDoorUnDe
section
namespace Go.Pd
open Go Go.Proofs
set_option maxRecDepth 100000
def Ch:bN:=fun p=>match p with
 |14=>nm [0,1,3,4] [8] [3,8]
 |_=>none
noncomputable def pm(call:CL)(L:Nat)(C:Nat→Nat)(l n:Nat)(r:ByteArray)(h vx i q:Int):Option (List (List D)):=
 DA (Ka call L C l) O0 Ch FinM.raw Tryz.f268 [true,true,false] [] n (St.mk (D.fn (Fn.yield l) [] []::D.snap [D.str r] 0::J::D.loc 3 0 0::D.int .i64 h::jn 66 []) (Z::Z::Z::(1,some (Ob.box [D.int .i64 vx,D.int .i64 i,D.int .i64 q] false))::zn 67 []))
theorem xV(call:CL)(L:Nat)(C:Nat→Nat)(l n:Nat)(h:ByteArray)(K vx q ae:Int):pm call L C l (n+1) h K vx q ae=
 (bx (decide (vx<((ByteArray.size h):Int)))
 (bW (decide (0≤vx∧vx≤((ByteArray.size h):Int)∧((ByteArray.size h):Int)≤((ByteArray.size h):Int)))
 (bC (call 133 [D.str (ByteArray.extract h (Int.toNat vx) (Int.toNat ((ByteArray.size h):Int))),D.str (ByteArray.mk #[10])]) fun r=>gm r 3 fun c=>bn c 0 fun d=>bP d fun s=>bn c 1 fun V=>bP V fun _=>bn c 2 fun Y=>bU Y fun b=>bx (!b)
 (bW (decide (l=l))
 (kX [D.agg [D.int .i64 0,D.str (ByteArray.mk #[]),D.nils,D.nils,D.str (ByteArray.mk #[])],D.agg [D.int .i64 vx,D.int .i64 q,D.int .i64 28]]
 (some [])
 (some [])))
 (bC (call 269 [D.str s,D.int .i64 q]) fun a9=>gm a9 3 fun J=>bn J 0 fun Z=>gW Z 5 fun i=>bn i 0 fun a0=>bD .i64 a0 fun x=>bn i 1 fun a1=>bP a1 fun ac=>bn i 2 fun a2=>c9 a2 fun f a7 O=>bn i 3 fun a3=>c9 a3 fun a6 a8 U=>bn i 4 fun a4=>bP a4 fun ad=>bn J 1 fun a5=>bD .i64 a5 fun M=>bn J 2 fun W=>bD .i64 W fun af=>bC (call 119 [D.bool (K==1000),D.int .i64 5]) fun aa=>bD .i64 aa fun ag=>bC (call 87 [D.slc true 2 [D.int .i64 af,D.int .i64 ag]]) fun ab=>bD .i64 ab fun z=>bx (z !=0)
 (bW (decide (l=l))
 (kX [D.agg [D.int .i64 0,D.str (ByteArray.mk #[]),D.nils,D.nils,D.str (ByteArray.mk #[])],D.agg [D.int .i64 vx,D.int .i64 q,D.int .i64 z]]
 (some [])
 (some [])))
 (bW (decide (l=l))
 (kX [D.agg [D.int .i64 x,D.str ac,D.slc f a7 O,D.slc a6 a8 U,D.str ad],D.agg [D.int .i64 (IntKind.wrap .i64 (IntKind.wrap .i64 (vx+((ByteArray.size s):Int))+1)),D.int .i64 M,D.int .i64 z]]
 (pm call L C l n h (IntKind.wrap .i64 (K+1)) (IntKind.wrap .i64 (IntKind.wrap .i64 (vx+((ByteArray.size s):Int))+1)) M z)
 (some []))))))
 (some [])):=by kernel_rfl
theorem D8(call:CL)(L:Nat)(C:Nat→Nat)(l:Nat)(h:ByteArray):jH (eX (Ka call L C l) O0 Ch (tL Tryz.f268) 1 (cM Tryz.f268 [D.fn (Fn.yield l) [] [],D.snap [D.str h] 0]) (j6 (Ka call L C l).E FinM.raw Tryz.f268))=
 (pm call L C l L h 0 0 0 0):=by kernel_rfl
noncomputable def Ha(call:CL)(vyield0:ByteArray)(n:Nat):Int→Int→Int→Int→Option (List (List D)):=Nat.rec (fun _ _ _ _=>none) (fun _ R vcount vx vx1 _=>
 (bx (decide (vx<((ByteArray.size vyield0):Int)))
  (bW (decide (0≤vx∧vx≤((ByteArray.size vyield0):Int)∧((ByteArray.size vyield0):Int)≤((ByteArray.size vyield0):Int)))
   (bC (call 133 [D.str (ByteArray.extract vyield0 (Int.toNat vx) (Int.toNat ((ByteArray.size vyield0):Int))),D.str (ByteArray.mk #[10])]) fun r=>
    (gm (r) 3 fun c=>
    (bn (c) (0) fun d=>
    (bP (d) fun s=>
    (bn (c) (1) fun d_1=>
    (bP (d_1) fun _=>
    (bn (c) (2) fun d_2=>
    (bU (d_2) fun b=>
    (bx (!b)
     (
      (kX [D.agg [D.int IntKind.i64 0,D.str (ByteArray.mk #[]),D.nils,D.nils,D.str (ByteArray.mk #[])],D.agg [D.int IntKind.i64 vx,D.int IntKind.i64 vx1,D.int IntKind.i64 28]]
       (some [])
       (some [])))
     (bC (call 269 [D.str s,D.int IntKind.i64 vx1]) fun r_1=>
      (gm (r_1) 3 fun c_1=>
      (bn (c_1) (0) fun d_3=>
      (gW (d_3) 5 fun c_2=>
      (bn (c_2) (0) fun d_4=>
      (bD IntKind.i64 (d_4) fun x=>
      (bn (c_2) (1) fun d_5=>
      (bP (d_5) fun s_2=>
      (bn (c_2) (2) fun d_6=>
      (c9 (d_6) fun f n_1 c_3=>
      (bn (c_2) (3) fun d_7=>
      (c9 (d_7) fun f_1 n_2 c_4=>
      (bn (c_2) (4) fun d_8=>
      (bP (d_8) fun s_3=>
      (bn (c_1) (1) fun d_9=>
      (bD IntKind.i64 (d_9) fun x_1=>
      (bn (c_1) (2) fun d_10=>
      (bD IntKind.i64 (d_10) fun x_2=>
      (bC (call 119 [D.bool (vcount==1000),D.int IntKind.i64 5]) fun r_2=>
       (bD IntKind.i64 (r_2) fun x_3=>
       (bC (call 87 [D.slc true 2 [D.int IntKind.i64 x_2,D.int IntKind.i64 x_3]]) fun r_3=>
        (bD IntKind.i64 (r_3) fun x_4=>
        (bx (x_4 !=0)
         (
          (kX [D.agg [D.int IntKind.i64 0,D.str (ByteArray.mk #[]),D.nils,D.nils,D.str (ByteArray.mk #[])],D.agg [D.int IntKind.i64 vx,D.int IntKind.i64 vx1,D.int IntKind.i64 x_4]]
           (some [])
           (some [])))
         (
          (kX [D.agg [D.int IntKind.i64 x,D.str s_2,D.slc f n_1 c_3,D.slc f_1 n_2 c_4,D.str s_3],D.agg [D.int IntKind.i64 (IntKind.wrap IntKind.i64 (IntKind.wrap IntKind.i64 (vx+((ByteArray.size s):Int))+1)),D.int IntKind.i64 x_1,D.int IntKind.i64 x_4]]
           (R (IntKind.wrap IntKind.i64 (vcount+1)) (IntKind.wrap IntKind.i64 (IntKind.wrap IntKind.i64 (vx+((ByteArray.size s):Int))+1)) (x_1) (x_4))
           (some []))))))))))))))))))))))))))))))))))))
  (some []))) n
theorem yY(call:CL)(L:Nat)(C:Nat→Nat)(l:Nat)(s:ByteArray):∀(n:Nat) (c x x1 x2:Int),pm call L C l n s c x x1 x2=Ha call s n c x x1 x2
 |0,c,x,x1,x2=>by kernel_rfl
 |n+1,c,x,x1,x2=>by
  rw[xV];simp only[yY call L C l s n];rfl
theorem SeqOK.weak{P:Program}{gl:Nat→Option D}{g:FuncId}{caps:List D}{ys:List (List D)}{f:D→D}(hf:∀I w d v,RelC I w d v→RelC I w (f d) v)(h:SeqOK P gl g caps ys):SeqOK P gl g caps (ys.map fun y=>y.map f):=
 ⟨h.1,fun n l I w vcaps O Fz J Jx a1 a2 a3 a4 a5 a6 a7 a8 a9 a10=>by
  rw[zb8];exact h.2 n l I w vcaps O Fz J Jx a1 a2 a3 a4 a5 a6 a7 a8 (fun i y O Fz I1 W1 args hy hJ b1 b2 b3 hl hr=>a9 i (y.map f) O Fz I1 W1 args (by rw[zb9,hy];rfl) hJ b1 b2 b3 (by simpa using hl) fun j d v hd hv=>by
   obtain⟨x,hx,rfl⟩:=jr hd;exact hf _ _ _ _ (hr j x v hx hv)) a10⟩
theorem D9{call:CL}{s:ByteArray}{ys:List (List D)}(hE:EnvOK (cD call 1000 C1).E)(h:Ha call s 1000 0 0 0 0=some ys):SeqOK Tryz.prog jI 268 [.snap [.str s] 0] ys:=by
 refine BD (Te:=cD call 1000 C1) lQ hE (fun _ _ _ h=>by cases h) Tryz.func268 (ord:=O0) (N:=Ch) (by kernel_rfl) rfl ?_;unfold Br;have hb:Tryz.f268.body=some (tL Tryz.f268):=rfl;rw[hb];dsimp only;have he:∀l,jH (eX (Ka call 1000 C1 l) O0 Ch (tL Tryz.f268) 1 (cM Tryz.f268 [D.fn (Fn.yield l) [] [],D.snap [D.str s] 0]) (j6 (Ka call 1000 C1 l).E FinM.raw Tryz.f268))=some ys:=fun l=>by
  rw[D8,yY];exact h
 have:(fun l=>jH (eX {cD call 1000 C1 with it:=some l} O0 Ch (tL Tryz.f268) 1 (cM Tryz.f268 (.fn (.yield l) [] []::[D.snap [D.str s] 0])) (j6 (cD call 1000 C1).E .raw Tryz.f268)))=fun _=>some ys:=funext he;rw[this];exact xH _
end Go.Pd
end
section
namespace Go.Pd
open Go Go.Proofs Go.RowKit
set_option maxRecDepth 100000
def Ci:Nat→Int
 |1=>20
 |2=>48
 |3=>76
 |4=>99
 |5=>125
 |6=>148
 |7=>174
 |8=>200
 |_=>0
def NS:D:= .agg [nI 0,SB [],.nils,.nils,SB []]
def rcY:List (List D):=[[cT 1,.agg [nI (Ci 1),nI (bE 1),nI 0]],[cT 2,.agg [nI (Ci 2),nI (bE 2),nI 0]],[cT 3,.agg [nI (Ci 3),nI (bE 3),nI 0]],[cT 4,.agg [nI (Ci 4),nI (bE 4),nI 0]],[cT 5,.agg [nI (Ci 5),nI (bE 5),nI 0]],[cT 6,.agg [nI (Ci 6),nI (bE 6),nI 0]],[cT 7,.agg [nI (Ci 7),nI (bE 7),nI 0]],[cT 8,.agg [nI (Ci 8),nI (bE 8),nI 0]],[NS,.agg [nI (Ci 8),nI (bE 8),nI 28]]]
theorem NT:Ha (fS (BU NC [] []) 60 false) (bs B0) 1000 0 0 0 0=some rcY:=by kernel_rfl
theorem NU:SeqOK Tryz.prog jI 268 [.snap [SB B0] 0] (rcY.map fun y=>y.map (DL 6)):=SeqOK.weak (fun _ _ _ _ h=>ky 6 h) (D9 ⟨AL (fun _ _ _ h=>Aa G9 pj qw h),fun _ _ h=>(by cases h),fun _ _ _ h=>(by cases h),fun _ _ h=>(by cases h)⟩ NT)
def MF:List wg:=[(268,[.snap [SB B0] 0],rcY.map fun y=>y.map (DL 6))]
theorem Ea:∀e∈MF,SeqOK Tryz.prog jI e.1 e.2.1 e.2.2:=fun e he=>by rw[zc7.1 he];exact NU
theorem NV:co 59 [SB B0] (.tup [.slc false 8 (Kt 8),nI (Ci 8),nI 28]):=Aa kU pj Ea (by kernel_rfl)
def ND:List lR:=[(61,[Ku],BZ),(45,[BZ],.tup [uD,nI 0,nI 0]),(18,[uD,SB ki],kW (.agg [SB ki,.slc false 2 [nI 5,SB [],nI 3,SB []]])),(19,[uD,SB ki],kW (.slc false 1 [nI 2])),(20,[uD,SB ki],kW (.slc true 0 [])),(21,[uD,SB ki],nI 7),(32,[uD],kW (.slc false 2 Iw)),(69,[fD],kW (.slc false 1 [SB [100],nI 1,SB ki,nI 1,nI 4,SB []])),(70,[fD],kW (.slc false 1 [SB [100],nI 2])),(33,[uD,fD],kW (.slc false 1 [SB ki,nI 1,nI 0])),(59,[SB B0],.tup [.slc false 8 (Kt 8),nI (Ci 8),nI 28])]
theorem Hb:∀e∈ND,co e.1 e.2.1 e.2.2:=bS NK (bS NJ (bS f18 (bS f19 (bS f20 (bS f21 (bS Nz (bS NO (bS NP (bS NQ (bS NV (kU)))))))))))
def NE:List lR:=[(53,[hD 0,SB (fK 1)],.tup [hD 1,kW (SB ([100,111,110,101,32]++[49]))]),(53,[hD 1,SB (fK 2)],.tup [hD 2,kW (SB ([100,111,110,101,32]++[50]))]),(53,[hD 2,SB (fK 3)],.tup [hD 3,kW (SB ([100,111,110,101,32]++[51]))]),(53,[hD 3,SB (fK 4)],.tup [hD 4,kW (SB ([100,111,110,101,32]++[52]))]),(53,[hD 4,SB (fK 5)],.tup [hD 5,kW (SB ([100,111,110,101,32]++[53]))]),(53,[hD 5,SB (fK 6)],.tup [hD 6,kW (SB ([100,111,110,101,32]++[54]))]),(53,[hD 6,SB (fK 7)],.tup [hD 7,kW (SB ([100,111,110,101,32]++[55]))]),(53,[hD 7,SB (fK 8)],.tup [hD 8,kW (SB ([100,111,110,101,32]++[56]))]),(53,[hD 8,SB [98,111,97,114,100]],.tup [hD 8,kW (SB NA)]),(56,[hD 8],.tup [hD 8,SB (D7 8)])]
theorem Hc:∀e∈NE,PF e.1 e.2.1 e.2.2:=d4 Kv (d4 Kw (d4 Kx (d4 Ky (d4 Kz (d4 KA (d4 KB (d4 KC (d4 ME (d4 NR pj)))))))))
theorem Hd:co 15 [] (.bool true):=Aa Hb Hc qw (by kernel_rfl:fS (BU ND NE []) 60 false 15 []=_)
end Go.Pd
end
