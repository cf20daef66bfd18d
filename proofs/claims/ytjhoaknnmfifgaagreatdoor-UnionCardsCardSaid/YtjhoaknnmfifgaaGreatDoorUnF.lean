import Derived.Test.YtjhoaknnmfifgaaGreatDoorUnA
import Derived.Test.YtjhoaknnmfifgaaGreatDoorPdFf
import Derived.Test.YtjhoaknnmfifgaaGreatDoorUnDb
import Derived.Test.YtjhoaknnmfifgaaGreatDoorUnDc
import Derived.Test.YtjhoaknnmfifgaaGreatDoorUnDe
section
namespace Go.Pd
open Go Go.Proofs
set_option maxRecDepth 100000
def BT:bK:=fun p=>match p with
 |14=>nm [0,1,3,4] [8] [3,8]
 |_=>none
noncomputable def oQ(call:CL)(L:Nat)(C:Nat→Nat)(l n:Nat)(r:ByteArray)(h vx i q:Int):Option (List (List D)):=
 C6 (JD call L C l) O0 BT FinM.raw Tryz.f268 [true,true,false] [] n (St.mk (D.fn (Fn.yield l) [] []::D.snap [D.str r] 0::J::D.loc 3 0 0::D.int .i64 h::jn 66 []) (Z::Z::Z::(1,some (Ob.box [D.int .i64 vx,D.int .i64 i,D.int .i64 q] false))::zn 67 []))
theorem xF(call:CL)(L:Nat)(C:Nat→Nat)(l n:Nat)(h:ByteArray)(K vx q ae:Int):oQ call L C l (n+1) h K vx q ae=
 (bx (decide (vx<((ByteArray.size h):Int)))
 (cb (decide (0≤vx∧vx≤((ByteArray.size h):Int)∧((ByteArray.size h):Int)≤((ByteArray.size h):Int)))
 (bB (call 133 [D.str (ByteArray.extract h (Int.toNat vx) (Int.toNat ((ByteArray.size h):Int))),D.str (ByteArray.mk #[10])]) fun r=>gd r 3 fun c=>bn c 0 fun d=>bX d fun s=>bn c 1 fun V=>bX V fun _=>bn c 2 fun Y=>bR Y fun b=>bx (!b)
 (cb (decide (l=l))
 (kL [D.agg [D.int .i64 0,D.str (ByteArray.mk #[]),D.nils,D.nils,D.str (ByteArray.mk #[])],D.agg [D.int .i64 vx,D.int .i64 q,D.int .i64 28]]
 (some [])
 (some [])))
 (bB (call 269 [D.str s,D.int .i64 q]) fun a9=>gd a9 3 fun J=>bn J 0 fun Z=>gy Z 5 fun i=>bn i 0 fun a0=>bC .i64 a0 fun x=>bn i 1 fun a1=>bX a1 fun ac=>bn i 2 fun a2=>cU a2 fun f a7 O=>bn i 3 fun a3=>cU a3 fun a6 a8 U=>bn i 4 fun a4=>bX a4 fun ad=>bn J 1 fun a5=>bC .i64 a5 fun M=>bn J 2 fun W=>bC .i64 W fun af=>bB (call 119 [D.bool (K==1000),D.int .i64 5]) fun aa=>bC .i64 aa fun ag=>bB (call 87 [D.slc true 2 [D.int .i64 af,D.int .i64 ag]]) fun ab=>bC .i64 ab fun z=>bx (z !=0)
 (cb (decide (l=l))
 (kL [D.agg [D.int .i64 0,D.str (ByteArray.mk #[]),D.nils,D.nils,D.str (ByteArray.mk #[])],D.agg [D.int .i64 vx,D.int .i64 q,D.int .i64 z]]
 (some [])
 (some [])))
 (cb (decide (l=l))
 (kL [D.agg [D.int .i64 x,D.str ac,D.slc f a7 O,D.slc a6 a8 U,D.str ad],D.agg [D.int .i64 (IntKind.wrap .i64 (IntKind.wrap .i64 (vx+((ByteArray.size s):Int))+1)),D.int .i64 M,D.int .i64 z]]
 (oQ call L C l n h (IntKind.wrap .i64 (K+1)) (IntKind.wrap .i64 (IntKind.wrap .i64 (vx+((ByteArray.size s):Int))+1)) M z)
 (some []))))))
 (some [])):=by kernel_rfl
theorem DF(call:CL)(L:Nat)(C:Nat→Nat)(l:Nat)(h:ByteArray):jw (eN (JD call L C l) O0 BT (tq Tryz.f268) 1 (cI Tryz.f268 [D.fn (Fn.yield l) [] [],D.snap [D.str h] 0]) (jT (JD call L C l).E FinM.raw Tryz.f268))=
 (oQ call L C l L h 0 0 0 0):=by kernel_rfl
noncomputable def GG(call:CL)(vyield0:ByteArray)(n:Nat):Int→Int→Int→Int→Option (List (List D)):=Nat.rec (fun _ _ _ _=>none) (fun _ R vcount vx vx1 _=>
 (bx (decide (vx<((ByteArray.size vyield0):Int)))
  (cb (decide (0≤vx∧vx≤((ByteArray.size vyield0):Int)∧((ByteArray.size vyield0):Int)≤((ByteArray.size vyield0):Int)))
   (bB (call 133 [D.str (ByteArray.extract vyield0 (Int.toNat vx) (Int.toNat ((ByteArray.size vyield0):Int))),D.str (ByteArray.mk #[10])]) fun r=>
    (gd (r) 3 fun c=>
    (bn (c) (0) fun d=>
    (bX (d) fun s=>
    (bn (c) (1) fun d_1=>
    (bX (d_1) fun _=>
    (bn (c) (2) fun d_2=>
    (bR (d_2) fun b=>
    (bx (!b)
     (
      (kL [D.agg [D.int IntKind.i64 0,D.str (ByteArray.mk #[]),D.nils,D.nils,D.str (ByteArray.mk #[])],D.agg [D.int IntKind.i64 vx,D.int IntKind.i64 vx1,D.int IntKind.i64 28]]
       (some [])
       (some [])))
     (bB (call 269 [D.str s,D.int IntKind.i64 vx1]) fun r_1=>
      (gd (r_1) 3 fun c_1=>
      (bn (c_1) (0) fun d_3=>
      (gy (d_3) 5 fun c_2=>
      (bn (c_2) (0) fun d_4=>
      (bC IntKind.i64 (d_4) fun x=>
      (bn (c_2) (1) fun d_5=>
      (bX (d_5) fun s_2=>
      (bn (c_2) (2) fun d_6=>
      (cU (d_6) fun f n_1 c_3=>
      (bn (c_2) (3) fun d_7=>
      (cU (d_7) fun f_1 n_2 c_4=>
      (bn (c_2) (4) fun d_8=>
      (bX (d_8) fun s_3=>
      (bn (c_1) (1) fun d_9=>
      (bC IntKind.i64 (d_9) fun x_1=>
      (bn (c_1) (2) fun d_10=>
      (bC IntKind.i64 (d_10) fun x_2=>
      (bB (call 119 [D.bool (vcount==1000),D.int IntKind.i64 5]) fun r_2=>
       (bC IntKind.i64 (r_2) fun x_3=>
       (bB (call 87 [D.slc true 2 [D.int IntKind.i64 x_2,D.int IntKind.i64 x_3]]) fun r_3=>
        (bC IntKind.i64 (r_3) fun x_4=>
        (bx (x_4 !=0)
         (
          (kL [D.agg [D.int IntKind.i64 0,D.str (ByteArray.mk #[]),D.nils,D.nils,D.str (ByteArray.mk #[])],D.agg [D.int IntKind.i64 vx,D.int IntKind.i64 vx1,D.int IntKind.i64 x_4]]
           (some [])
           (some [])))
         (
          (kL [D.agg [D.int IntKind.i64 x,D.str s_2,D.slc f n_1 c_3,D.slc f_1 n_2 c_4,D.str s_3],D.agg [D.int IntKind.i64 (IntKind.wrap IntKind.i64 (IntKind.wrap IntKind.i64 (vx+((ByteArray.size s):Int))+1)),D.int IntKind.i64 x_1,D.int IntKind.i64 x_4]]
           (R (IntKind.wrap IntKind.i64 (vcount+1)) (IntKind.wrap IntKind.i64 (IntKind.wrap IntKind.i64 (vx+((ByteArray.size s):Int))+1)) (x_1) (x_4))
           (some []))))))))))))))))))))))))))))))))))))
  (some []))) n
theorem yF(call:CL)(L:Nat)(C:Nat→Nat)(l:Nat)(s:ByteArray):∀(n:Nat) (c x x1 x2:Int),oQ call L C l n s c x x1 x2=GG call s n c x x1 x2
 |0,c,x,x1,x2=>by kernel_rfl
 |n+1,c,x,x1,x2=>by
  rw[xF];simp only[yF call L C l s n];rfl
theorem SeqOK.weak{P:Program}{gl:Nat→Option D}{g:FuncId}{caps:List D}{ys:List (List D)}{f:D→D}(hf:∀I w d v,RelC I w d v→RelC I w (f d) v)(h:SeqOK P gl g caps ys):SeqOK P gl g caps (ys.map fun y=>y.map f):=
 ⟨h.1,fun n l I w vcaps O Fz J Jx a1 a2 a3 a4 a5 a6 a7 a8 a9 a10=>by
  rw[zb8];exact h.2 n l I w vcaps O Fz J Jx a1 a2 a3 a4 a5 a6 a7 a8 (fun i y O Fz I1 W1 args hy hJ b1 b2 b3 hl hr=>a9 i (y.map f) O Fz I1 W1 args (by rw[zb9,hy];rfl) hJ b1 b2 b3 (by simpa using hl) fun j d v hd hv=>by
   obtain⟨x,hx,rfl⟩:=jg hd;exact hf _ _ _ _ (hr j x v hx hv)) a10⟩
theorem DG{call:CL}{s:ByteArray}{ys:List (List D)}(hE:EnvOK (cz call 1000 C1).E)(h:GG call s 1000 0 0 0 0=some ys):SeqOK Tryz.prog jx 268 [.snap [.str s] 0] ys:=by
 refine Bf (Te:=cz call 1000 C1) lG hE (fun _ _ _ h=>by cases h) Tryz.func268 (ord:=O0) (N:=BT) (by kernel_rfl) rfl ?_;unfold AY;have hb:Tryz.f268.body=some (tq Tryz.f268):=rfl;rw[hb];dsimp only;have he:∀l,jw (eN (JD call 1000 C1 l) O0 BT (tq Tryz.f268) 1 (cI Tryz.f268 [D.fn (Fn.yield l) [] [],D.snap [D.str s] 0]) (jT (JD call 1000 C1 l).E FinM.raw Tryz.f268))=some ys:=fun l=>by
  rw[DF,yF];exact h
 have:(fun l=>jw (eN {cz call 1000 C1 with it:=some l} O0 BT (tq Tryz.f268) 1 (cI Tryz.f268 (.fn (.yield l) [] []::[D.snap [D.str s] 0])) (jT (cz call 1000 C1).E .raw Tryz.f268)))=fun _=>some ys:=funext he;rw[this];exact xq _
end Go.Pd
end
section
namespace Go.Pd
open Go Go.Proofs Go.RowKit
set_option maxRecDepth 100000
def BV:Nat→Int
 |1=>20
 |2=>48
 |3=>76
 |4=>99
 |5=>125
 |6=>148
 |7=>174
 |8=>200
 |_=>0
def Nw:D:= .agg [nI 0,SB [],.nils,.nils,SB []]
def rcY:List (List D):=[[cO 1,.agg [nI (BV 1),nI (bE 1),nI 0]],[cO 2,.agg [nI (BV 2),nI (bE 2),nI 0]],[cO 3,.agg [nI (BV 3),nI (bE 3),nI 0]],[cO 4,.agg [nI (BV 4),nI (bE 4),nI 0]],[cO 5,.agg [nI (BV 5),nI (bE 5),nI 0]],[cO 6,.agg [nI (BV 6),nI (bE 6),nI 0]],[cO 7,.agg [nI (BV 7),nI (bE 7),nI 0]],[cO 8,.agg [nI (BV 8),nI (bE 8),nI 0]],[Nw,.agg [nI (BV 8),nI (bE 8),nI 28]]]
theorem Nx:GG (fK (BU Ng [] []) 60 false) (bs BC) 1000 0 0 0 0=some rcY:=by kernel_rfl
theorem Ny:SeqOK Tryz.prog jx 268 [.snap [SB BC] 0] (rcY.map fun y=>y.map (Di 6)):=SeqOK.weak (fun _ _ _ _ h=>kk 6 h) (DG ⟨An (fun _ _ _ h=>zD GF oP qg h),fun _ _ h=>(by cases h),fun _ _ _ h=>(by cases h),fun _ _ h=>(by cases h)⟩ Nx)
def L8:List vS:=[(268,[.snap [SB BC] 0],rcY.map fun y=>y.map (Di 6))]
theorem DH:∀e∈L8,SeqOK Tryz.prog jx e.1 e.2.1 e.2.2:=fun e he=>by rw[zc7.1 he];exact Ny
theorem Nz:ce 59 [SB BC] (.tup [.slc false 8 (JU 8),nI (BV 8),nI 28]):=zD kH oP DH (by kernel_rfl)
def Nh:List lH:=[(61,[JV],BB),(45,[BB],.tup [uD,nI 0,nI 0]),(18,[uD,SB jY],kJ (.agg [SB jY,.slc false 2 [nI 5,SB [],nI 3,SB []]])),(19,[uD,SB jY],kJ (.slc false 1 [nI 2])),(20,[uD,SB jY],kJ (.slc true 0 [])),(21,[uD,SB jY],nI 7),(32,[uD],kJ (.slc false 2 HP)),(69,[fD],kJ (.slc false 1 [SB [100],nI 1,SB jY,nI 1,nI 4,SB []])),(70,[fD],kJ (.slc false 1 [SB [100],nI 2])),(33,[uD,fD],kJ (.slc false 1 [SB jY,nI 1,nI 0])),(59,[SB BC],.tup [.slc false 8 (JU 8),nI (BV 8),nI 28])]
theorem GH:∀e∈Nh,ce e.1 e.2.1 e.2.2:=bQ No (bQ Nn (bQ f18 (bQ f19 (bQ f20 (bQ f21 (bQ Nc (bQ Ns (bQ Nt (bQ Nu (bQ Nz (kH)))))))))))
def Ni:List lH:=[(53,[hD 0,SB (fB 1)],.tup [hD 1,kJ (SB ([100,111,110,101,32]++[49]))]),(53,[hD 1,SB (fB 2)],.tup [hD 2,kJ (SB ([100,111,110,101,32]++[50]))]),(53,[hD 2,SB (fB 3)],.tup [hD 3,kJ (SB ([100,111,110,101,32]++[51]))]),(53,[hD 3,SB (fB 4)],.tup [hD 4,kJ (SB ([100,111,110,101,32]++[52]))]),(53,[hD 4,SB (fB 5)],.tup [hD 5,kJ (SB ([100,111,110,101,32]++[53]))]),(53,[hD 5,SB (fB 6)],.tup [hD 6,kJ (SB ([100,111,110,101,32]++[54]))]),(53,[hD 6,SB (fB 7)],.tup [hD 7,kJ (SB ([100,111,110,101,32]++[55]))]),(53,[hD 7,SB (fB 8)],.tup [hD 8,kJ (SB ([100,111,110,101,32]++[56]))]),(53,[hD 8,SB [98,111,97,114,100]],.tup [hD 8,kJ (SB Nd)]),(56,[hD 8],.tup [hD 8,SB (DE 8)])]
theorem GI:∀e∈Ni,PF e.1 e.2.1 e.2.2:=dU JW (dU JX (dU JY (dU JZ (dU J0 (dU J1 (dU J2 (dU J3 (dU L7 (dU Nv oP)))))))))
theorem J4:ce 15 [] (.bool true):=zD GH GI qg (by kernel_rfl:fK (BU Nh Ni []) 60 false 15 []=_)
end Go.Pd
end
