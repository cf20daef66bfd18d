import Derived.Test.YtjhoaknnmfifgaaGreatDoorUnA
import Derived.Test.YtjhoaknnmfifgaaGreatDoorPdFf
import Derived.Test.YtjhoaknnmfifgaaGreatDoorUnDb
import Derived.Test.YtjhoaknnmfifgaaGreatDoorUnDc
import Derived.Test.YtjhoaknnmfifgaaGreatDoorUnDe
section
namespace Go.Pd
open Go Go.Proofs
set_option maxRecDepth 100000
def Bm:bH:=fun p=>match p with
 |14=>nm [0,1,3,4] [8] [3,8]
 |_=>none
noncomputable def nH(h:FuncId→List D→Option D)(L:Nat)(C:Nat→Nat)(l n:Nat)(M:ByteArray)(z vx B K:Int):Option (List (List D)):=
 Cy (Im h L C l) O0 Bm FinM.raw Tryz.f268 [true,true,false] [] n (St.mk (D.fn (Fn.yield l) [] []::D.snap [D.str M] 0::J::D.loc 3 0 0::D.int .i64 z::jn 66 []) (Z::Z::Z::(1,some (Ob.box [D.int .i64 vx,D.int .i64 B,D.int .i64 K] false))::zn 67 []))
theorem wz(z:FuncId→List D→Option D)(L:Nat)(C:Nat→Nat)(l n:Nat)(h:ByteArray)(O vx J af:Int):nH z L C l (n+1) h O vx J af=
 (bB (decide (vx<((ByteArray.size h):Int)))
 (bT (decide (0≤vx∧vx≤((ByteArray.size h):Int)∧((ByteArray.size h):Int)≤((ByteArray.size h):Int)))
 (bL (z 133 [D.str (ByteArray.extract h (Int.toNat vx) (Int.toNat ((ByteArray.size h):Int))),D.str (ByteArray.mk #[10])]) fun r=>fA r 3 fun c=>bi c 0 fun d=>bQ d fun s=>bi c 1 fun W=>bQ W fun _=>bi c 2 fun Z=>cG Z fun b=>bB (!b)
 (bT (decide (l=l))
 (kn [D.agg [D.int .i64 0,D.str (ByteArray.mk #[]),D.nils,D.nils,D.str (ByteArray.mk #[])],D.agg [D.int .i64 vx,D.int .i64 J,D.int .i64 28]]
 (some [])
 (some [])))
 (bL (z 269 [D.str s,D.int .i64 J]) fun aa=>fA aa 3 fun M=>bi M 0 fun a0=>jo a0 5 fun B=>bi B 0 fun a1=>bC .i64 a1 fun x=>bi B 1 fun a2=>bQ a2 fun ad=>bi B 2 fun a3=>dH a3 fun f a8 U=>bi B 3 fun a4=>dH a4 fun a7 a9 V=>bi B 4 fun a5=>bQ a5 fun ae=>bi M 1 fun a6=>bC .i64 a6 fun S=>bi M 2 fun Y=>bC .i64 Y fun ag=>bL (z 119 [D.bool (O==1000),D.int .i64 5]) fun ab=>bC .i64 ab fun ah=>bL (z 87 [D.slc true 2 [D.int .i64 ag,D.int .i64 ah]]) fun ac=>bC .i64 ac fun K=>bB (K !=0)
 (bT (decide (l=l))
 (kn [D.agg [D.int .i64 0,D.str (ByteArray.mk #[]),D.nils,D.nils,D.str (ByteArray.mk #[])],D.agg [D.int .i64 vx,D.int .i64 J,D.int .i64 K]]
 (some [])
 (some [])))
 (bT (decide (l=l))
 (kn [D.agg [D.int .i64 x,D.str ad,D.slc f a8 U,D.slc a7 a9 V,D.str ae],D.agg [D.int .i64 (IntKind.wrap .i64 (IntKind.wrap .i64 (vx+((ByteArray.size s):Int))+1)),D.int .i64 S,D.int .i64 K]]
 (nH z L C l n h (IntKind.wrap .i64 (O+1)) (IntKind.wrap .i64 (IntKind.wrap .i64 (vx+((ByteArray.size s):Int))+1)) S K)
 (some []))))))
 (some [])):=by kernel_rfl
theorem Dc(h:FuncId→List D→Option D)(L:Nat)(C:Nat→Nat)(l:Nat)(z:ByteArray):ji (eA (Im h L C l) O0 Bm (rI Tryz.f268) 1 (cq Tryz.f268 [D.fn (Fn.yield l) [] [],D.snap [D.str z] 0]) (jD (Im h L C l).E FinM.raw Tryz.f268))=
 (nH h L C l L z 0 0 0 0):=by kernel_rfl
noncomputable def FY(call:CL)(vyield0:ByteArray)(n:Nat):Int→Int→Int→Int→Option (List (List D)):=Nat.rec (fun _ _ _ _=>none) (fun _ R vcount vx vx1 _=>
 (bB (decide (vx<((ByteArray.size vyield0):Int)))
  (bT (decide (0≤vx∧vx≤((ByteArray.size vyield0):Int)∧((ByteArray.size vyield0):Int)≤((ByteArray.size vyield0):Int)))
   (bL (call 133 [D.str (ByteArray.extract vyield0 (Int.toNat vx) (Int.toNat ((ByteArray.size vyield0):Int))),D.str (ByteArray.mk #[10])]) fun r=>
    (fA (r) 3 fun c=>
    (bi (c) (0) fun d=>
    (bQ (d) fun s=>
    (bi (c) (1) fun d_1=>
    (bQ (d_1) fun _=>
    (bi (c) (2) fun d_2=>
    (cG (d_2) fun b=>
    (bB (!b)
     (
      (kn [D.agg [D.int IntKind.i64 0,D.str (ByteArray.mk #[]),D.nils,D.nils,D.str (ByteArray.mk #[])],D.agg [D.int IntKind.i64 vx,D.int IntKind.i64 vx1,D.int IntKind.i64 28]]
       (some [])
       (some [])))
     (bL (call 269 [D.str s,D.int IntKind.i64 vx1]) fun r_1=>
      (fA (r_1) 3 fun c_1=>
      (bi (c_1) (0) fun d_3=>
      (jo (d_3) 5 fun c_2=>
      (bi (c_2) (0) fun d_4=>
      (bC IntKind.i64 (d_4) fun x=>
      (bi (c_2) (1) fun d_5=>
      (bQ (d_5) fun s_2=>
      (bi (c_2) (2) fun d_6=>
      (dH (d_6) fun f n_1 c_3=>
      (bi (c_2) (3) fun d_7=>
      (dH (d_7) fun f_1 n_2 c_4=>
      (bi (c_2) (4) fun d_8=>
      (bQ (d_8) fun s_3=>
      (bi (c_1) (1) fun d_9=>
      (bC IntKind.i64 (d_9) fun x_1=>
      (bi (c_1) (2) fun d_10=>
      (bC IntKind.i64 (d_10) fun x_2=>
      (bL (call 119 [D.bool (vcount==1000),D.int IntKind.i64 5]) fun r_2=>
       (bC IntKind.i64 (r_2) fun x_3=>
       (bL (call 87 [D.slc true 2 [D.int IntKind.i64 x_2,D.int IntKind.i64 x_3]]) fun r_3=>
        (bC IntKind.i64 (r_3) fun x_4=>
        (bB (x_4 !=0)
         (
          (kn [D.agg [D.int IntKind.i64 0,D.str (ByteArray.mk #[]),D.nils,D.nils,D.str (ByteArray.mk #[])],D.agg [D.int IntKind.i64 vx,D.int IntKind.i64 vx1,D.int IntKind.i64 x_4]]
           (some [])
           (some [])))
         (
          (kn [D.agg [D.int IntKind.i64 x,D.str s_2,D.slc f n_1 c_3,D.slc f_1 n_2 c_4,D.str s_3],D.agg [D.int IntKind.i64 (IntKind.wrap IntKind.i64 (IntKind.wrap IntKind.i64 (vx+((ByteArray.size s):Int))+1)),D.int IntKind.i64 x_1,D.int IntKind.i64 x_4]]
           (R (IntKind.wrap IntKind.i64 (vcount+1)) (IntKind.wrap IntKind.i64 (IntKind.wrap IntKind.i64 (vx+((ByteArray.size s):Int))+1)) (x_1) (x_4))
           (some []))))))))))))))))))))))))))))))))))))
  (some []))) n
theorem xK(call:CL)(L:Nat)(C:Nat→Nat)(l:Nat)(s:ByteArray):∀(n:Nat) (c x x1 x2:Int),nH call L C l n s c x x1 x2=FY call s n c x x1 x2
 |0,c,x,x1,x2=>by kernel_rfl
 |n+1,c,x,x1,x2=>by
  rw[wz];simp only[xK call L C l s n];rfl
theorem SeqOK.weak{P:Program}{gl:Nat→Option D}{g:FuncId}{caps:List D}{ys:List (List D)}{f:D→D}(hf:∀I w d v,RelC I w d v→RelC I w (f d) v)(h:SeqOK P gl g caps ys):SeqOK P gl g caps (ys.map fun y=>y.map f):=
 ⟨h.1,fun n l I w vcaps O Fz J Jx a1 a2 a3 a4 a5 a6 a7 a8 a9 a10=>by
  rw[zc0];exact h.2 n l I w vcaps O Fz J Jx a1 a2 a3 a4 a5 a6 a7 a8 (fun i y O Fz I1 W1 args hy hJ b1 b2 b3 hl hr=>a9 i (y.map f) O Fz I1 W1 args (by rw[zc1,hy];rfl) hJ b1 b2 b3 (by simpa using hl) fun j d v hd hv=>by
   obtain⟨x,hx,rfl⟩:=iW hd;exact hf _ _ _ _ (hr j x v hx hv)) a10⟩
theorem De{call:CL}{s:ByteArray}{ys:List (List D)}(hE:EnvOK (ed call 1000 C1).E)(h:FY call s 1000 0 0 0 0=some ys):SeqOK Tryz.prog jf 268 [.snap [.str s] 0] ys:=by
 refine AA (Te:=ed call 1000 C1) jJ hE (fun _ _ _ h=>by cases h) Tryz.func268 (ord:=O0) (N:=Bm) (by kernel_rfl) rfl ?_;unfold Ao;have hb:Tryz.f268.body=some (rI Tryz.f268):=rfl;rw[hb];dsimp only;have he:∀l,ji (eA (Im call 1000 C1 l) O0 Bm (rI Tryz.f268) 1 (cq Tryz.f268 [D.fn (Fn.yield l) [] [],D.snap [D.str s] 0]) (jD (Im call 1000 C1 l).E FinM.raw Tryz.f268))=some ys:=fun l=>by
  rw[Dc,xK];exact h
 have:(fun l=>ji (eA {ed call 1000 C1 with it:=some l} O0 Bm (rI Tryz.f268) 1 (cq Tryz.f268 (.fn (.yield l) [] []::[D.snap [D.str s] 0])) (jD (ed call 1000 C1).E .raw Tryz.f268)))=fun _=>some ys:=funext he;rw[this];exact wb _
end Go.Pd
end
section
namespace Go.Pd
open Go Go.Proofs Go.RowKit
set_option maxRecDepth 100000
def Bn:Nat→Int
 |1=>20
 |2=>48
 |3=>76
 |4=>99
 |5=>125
 |6=>148
 |7=>174
 |8=>200
 |_=>0
def LF:D:= .agg [nI 0,SB [],.nils,.nils,SB []]
def rcY:List (List D):=[[cw 1,.agg [nI (Bn 1),nI (br 1),nI 0]],[cw 2,.agg [nI (Bn 2),nI (br 2),nI 0]],[cw 3,.agg [nI (Bn 3),nI (br 3),nI 0]],[cw 4,.agg [nI (Bn 4),nI (br 4),nI 0]],[cw 5,.agg [nI (Bn 5),nI (br 5),nI 0]],[cw 6,.agg [nI (Bn 6),nI (br 6),nI 0]],[cw 7,.agg [nI (Bn 7),nI (br 7),nI 0]],[cw 8,.agg [nI (Bn 8),nI (br 8),nI 0]],[LF,.agg [nI (Bn 8),nI (br 8),nI 28]]]
theorem LG:FY (fk (BU Ll [] []) 60 false) (bs AZ) 1000 0 0 0 0=some rcY:=by kernel_rfl
theorem LH:SeqOK Tryz.prog jf 268 [.snap [SB AZ] 0] (rcY.map fun y=>y.map (CM 6)):=SeqOK.weak (fun _ _ _ _ h=>j0 6 h) (De ⟨zE (fun _ _ _ h=>yK FX nG oW h),fun _ _ h=>(by cases h),fun _ _ _ h=>(by cases h),fun _ _ h=>(by cases h)⟩ LG)
def KB:List ur:=[(268,[.snap [SB AZ] 0],rcY.map fun y=>y.map (CM 6))]
theorem Df:∀e∈KB,SeqOK Tryz.prog jf e.1 e.2.1 e.2.2:=fun e he=>by rw[zc9.1 he];exact LH
theorem LI:bV 59 [SB AZ] (.tup [.slc false 8 (IG 8),nI (Bn 8),nI 28]):=yK ki nG Df (by kernel_rfl)
def Lm:List kV:=[(61,[IH],AY),(45,[AY],.tup [uD,nI 0,nI 0]),(18,[uD,SB jL],kk (.agg [SB jL,.slc false 2 [nI 5,SB [],nI 3,SB []]])),(19,[uD,SB jL],kk (.slc false 1 [nI 2])),(20,[uD,SB jL],kk (.slc true 0 [])),(21,[uD,SB jL],nI 7),(32,[uD],kk (.slc false 2 GH)),(69,[fD],kk (.slc false 1 [SB [100],nI 1,SB jL,nI 1,nI 4,SB []])),(70,[fD],kk (.slc false 1 [SB [100],nI 2])),(33,[uD,fD],kk (.slc false 1 [SB jL,nI 1,nI 0])),(59,[SB AZ],.tup [.slc false 8 (IG 8),nI (Bn 8),nI 28])]
theorem FZ:∀e∈Lm,bV e.1 e.2.1 e.2.2:=bF Lv (bF Lu (bF Lx (bF Ly (bF Lz (bF LA (bF Li (bF f69 (bF LC (bF LD (bF LI (ki)))))))))))
def Ln:List kV:=[(53,[hD 0,SB (eY 1)],.tup [hD 1,kk (SB ([100,111,110,101,32]++[49]))]),(53,[hD 1,SB (eY 2)],.tup [hD 2,kk (SB ([100,111,110,101,32]++[50]))]),(53,[hD 2,SB (eY 3)],.tup [hD 3,kk (SB ([100,111,110,101,32]++[51]))]),(53,[hD 3,SB (eY 4)],.tup [hD 4,kk (SB ([100,111,110,101,32]++[52]))]),(53,[hD 4,SB (eY 5)],.tup [hD 5,kk (SB ([100,111,110,101,32]++[53]))]),(53,[hD 5,SB (eY 6)],.tup [hD 6,kk (SB ([100,111,110,101,32]++[54]))]),(53,[hD 6,SB (eY 7)],.tup [hD 7,kk (SB ([100,111,110,101,32]++[55]))]),(53,[hD 7,SB (eY 8)],.tup [hD 8,kk (SB ([100,111,110,101,32]++[56]))]),(53,[hD 8,SB [98,111,97,114,100]],.tup [hD 8,kk (SB Lj)]),(56,[hD 8],.tup [hD 8,SB (Db 8)])]
theorem F1:∀e∈Ln,PF e.1 e.2.1 e.2.2:=dC II (dC IJ (dC IK (dC IL (dC IM (dC IN (dC IO (dC IP (dC KA (dC LE nG)))))))))
theorem IQ:bV 15 [] (.bool true):=yK FZ F1 oW (by kernel_rfl:fk (BU Lm Ln []) 60 false 15 []=_)
end Go.Pd
end
