import Derived.Test.YtjhoaknnmfifgaaGreatDoorUnA
import Derived.Test.YtjhoaknnmfifgaaGreatDoorPdFf
import Derived.Test.YtjhoaknnmfifgaaGreatDoorUnDb
import Derived.Test.YtjhoaknnmfifgaaGreatDoorUnDc
import Derived.Test.YtjhoaknnmfifgaaGreatDoorUnDe
section
namespace Go.Pd
open Go Go.Proofs
set_option maxRecDepth 100000
def A9:bR:=fun p=>match p with
 |14=>nm [0,1,3,4] [8] [3,8]
 |_=>none
noncomputable def nC(h:FuncId→List D→Option D)(L:Nat)(C:Nat→Nat)(l n:Nat)(M:ByteArray)(z vx B K:Int):Option (List (List D)):=
 B6 (Hz h L C l) O0 A9 FinM.raw Tryz.f268 [true,true,false] [] n (St.mk (D.fn (Fn.yield l) [] []::D.snap [D.str M] 0::J::D.loc 3 0 0::D.int .i64 z::jn 66 []) (Z::Z::Z::(1,some (Ob.box [D.int .i64 vx,D.int .i64 B,D.int .i64 K] false))::zn 67 []))
theorem wJ(z:FuncId→List D→Option D)(L:Nat)(C:Nat→Nat)(l n:Nat)(h:ByteArray)(O vx J af:Int):nC z L C l (n+1) h O vx J af=
 (bG (decide (vx<((ByteArray.size h):Int)))
 (bB (decide (0≤vx∧vx≤((ByteArray.size h):Int)∧((ByteArray.size h):Int)≤((ByteArray.size h):Int)))
 (bV (z 133 [D.str (ByteArray.extract h (Int.toNat vx) (Int.toNat ((ByteArray.size h):Int))),D.str (ByteArray.mk #[10])]) fun r=>fZ r 3 fun c=>br c 0 fun d=>bN d fun s=>br c 1 fun W=>bN W fun _=>br c 2 fun Z=>cH Z fun b=>bG (!b)
 (bB (decide (l=l))
 (kq [D.agg [D.int .i64 0,D.str (ByteArray.mk #[]),D.nils,D.nils,D.str (ByteArray.mk #[])],D.agg [D.int .i64 vx,D.int .i64 J,D.int .i64 28]]
 (some [])
 (some [])))
 (bV (z 269 [D.str s,D.int .i64 J]) fun aa=>fZ aa 3 fun M=>br M 0 fun a0=>mW a0 5 fun B=>br B 0 fun a1=>bH .i64 a1 fun x=>br B 1 fun a2=>bN a2 fun ad=>br B 2 fun a3=>ee a3 fun f a8 U=>br B 3 fun a4=>ee a4 fun a7 a9 V=>br B 4 fun a5=>bN a5 fun ae=>br M 1 fun a6=>bH .i64 a6 fun S=>br M 2 fun Y=>bH .i64 Y fun ag=>bV (z 119 [D.bool (O==1000),D.int .i64 5]) fun ab=>bH .i64 ab fun ah=>bV (z 87 [D.slc true 2 [D.int .i64 ag,D.int .i64 ah]]) fun ac=>bH .i64 ac fun K=>bG (K !=0)
 (bB (decide (l=l))
 (kq [D.agg [D.int .i64 0,D.str (ByteArray.mk #[]),D.nils,D.nils,D.str (ByteArray.mk #[])],D.agg [D.int .i64 vx,D.int .i64 J,D.int .i64 K]]
 (some [])
 (some [])))
 (bB (decide (l=l))
 (kq [D.agg [D.int .i64 x,D.str ad,D.slc f a8 U,D.slc a7 a9 V,D.str ae],D.agg [D.int .i64 (IntKind.wrap .i64 (IntKind.wrap .i64 (vx+((ByteArray.size s):Int))+1)),D.int .i64 S,D.int .i64 K]]
 (nC z L C l n h (IntKind.wrap .i64 (O+1)) (IntKind.wrap .i64 (IntKind.wrap .i64 (vx+((ByteArray.size s):Int))+1)) S K)
 (some []))))))
 (some [])):=by kernel_rfl
theorem CI(h:FuncId→List D→Option D)(L:Nat)(C:Nat→Nat)(l:Nat)(z:ByteArray):js (eH (Hz h L C l) O0 A9 (rN Tryz.f268) 1 (cE Tryz.f268 [D.fn (Fn.yield l) [] [],D.snap [D.str z] 0]) (jN (Hz h L C l).E FinM.raw Tryz.f268))=
 (nC h L C l L z 0 0 0 0):=by kernel_rfl
noncomputable def Fe(call:CL)(vyield0:ByteArray)(n:Nat):Int→Int→Int→Int→Option (List (List D)):=Nat.rec (fun _ _ _ _=>none) (fun _ R vcount vx vx1 _=>
 (bG (decide (vx<((ByteArray.size vyield0):Int)))
  (bB (decide (0≤vx∧vx≤((ByteArray.size vyield0):Int)∧((ByteArray.size vyield0):Int)≤((ByteArray.size vyield0):Int)))
   (bV (call 133 [D.str (ByteArray.extract vyield0 (Int.toNat vx) (Int.toNat ((ByteArray.size vyield0):Int))),D.str (ByteArray.mk #[10])]) fun r=>
    (fZ (r) 3 fun c=>
    (br (c) (0) fun d=>
    (bN (d) fun s=>
    (br (c) (1) fun d_1=>
    (bN (d_1) fun _=>
    (br (c) (2) fun d_2=>
    (cH (d_2) fun b=>
    (bG (!b)
     (
      (kq [D.agg [D.int IntKind.i64 0,D.str (ByteArray.mk #[]),D.nils,D.nils,D.str (ByteArray.mk #[])],D.agg [D.int IntKind.i64 vx,D.int IntKind.i64 vx1,D.int IntKind.i64 28]]
       (some [])
       (some [])))
     (bV (call 269 [D.str s,D.int IntKind.i64 vx1]) fun r_1=>
      (fZ (r_1) 3 fun c_1=>
      (br (c_1) (0) fun d_3=>
      (mW (d_3) 5 fun c_2=>
      (br (c_2) (0) fun d_4=>
      (bH IntKind.i64 (d_4) fun x=>
      (br (c_2) (1) fun d_5=>
      (bN (d_5) fun s_2=>
      (br (c_2) (2) fun d_6=>
      (ee (d_6) fun f n_1 c_3=>
      (br (c_2) (3) fun d_7=>
      (ee (d_7) fun f_1 n_2 c_4=>
      (br (c_2) (4) fun d_8=>
      (bN (d_8) fun s_3=>
      (br (c_1) (1) fun d_9=>
      (bH IntKind.i64 (d_9) fun x_1=>
      (br (c_1) (2) fun d_10=>
      (bH IntKind.i64 (d_10) fun x_2=>
      (bV (call 119 [D.bool (vcount==1000),D.int IntKind.i64 5]) fun r_2=>
       (bH IntKind.i64 (r_2) fun x_3=>
       (bV (call 87 [D.slc true 2 [D.int IntKind.i64 x_2,D.int IntKind.i64 x_3]]) fun r_3=>
        (bH IntKind.i64 (r_3) fun x_4=>
        (bG (x_4 !=0)
         (
          (kq [D.agg [D.int IntKind.i64 0,D.str (ByteArray.mk #[]),D.nils,D.nils,D.str (ByteArray.mk #[])],D.agg [D.int IntKind.i64 vx,D.int IntKind.i64 vx1,D.int IntKind.i64 x_4]]
           (some [])
           (some [])))
         (
          (kq [D.agg [D.int IntKind.i64 x,D.str s_2,D.slc f n_1 c_3,D.slc f_1 n_2 c_4,D.str s_3],D.agg [D.int IntKind.i64 (IntKind.wrap IntKind.i64 (IntKind.wrap IntKind.i64 (vx+((ByteArray.size s):Int))+1)),D.int IntKind.i64 x_1,D.int IntKind.i64 x_4]]
           (R (IntKind.wrap IntKind.i64 (vcount+1)) (IntKind.wrap IntKind.i64 (IntKind.wrap IntKind.i64 (vx+((ByteArray.size s):Int))+1)) (x_1) (x_4))
           (some []))))))))))))))))))))))))))))))))))))
  (some []))) n
theorem xR(call:CL)(L:Nat)(C:Nat→Nat)(l:Nat)(s:ByteArray):∀(n:Nat) (c x x1 x2:Int),nC call L C l n s c x x1 x2=Fe call s n c x x1 x2
 |0,c,x,x1,x2=>by kernel_rfl
 |n+1,c,x,x1,x2=>by
  rw[wJ];simp only[xR call L C l s n];rfl
theorem SeqOK.weak{P:Program}{gl:Nat→Option D}{g:FuncId}{caps:List D}{ys:List (List D)}{f:D→D}(hf:∀I w d v,RelC I w d v→RelC I w (f d) v)(h:SeqOK P gl g caps ys):SeqOK P gl g caps (ys.map fun y=>y.map f):=
 ⟨h.1,fun n l I w vcaps O Fz J Jx a1 a2 a3 a4 a5 a6 a7 a8 a9 a10=>by
  rw[zb9];exact h.2 n l I w vcaps O Fz J Jx a1 a2 a3 a4 a5 a6 a7 a8 (fun i y O Fz I1 W1 args hy hJ b1 b2 b3 hl hr=>a9 i (y.map f) O Fz I1 W1 args (by rw[zc0,hy];rfl) hJ b1 b2 b3 (by simpa using hl) fun j d v hd hv=>by
   obtain⟨x,hx,rfl⟩:=jc hd;exact hf _ _ _ _ (hr j x v hx hv)) a10⟩
theorem CJ{call:CL}{s:ByteArray}{ys:List (List D)}(hE:EnvOK (dS call 1000 C1).E)(h:Fe call s 1000 0 0 0 0=some ys):SeqOK Tryz.prog jo 268 [.snap [.str s] 0] ys:=by
 refine Ao (Te:=dS call 1000 C1) jT hE (fun _ _ _ h=>by cases h) Tryz.func268 (ord:=O0) (N:=A9) (by kernel_rfl) rfl ?_;unfold Ad;have hb:Tryz.f268.body=some (rN Tryz.f268):=rfl;rw[hb];dsimp only;have he:∀l,js (eH (Hz call 1000 C1 l) O0 A9 (rN Tryz.f268) 1 (cE Tryz.f268 [D.fn (Fn.yield l) [] [],D.snap [D.str s] 0]) (jN (Hz call 1000 C1 l).E FinM.raw Tryz.f268))=some ys:=fun l=>by
  rw[CI,xR];exact h
 have:(fun l=>js (eH {dS call 1000 C1 with it:=some l} O0 A9 (rN Tryz.f268) 1 (cE Tryz.f268 (.fn (.yield l) [] []::[D.snap [D.str s] 0])) (jN (dS call 1000 C1).E .raw Tryz.f268)))=fun _=>some ys:=funext he;rw[this];exact wn _
end Go.Pd
end
section
namespace Go.Pd
open Go Go.Proofs Go.RowKit
set_option maxRecDepth 100000
def Ba:Nat→Int
 |1=>20
 |2=>48
 |3=>76
 |4=>99
 |5=>125
 |6=>148
 |7=>174
 |8=>200
 |_=>0
def K4:D:= .agg [nI 0,SB [],.nils,.nils,SB []]
def rcY:List (List D):=[[cI 1,.agg [nI (Ba 1),nI (bE 1),nI 0]],[cI 2,.agg [nI (Ba 2),nI (bE 2),nI 0]],[cI 3,.agg [nI (Ba 3),nI (bE 3),nI 0]],[cI 4,.agg [nI (Ba 4),nI (bE 4),nI 0]],[cI 5,.agg [nI (Ba 5),nI (bE 5),nI 0]],[cI 6,.agg [nI (Ba 6),nI (bE 6),nI 0]],[cI 7,.agg [nI (Ba 7),nI (bE 7),nI 0]],[cI 8,.agg [nI (Ba 8),nI (bE 8),nI 0]],[K4,.agg [nI (Ba 8),nI (bE 8),nI 28]]]
theorem K5:Fe (fF (BU KL [] []) 60 false) (bs AL) 1000 0 0 0 0=some rcY:=by kernel_rfl
theorem K6:SeqOK Tryz.prog jo 268 [.snap [SB AL] 0] (rcY.map fun y=>y.map (Cj 6)):=SeqOK.weak (fun _ _ _ _ h=>kb 6 h) (CJ ⟨zr (fun _ _ _ h=>yK Fd nB pb h),fun _ _ h=>(by cases h),fun _ _ _ h=>(by cases h),fun _ _ h=>(by cases h)⟩ K5)
def JQ:List uz:=[(268,[.snap [SB AL] 0],rcY.map fun y=>y.map (Cj 6))]
theorem CK:∀e∈JQ,SeqOK Tryz.prog jo e.1 e.2.1 e.2.2:=fun e he=>by rw[zc8.1 he];exact K6
theorem K7:ci 59 [SB AL] (.tup [.slc false 8 (HR 8),nI (Ba 8),nI 28]):=yK kn nB CK (by kernel_rfl)
def KM:List kW:=[(61,[HS],AK),(45,[AK],.tup [uD,nI 0,nI 0]),(18,[uD,SB jV],kp (.agg [SB jV,.slc false 2 [nI 5,SB [],nI 3,SB []]])),(19,[uD,SB jV],kp (.slc false 1 [nI 2])),(20,[uD,SB jV],kp (.slc true 0 [])),(21,[uD,SB jV],nI 7),(32,[uD],kp (.slc false 2 FV)),(69,[fD],kp (.slc false 1 [SB [100],nI 1,SB jV,nI 1,nI 4,SB []])),(70,[fD],kp (.slc false 1 [SB [100],nI 2])),(33,[uD,fD],kp (.slc false 1 [SB jV,nI 1,nI 0])),(59,[SB AL],.tup [.slc false 8 (HR 8),nI (Ba 8),nI 28])]
theorem Ff:∀e∈KM,ci e.1 e.2.1 e.2.2:=bQ KV (bQ KU (bQ KX (bQ KY (bQ KZ (bQ K0 (bQ KH (bQ f69 (bQ f70 (bQ K2 (bQ K7 (kn)))))))))))
def KN:List kW:=[(53,[hD 0,SB (ft 1)],.tup [hD 1,kp (SB ([100,111,110,101,32]++[49]))]),(53,[hD 1,SB (ft 2)],.tup [hD 2,kp (SB ([100,111,110,101,32]++[50]))]),(53,[hD 2,SB (ft 3)],.tup [hD 3,kp (SB ([100,111,110,101,32]++[51]))]),(53,[hD 3,SB (ft 4)],.tup [hD 4,kp (SB ([100,111,110,101,32]++[52]))]),(53,[hD 4,SB (ft 5)],.tup [hD 5,kp (SB ([100,111,110,101,32]++[53]))]),(53,[hD 5,SB (ft 6)],.tup [hD 6,kp (SB ([100,111,110,101,32]++[54]))]),(53,[hD 6,SB (ft 7)],.tup [hD 7,kp (SB ([100,111,110,101,32]++[55]))]),(53,[hD 7,SB (ft 8)],.tup [hD 8,kp (SB ([100,111,110,101,32]++[56]))]),(53,[hD 8,SB [98,111,97,114,100]],.tup [hD 8,kp (SB KI)]),(56,[hD 8],.tup [hD 8,SB (CH 8)])]
theorem Fg:∀e∈KN,PF e.1 e.2.1 e.2.2:=dQ HT (dQ HU (dQ HV (dQ HW (dQ HX (dQ HY (dQ HZ (dQ H0 (dQ JP (dQ K3 nB)))))))))
theorem H4:ci 15 [] (.bool true):=yK Ff Fg pb (by kernel_rfl:fF (BU KM KN []) 60 false 15 []=_)
end Go.Pd
end
