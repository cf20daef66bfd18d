import Derived.Test.YtjhoaknnmfifgaaGreatDoorUnA
import Derived.Test.YtjhoaknnmfifgaaGreatDoorPdFf
import Derived.Test.YtjhoaknnmfifgaaGreatDoorUnDb
import Derived.Test.YtjhoaknnmfifgaaGreatDoorUnDc
import Derived.Test.YtjhoaknnmfifgaaGreatDoorUnDe
section
namespace Go.Pd
open Go Go.Proofs
set_option maxRecDepth 100000
def Dm:bA:=fun p=>match p with
 |14=>nm [0,1,3,4] [8] [3,8]
 |_=>none
noncomputable def oH(h:FuncId→List D→Option D)(L:Nat)(C:Nat→Nat)(l n:Nat)(z:ByteArray)(j vx q r:Int):Option (List (List D)):=
 EW (L9 h L C l) O0 Dm FinM.raw Tryz.f268 [true,true,false] [] n (St.mk (D.fn (Fn.yield l) [] []::D.snap [D.str z] 0::J::D.loc 3 0 0::D.int .i64 j::jn 66 []) (Z::Z::Z::(1,some (Ob.box [D.int .i64 vx,D.int .i64 q,D.int .i64 r] false))::zn 67 []))
theorem yr(j:FuncId→List D→Option D)(L:Nat)(C:Nat→Nat)(l n:Nat)(h:ByteArray)(M vx z ae:Int):oH j L C l (n+1) h M vx z ae=
 (bo (decide (vx<((ByteArray.size h):Int)))
 (bu (decide (0≤vx∧vx≤((ByteArray.size h):Int)∧((ByteArray.size h):Int)≤((ByteArray.size h):Int)))
 (bn (j 133 [D.str (ByteArray.extract h (Int.toNat vx) (Int.toNat ((ByteArray.size h):Int))),D.str (ByteArray.mk #[10])]) fun r=>cJ r 3 fun c=>bc c 0 fun d=>bH d fun s=>bc c 1 fun V=>bH V fun _=>bc c 2 fun Y=>bM Y fun b=>bo (!b)
 (bu (decide (l=l))
 (fP [D.agg [D.int .i64 0,D.str (ByteArray.mk #[]),D.nils,D.nils,D.str (ByteArray.mk #[])],D.agg [D.int .i64 vx,D.int .i64 z,D.int .i64 28]]
 (some [])
 (some [])))
 (bn (j 269 [D.str s,D.int .i64 z]) fun a9=>cJ a9 3 fun K=>bc K 0 fun Z=>fK Z 5 fun q=>bc q 0 fun a0=>bw .i64 a0 fun x=>bc q 1 fun a1=>bH a1 fun ac=>bc q 2 fun a2=>cP a2 fun f a7 S=>bc q 3 fun a3=>cP a3 fun a6 a8 U=>bc q 4 fun a4=>bH a4 fun ad=>bc K 1 fun a5=>bw .i64 a5 fun O=>bc K 2 fun W=>bw .i64 W fun af=>bn (j 119 [D.bool (M==1000),D.int .i64 5]) fun aa=>bw .i64 aa fun ag=>bn (j 87 [D.slc true 2 [D.int .i64 af,D.int .i64 ag]]) fun ab=>bw .i64 ab fun J=>bo (J !=0)
 (bu (decide (l=l))
 (fP [D.agg [D.int .i64 0,D.str (ByteArray.mk #[]),D.nils,D.nils,D.str (ByteArray.mk #[])],D.agg [D.int .i64 vx,D.int .i64 z,D.int .i64 J]]
 (some [])
 (some [])))
 (bu (decide (l=l))
 (fP [D.agg [D.int .i64 x,D.str ac,D.slc f a7 S,D.slc a6 a8 U,D.str ad],D.agg [D.int .i64 (IntKind.wrap .i64 (IntKind.wrap .i64 (vx+((ByteArray.size s):Int))+1)),D.int .i64 O,D.int .i64 J]]
 (oH j L C l n h (IntKind.wrap .i64 (M+1)) (IntKind.wrap .i64 (IntKind.wrap .i64 (vx+((ByteArray.size s):Int))+1)) O J)
 (some []))))))
 (some [])):=by kernel_rfl
theorem Fw(h:FuncId→List D→Option D)(L:Nat)(C:Nat→Nat)(l:Nat)(j:ByteArray):jv (ek (L9 h L C l) O0 Dm (tJ Tryz.f268) 1 (cz Tryz.f268 [D.fn (Fn.yield l) [] [],D.snap [D.str j] 0]) (jw (L9 h L C l).E FinM.raw Tryz.f268))=
 (oH h L C l L j 0 0 0 0):=by kernel_rfl
noncomputable def yt(call:CL)(vyield0:ByteArray)(n:Nat):Int→Int→Int→Int→Option (List (List D)):=Nat.rec (fun _ _ _ _=>none) (fun _ R vcount vx vx1 _=>
 (bo (decide (vx<((ByteArray.size vyield0):Int)))
  (bu (decide (0≤vx∧vx≤((ByteArray.size vyield0):Int)∧((ByteArray.size vyield0):Int)≤((ByteArray.size vyield0):Int)))
   (bn (call 133 [D.str (ByteArray.extract vyield0 (Int.toNat vx) (Int.toNat ((ByteArray.size vyield0):Int))),D.str (ByteArray.mk #[10])]) fun r=>
    (cJ (r) 3 fun c=>
    (bc (c) (0) fun d=>
    (bH (d) fun s=>
    (bc (c) (1) fun d_1=>
    (bH (d_1) fun _=>
    (bc (c) (2) fun d_2=>
    (bM (d_2) fun b=>
    (bo (!b)
     (
      (fP [D.agg [D.int IntKind.i64 0,D.str (ByteArray.mk #[]),D.nils,D.nils,D.str (ByteArray.mk #[])],D.agg [D.int IntKind.i64 vx,D.int IntKind.i64 vx1,D.int IntKind.i64 28]]
       (some [])
       (some [])))
     (bn (call 269 [D.str s,D.int IntKind.i64 vx1]) fun r_1=>
      (cJ (r_1) 3 fun c_1=>
      (bc (c_1) (0) fun d_3=>
      (fK (d_3) 5 fun c_2=>
      (bc (c_2) (0) fun d_4=>
      (bw IntKind.i64 (d_4) fun x=>
      (bc (c_2) (1) fun d_5=>
      (bH (d_5) fun s_2=>
      (bc (c_2) (2) fun d_6=>
      (cP (d_6) fun f n_1 c_3=>
      (bc (c_2) (3) fun d_7=>
      (cP (d_7) fun f_1 n_2 c_4=>
      (bc (c_2) (4) fun d_8=>
      (bH (d_8) fun s_3=>
      (bc (c_1) (1) fun d_9=>
      (bw IntKind.i64 (d_9) fun x_1=>
      (bc (c_1) (2) fun d_10=>
      (bw IntKind.i64 (d_10) fun x_2=>
      (bn (call 119 [D.bool (vcount==1000),D.int IntKind.i64 5]) fun r_2=>
       (bw IntKind.i64 (r_2) fun x_3=>
       (bn (call 87 [D.slc true 2 [D.int IntKind.i64 x_2,D.int IntKind.i64 x_3]]) fun r_3=>
        (bw IntKind.i64 (r_3) fun x_4=>
        (bo (x_4 !=0)
         (
          (fP [D.agg [D.int IntKind.i64 0,D.str (ByteArray.mk #[]),D.nils,D.nils,D.str (ByteArray.mk #[])],D.agg [D.int IntKind.i64 vx,D.int IntKind.i64 vx1,D.int IntKind.i64 x_4]]
           (some [])
           (some [])))
         (
          (fP [D.agg [D.int IntKind.i64 x,D.str s_2,D.slc f n_1 c_3,D.slc f_1 n_2 c_4,D.str s_3],D.agg [D.int IntKind.i64 (IntKind.wrap IntKind.i64 (IntKind.wrap IntKind.i64 (vx+((ByteArray.size s):Int))+1)),D.int IntKind.i64 x_1,D.int IntKind.i64 x_4]]
           (R (IntKind.wrap IntKind.i64 (vcount+1)) (IntKind.wrap IntKind.i64 (IntKind.wrap IntKind.i64 (vx+((ByteArray.size s):Int))+1)) (x_1) (x_4))
           (some []))))))))))))))))))))))))))))))))))))
  (some []))) n
theorem zz(call:CL)(L:Nat)(C:Nat→Nat)(l:Nat)(s:ByteArray):∀(n:Nat) (c x x1 x2:Int),oH call L C l n s c x x1 x2=yt call s n c x x1 x2
 |0,c,x,x1,x2=>by kernel_rfl
 |n+1,c,x,x1,x2=>by
  rw[yr];simp only[zz call L C l s n];rfl
theorem SeqOK.weak{P:Program}{gl:Nat→Option D}{g:FuncId}{caps:List D}{ys:List (List D)}{f:D→D}(hf:∀I w d v,RelC I w d v→RelC I w (f d) v)(h:SeqOK P gl g caps ys):SeqOK P gl g caps (ys.map fun y=>y.map f):=
 ⟨h.1,fun n l I w vcaps O Fz J Jx a1 a2 a3 a4 a5 a6 a7 a8 a9 a10=>by
  rw[zc2];exact h.2 n l I w vcaps O Fz J Jx a1 a2 a3 a4 a5 a6 a7 a8 (fun i y O Fz I1 W1 args hy hJ b1 b2 b3 hl hr=>a9 i (y.map f) O Fz I1 W1 args (by rw[zc3,hy];rfl) hJ b1 b2 b3 (by simpa using hl) fun j d v hd hv=>by
   obtain⟨x,hx,rfl⟩:=jc hd;exact hf _ _ _ _ (hr j x v hx hv)) a10⟩
theorem zA{call:CL}{s:ByteArray}{ys:List (List D)}(hE:EnvOK (cv call 1000 C1).E)(h:yt call s 1000 0 0 0 0=some ys):SeqOK Tryz.prog je 268 [.snap [.str s] 0] ys:=by
 refine CE (Te:=cv call 1000 C1) fk hE (fun _ _ _ h=>by cases h) Tryz.func268 (ord:=O0) (N:=Dm) (by kernel_rfl) rfl ?_;unfold Ct;have hb:Tryz.f268.body=some (tJ Tryz.f268):=rfl;rw[hb];dsimp only;have he:∀l,jv (ek (L9 call 1000 C1 l) O0 Dm (tJ Tryz.f268) 1 (cz Tryz.f268 [D.fn (Fn.yield l) [] [],D.snap [D.str s] 0]) (jw (L9 call 1000 C1 l).E FinM.raw Tryz.f268))=some ys:=fun l=>by
  rw[Fw,zz];exact h
 have:(fun l=>jv (ek {cv call 1000 C1 with it:=some l} O0 Dm (tJ Tryz.f268) 1 (cz Tryz.f268 (.fn (.yield l) [] []::[D.snap [D.str s] 0])) (jw (cv call 1000 C1).E .raw Tryz.f268)))=fun _=>some ys:=funext he;rw[this];exact ya _
end Go.Pd
end
section
namespace Go.Pd
open Go Go.Proofs Go.RowKit
set_option maxRecDepth 100000
def Dn:Nat→Int
 |1=>20
 |2=>48
 |3=>76
 |4=>99
 |5=>125
 |6=>148
 |7=>174
 |8=>200
 |_=>0
def Qs:D:= .agg [nI 0,SB [],.nils,.nils,SB []]
def rcY:List (List D):=[[cF 1,.agg [nI (Dn 1),nI (bq 1),nI 0]],[cF 2,.agg [nI (Dn 2),nI (bq 2),nI 0]],[cF 3,.agg [nI (Dn 3),nI (bq 3),nI 0]],[cF 4,.agg [nI (Dn 4),nI (bq 4),nI 0]],[cF 5,.agg [nI (Dn 5),nI (bq 5),nI 0]],[cF 6,.agg [nI (Dn 6),nI (bq 6),nI 0]],[cF 7,.agg [nI (Dn 7),nI (bq 7),nI 0]],[cF 8,.agg [nI (Dn 8),nI (bq 8),nI 0]],[Qs,.agg [nI (Dn 8),nI (bq 8),nI 28]]]
theorem Qt:yt (fj (BU P1 [] []) 60 false) (bs C4) 1000 0 0 0 0=some rcY:=by kernel_rfl
theorem Qu:SeqOK Tryz.prog je 268 [.snap [SB C4] 0] (rcY.map fun y=>y.map (yi 6)):=SeqOK.weak (fun _ _ _ _ h=>jd 6 h) (zA ⟨pA (fun _ _ _ h=>AV Jk oG qd h),fun _ _ h=>(by cases h),fun _ _ _ h=>(by cases h),fun _ _ h=>(by cases h)⟩ Qt)
def Pe:List wA:=[(268,[.snap [SB C4] 0],rcY.map fun y=>y.map (yi 6))]
theorem Fy:∀e∈Pe,SeqOK Tryz.prog je e.1 e.2.1 e.2.2:=fun e he=>by rw[zd1.1 he];exact Qu
theorem f59:bR 59 [SB C4] (.tup [.slc false 8 (Mm 8),nI (Dn 8),nI 28]):=AV kO oG Fy (by kernel_rfl)
def P2:List lF:=[(61,[Mn],C3),(45,[C3],.tup [uD,nI 0,nI 0]),(18,[uD,SB jY],kQ (.agg [SB jY,.slc false 2 [nI 5,SB [],nI 3,SB []]])),(19,[uD,SB jY],kQ (.slc false 1 [nI 2])),(20,[uD,SB jY],kQ (.slc true 0 [])),(21,[uD,SB jY],nI 7),(32,[uD],kQ (.slc false 2 Ky)),(69,[fD],kQ (.slc false 1 [SB [100],nI 1,SB jY,nI 1,nI 4,SB []])),(70,[fD],kQ (.slc false 1 [SB [100],nI 2])),(33,[uD,fD],kQ (.slc false 1 [SB jY,nI 1,nI 0])),(59,[SB C4],.tup [.slc false 8 (Mm 8),nI (Dn 8),nI 28])]
theorem Jl:∀e∈P2,bR e.1 e.2.1 e.2.2:=bK Qg (bK Qf (bK Qi (bK Qj (bK Qk (bK Ql (bK PY (bK Qo (bK Qp (bK Qq (bK f59 (kO)))))))))))
def P3:List lF:=[(53,[hD 0,SB (fb 1)],.tup [hD 1,kQ (SB ([100,111,110,101,32]++[49]))]),(53,[hD 1,SB (fb 2)],.tup [hD 2,kQ (SB ([100,111,110,101,32]++[50]))]),(53,[hD 2,SB (fb 3)],.tup [hD 3,kQ (SB ([100,111,110,101,32]++[51]))]),(53,[hD 3,SB (fb 4)],.tup [hD 4,kQ (SB ([100,111,110,101,32]++[52]))]),(53,[hD 4,SB (fb 5)],.tup [hD 5,kQ (SB ([100,111,110,101,32]++[53]))]),(53,[hD 5,SB (fb 6)],.tup [hD 6,kQ (SB ([100,111,110,101,32]++[54]))]),(53,[hD 6,SB (fb 7)],.tup [hD 7,kQ (SB ([100,111,110,101,32]++[55]))]),(53,[hD 7,SB (fb 8)],.tup [hD 8,kQ (SB ([100,111,110,101,32]++[56]))]),(53,[hD 8,SB [98,111,97,114,100]],.tup [hD 8,kQ (SB PZ)]),(56,[hD 8],.tup [hD 8,SB (Fv 8)])]
theorem Jm:∀e∈P3,PF e.1 e.2.1 e.2.2:=dF Mo (dF Mp (dF Mq (dF Mr (dF Ms (dF Mt (dF Mv (dF Mw (dF Pc (dF Qr oG)))))))))
theorem FA:bR 15 [] (.bool true):=AV Jl Jm qd (by kernel_rfl:fj (BU P2 P3 []) 60 false 15 []=_)
end Go.Pd
end
