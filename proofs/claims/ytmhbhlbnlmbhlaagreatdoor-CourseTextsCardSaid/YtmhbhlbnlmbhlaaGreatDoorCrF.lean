import Derived.Test.YtmhbhlbnlmbhlaaGreatDoorCrA
import Derived.KernelRfl
import Derived.Test.YtmhbhlbnlmbhlaaGreatDoorCrE
import Derived.Test.YtmhbhlbnlmbhlaaGreatDoorPdFf
section
namespace Go.Pd
open Go Go.Proofs
set_option maxRecDepth 100000
end Go.Pd
end
section
namespace Go.Pd
open Go Go.Proofs Go.RowKit
set_option maxRecDepth 100000
def V3(limit:Int)(used:List Int):Prop:=∀u∈used,0≤u∧u≤limit
theorem JG{l:List Int}{i:Nat}{u:Int}(h:l[i]?=some u)(k:D→Option D):bu (dE l) (Int.toNat (i:Int)*1) k=k (.int .i64 u):=cT (by simp[dE,h]) k
theorem PlcC.congr{P:Program}{gl:Nat→Option D}{k:FuncId}{p:Nat}{ds ds' cs:List D}{len:Nat}{cs':List D}{r x:D}(h:PlcC P gl k p ds' cs len cs' r)(he:ds'.set p x=ds.set p x):PlcC P gl k p ds cs len cs' r:=by
 have hl:ds'.length=ds.length:=by have:=congrArg List.length he;simpa using this
 intro I w b cap n e c vs h1 h2 h3 h4 h5 h6 h7 h8 h9 h10 h11 h12 h13 h14 h15 h16;refine h I w b cap n e c vs h1 h2 h3 h4 h5 h6 h7 h8 h9 h10 (by omega) (by omega) h13 (fun j d v hj hd hv=> ?_) h15 h16;refine h14 j d v hj ?_ hv;have:=congrArg (fun l:List D=>l[j]?) he;simp only[List.getElem?_set_ne (Ne.symm hj)] at this;rw[←this];exact hd
theorem Q4:∀vs w,(callFunc 104 vs).run Tryz.prog w= .ok (.enter 104 vs) w:=enters_of Tryz.func104 (by kernel_rfl) rfl
abbrev No(mu:FuncId→List D→Option D):Prop:=AU Tryz.prog ig 104 2 (mu 104)
abbrev Np(base:FuncId→List D→Option D):Prop:=∀ds len cs,bw base 173 ds=some (.slc false len cs)→CC Tryz.prog ig 173 3 1 ds len cs
theorem UJ{base mu:FuncId→List D→Option D}(hb:dA base)(hm:No mu)(ho:Np base){e:TypeId}{n:Nat}:EnvOK (Ts (bw base) mu LL C1 e n).E:=by
 refine⟨yk (gW hb),fun k g hg=> ?_,fun k e n hg=> ?_,fun _ _ hi=>nomatch hi⟩
 ·have hg:PT mu k=some g:=hg;unfold PT at hg;split at hg
  ·cases hg;exact⟨Gf,by intros;rename_i h _ _;cases h⟩
  ·cases hg;exact hm
  ·cases hg
 ·have hg:PT mu k=some (.own e n):=hg;unfold PT at hg;split at hg
  ·cases hg;exact ho
  ·cases hg
  ·cases hg
theorem V4{base mu:FuncId→List D→Option D}(hb:dA base)(hm:No mu)(ho:Np base){f:FuncId}{fn:Func}(hf:Tryz.prog.funcs[f]?=some fn){ord:fX}{N:bY}(hok:eh Tryz.prog ord fn=true){p:Nat}(h0:gM p fn=true){ds cs cs':List D}{len:Nat}{r:D}
  (he:∀e n,cs.length=len*n→yA (Ts (bw base) mu LL C1 e n) ord N p e n fn len cs ds=some (.tup [.slc false len cs',r])):PlcC Tryz.prog ig f p ds cs len cs' r:=
 FB (Te:=Ts (bw base) mu LL C1 0 0) gd (UJ hb hm ho) eP rfl iA hf hok h0 he
structure FI(flows:List Int)(limit:Int)(rest:List Int) where
 used:List Int
 l:List Int
 h1:flows.drop l.length=rest
 h2:l.length≤flows.length
 h3:used.length≤1000
 h4:V3 limit used
end Go.Pd
end
section
namespace Go.Pd
open Go Go.Proofs
set_option maxRecDepth 100000
def PH:bY:=fun p=>match p with
 |122=>nm [2,3,4,5,8,11,12,13] [15] [4,5,8,11,15]
 |7826=>nm [2,3,4,5,8,11,12,13,14] [15] [4,5,8,11,15]
 |62611=>nm [2,3,4,5,8,11,12,13,14] [15] [4,5,8,11,15]
 |500883=>nm [2,3,4,5,8,11,12,13,14,15] [] [4,5,8,11,15]
 |_=>none
noncomputable def fI(call:CL)(L:Nat)(C:Nat→Nat)(n q:Nat)(a4:ByteArray)(a7 vx vy:Int)(O:ByteArray)(S U V W:Int)(Y:Bool)(a0:Nat)(X:List D)(a2:Bool)(a3:Nat)(a1:List D)(a5 a6:Int)(M:Bool)(K z:Int):Option D:=
 eL (cF call L C) O0 PH FinM.canon Tryz.f34 (bt 15 25751) [n,q] (C 62611) (St.mk (J::J::D.str a4::D.int .i64 a7::D.loc 4 0 0::D.loc 5 0 0::J::J::D.loc 8 0 0::J::J::D.loc 11 0 0::D.bool M::D.int .i64 vx::D.int .i64 vy::jn 101 []) (Z::Z::Z::Z::(1,some (Ob.box [D.str O,D.int .i64 S,D.int .i64 U,D.int .i64 V,D.int .i64 W,D.slc Y a0 X,D.slc a2 a3 a1] false))::(1,some (Ob.box [D.int .i64 a5,D.int .i64 a6] false))::Z::Z::(1,some (Ob.box [D.int .i64 0,D.int .i64 0] false))::Z::Z::(1,some (Ob.box [D.int .i64 K,D.int .i64 z] false))::zn 104 []))
noncomputable def jf(call:CL)(L:Nat)(C:Nat→Nat)(n q:Nat)(a4:ByteArray)(a7:Int)(M:Bool)(vx vy:Int)(O:ByteArray)(S U V W:Int)(Y:Bool)(a0:Nat)(X:List D)(a2:Bool)(a3:Nat)(a1:List D)(a5 a6 K z:Int):Option D:=
 eL (cF call L C) O0 PH FinM.canon Tryz.f34 (bt 18 205975) [n,q] (C 500883) (St.mk (J::J::D.str a4::D.int .i64 a7::D.loc 4 0 0::D.loc 5 0 0::J::J::D.loc 8 0 0::J::J::D.loc 11 0 0::D.bool M::D.int .i64 vx::D.int .i64 vy::D.loc 15 0 0::jn 100 []) (Z::Z::Z::Z::(1,some (Ob.box [D.str O,D.int .i64 S,D.int .i64 U,D.int .i64 V,D.int .i64 W,D.slc Y a0 X,D.slc a2 a3 a1] false))::(1,some (Ob.box [D.int .i64 a5,D.int .i64 a6] false))::Z::Z::(1,some (Ob.box [D.int .i64 0,D.int .i64 0] false))::Z::Z::(1,some (Ob.box [D.int .i64 K,D.int .i64 z] false))::Z::Z::Z::(1,some (Ob.box [D.int .i64 vx,D.int .i64 vy] false))::zn 100 []))
noncomputable def oI(call:CL)(L:Nat)(C:Nat→Nat)(n q:Nat)(a4:ByteArray)(a7 vx:Int)(O:ByteArray)(S U V W:Int)(Y:Bool)(a0:Nat)(X:List D)(a2:Bool)(a3:Nat)(a1:List D)(a5 a6:Int)(M:Bool)(vy K z:Int):Option D:=
 cw (cF call L C) O0 PH FinM.canon Tryz.f34 (bt 12 1175) [n] q (St.mk (J::J::D.str a4::D.int .i64 a7::D.loc 4 0 0::D.loc 5 0 0::J::J::D.loc 8 0 0::J::J::D.loc 11 0 0::D.bool M::D.int .i64 vx::D.int .i64 vy::jn 101 []) (Z::Z::Z::Z::(1,some (Ob.box [D.str O,D.int .i64 S,D.int .i64 U,D.int .i64 V,D.int .i64 W,D.slc Y a0 X,D.slc a2 a3 a1] false))::(1,some (Ob.box [D.int .i64 a5,D.int .i64 a6] false))::Z::Z::(1,some (Ob.box [D.int .i64 0,D.int .i64 0] false))::Z::Z::(1,some (Ob.box [D.int .i64 K,D.int .i64 z] false))::zn 104 []))
noncomputable def rS(call:CL)(L:Nat)(C:Nat→Nat)(n:Nat)(a3:ByteArray)(a6:Int)(M:ByteArray)(O S U V:Int)(X:Bool)(Y:Nat)(W:List D)(a1:Bool)(a2:Nat)(a0:List D)(a4 a5:Int)(K:Bool)(vx q z:Int):Option D:=
 cw (cF call L C) O0 PH FinM.canon Tryz.f34 (bt 6 23) [] n (St.mk (J::J::D.str a3::D.int .i64 a6::D.loc 4 0 0::D.loc 5 0 0::J::J::D.loc 8 0 0::J::J::D.loc 11 0 0::D.bool K::D.int .i64 vx::jn 102 []) (Z::Z::Z::Z::(1,some (Ob.box [D.str M,D.int .i64 O,D.int .i64 S,D.int .i64 U,D.int .i64 V,D.slc X Y W,D.slc a1 a2 a0] false))::(1,some (Ob.box [D.int .i64 a4,D.int .i64 a5] false))::Z::Z::(1,some (Ob.box [D.int .i64 0,D.int .i64 0] false))::Z::Z::(1,some (Ob.box [D.int .i64 q,D.int .i64 z] false))::zn 104 []))
theorem kX(call:CL)(L:Nat)(C:Nat→Nat)(n q:Nat)(a2:ByteArray)(a5 vx vy:Int)(M:ByteArray)(O S U V:Int)(X:Bool)(Y:Nat)(W:List D)(a0:Bool)(a1:Nat)(Z:List D)(a3 a4:Int)(K:Bool)(J z:Int)(hC:∀t,C t=1):fI call L C n q a2 a5 vx vy M O S U V X Y W a0 a1 Z a3 a4 K J z=
 (oI call L C n q a2 a5 vx M O S U V X Y W a0 a1 Z a3 a4 K (IntKind.wrap .i64 (vy+1)) J z):=by
 unfold fI;rw[hC]
 kernel_rfl
theorem vo(call:CL)(L:Nat)(C:Nat→Nat)(n Z:Nat)(Y:ByteArray)(a2:Int)(a5:Bool)(vx vy:Int)(q:ByteArray)(z J K M:Int)(S:Bool)(U:Nat)(O:List D)(W:Bool)(X:Nat)(V:List D)(a0 a1 a4 a3:Int)(hC:∀t,C t=1):jf call L C n Z Y a2 a5 vx vy q z J K M S U O W X V a0 a1 a4 a3=
 (bB (call 78 [D.agg [D.str q,D.int .i64 z,D.int .i64 J,D.int .i64 K,D.int .i64 M,D.slc S U O,D.slc W X V],D.fn (Fn.func 101) [] [D.snap [D.int .i64 vx,D.int .i64 vy] 0]]) fun a7=>cy a7 2 fun c=>bu c 0 fun d=>bU d fun s=>bu c 1 fun a6=>bD .i64 a6 fun _x_11=>bz (!ByteArray.toList s==ByteArray.toList Y)
 (bz (!ByteArray.toList s==ByteArray.toList (ByteArray.mk #[111,117,116]))
 (fI call L C n Z Y a2 vx vy q z J K M S U O W X V a0 a1 true vx vy)
 (fI call L C n Z Y a2 vx vy q z J K M S U O W X V a0 a1 a5 a4 a3))
 (fI call L C n Z Y a2 vx vy q z J K M S U O W X V a0 a1 a5 a4 a3)):=by
 unfold jf;rw[hC]
 kernel_rfl
theorem qM(call:CL)(L:Nat)(C:Nat→Nat)(n a5:Nat)(a4:ByteArray)(J vx:Int)(V:ByteArray)(W X K M:Int)(Z:Bool)(a0:Nat)(Y:List D)(a2:Bool)(a3:Nat)(a1:List D)(z q:Int)(U:Bool)(vy S O:Int):oI call L C n (a5+1) a4 J vx V W X K M Z a0 Y a2 a3 a1 z q U vy S O=
 (bz (decide (vy≤IntKind.wrap .i64 (q+J)))
 (bB (call 83 [D.agg [D.int .i64 vx,D.int .i64 vy],D.agg [D.int .i64 z,D.int .i64 q]]) fun a8=>bD .i64 a8 fun ad=>bz (decide (ad>IntKind.wrap .i64 (J*J)))
 (fI call L C n a5 a4 J vx vy V W X K M Z a0 Y a2 a3 a1 z q U S O)
 (bB (call 77 [D.slc true 1 [D.int .i64 vx,D.int .i64 vy]]) fun a9=>bD .i64 a9 fun ae=>bz (ae !=0)
 (fI call L C n a5 a4 J vx vy V W X K M Z a0 Y a2 a3 a1 z q U S O)
 (bB (call 83 [D.agg [D.int .i64 vx,D.int .i64 vy],D.agg [D.int .i64 K,D.int .i64 M]]) fun aa=>bD .i64 aa fun af=>bB (call 83 [D.agg [D.int .i64 z,D.int .i64 q],D.agg [D.int .i64 K,D.int .i64 M]]) fun ab=>bD .i64 ab fun ag=>bz (decide (af<ag))
 (fI call L C n a5 a4 J vx vy V W X K M Z a0 Y a2 a3 a1 z q U S O)
 (bz U
 (bB (call 83 [D.agg [D.int .i64 vx,D.int .i64 vy],D.agg [D.int .i64 z,D.int .i64 q]]) fun a6=>bD .i64 a6 fun ah=>bB (call 83 [D.agg [D.int .i64 S,D.int .i64 O],D.agg [D.int .i64 z,D.int .i64 q]]) fun a7=>bD .i64 a7 fun ac=>bz (decide (ah≥ac))
 (fI call L C n a5 a4 J vx vy V W X K M Z a0 Y a2 a3 a1 z q U S O)
 (jf call L C n a5 a4 J U vx vy V W X K M Z a0 Y a2 a3 a1 z q S O))
 (jf call L C n a5 a4 J U vx vy V W X K M Z a0 Y a2 a3 a1 z q S O)))))
 (rS call L C n a4 J V W X K M Z a0 Y a2 a3 a1 z q U (IntKind.wrap .i64 (vx+1)) S O)):=by kernel_rfl
theorem tx(call:CL)(L:Nat)(C:Nat→Nat)(n:Nat)(a4:ByteArray)(q:Int)(S:ByteArray)(U V W X:Int)(Z:Bool)(a0:Nat)(Y:List D)(a2:Bool)(a3:Nat)(a1:List D)(M O:Int)(K:Bool)(vx z J:Int):rS call L C (n+1) a4 q S U V W X Z a0 Y a2 a3 a1 M O K vx z J=
 (bz (decide (vx≤IntKind.wrap .i64 (M+q)))
 (oI call L C n L a4 q vx S U V W X Z a0 Y a2 a3 a1 M O K (IntKind.wrap .i64 (O-q)) z J)
 (bB (call 84 [D.bool !K,D.int .i64 7]) fun a5=>bD .i64 a5 fun a6=>some (D.tup [D.agg [D.int .i64 z,D.int .i64 J],D.int .i64 a6]))):=by kernel_rfl
theorem Nq(call:CL)(L:Nat)(C:Nat→Nat)(J:ByteArray)(K M O S:Int)(V:Bool)(W:Nat)(U:List D)(Y:Bool)(Z:Nat)(X:List D)(q a1:Int)(a0:ByteArray)(z:Int):bT (cF call L C) O0 PH FinM.canon Tryz.f34 [D.agg [D.str J,D.int .i64 K,D.int .i64 M,D.int .i64 O,D.int .i64 S,D.slc V W U,D.slc Y Z X],D.agg [D.int .i64 q,D.int .i64 a1],D.str a0,D.int .i64 z]=
 (bB (call 21 [D.agg [D.str J,D.int .i64 K,D.int .i64 M,D.int .i64 O,D.int .i64 S,D.slc V W U,D.slc Y Z X]]) fun r=>bD .i64 r fun x=>bB (call 77 [D.slc true 1 [D.int .i64 q,D.int .i64 a1]]) fun a3=>bD .i64 a3 fun a8=>bB (call 93 [D.str a0]) fun a4=>bD .i64 a4 fun a9=>bB (call 100 [D.int .i64 z,D.int .i64 0,D.int .i64 20]) fun a5=>ce a5 fun b=>bB (call 84 [D.bool b,D.int .i64 3]) fun a6=>bD .i64 a6 fun aa=>bB (call 76 [D.slc true 4 [D.int .i64 x,D.int .i64 a8,D.int .i64 a9,D.int .i64 aa]]) fun a7=>bD .i64 a7 fun a2=>bz (a2 !=0)
 (some (D.tup [D.agg [D.int .i64 0,D.int .i64 0],D.int .i64 a2]))
 (rS call L C L a0 z J K M O S V W U Y Z X q a1 false (IntKind.wrap .i64 (q-z)) 0 0)):=by kernel_rfl
end Go.Pd
end
section
namespace Go.Pd
open Go Go.Proofs Go.RowKit
set_option maxRecDepth 100000
def tz(v:ByteArray):Int:=bz (!dn v th) (bz (!fw v) 13 0) 0
theorem UK(v:ByteArray):OK2 93 [.str v] (.int .i64 (tz v)):=by
 obtain⟨B,hb,e86,e84,_⟩:=fP [fam86,sT 84] ⟨tp,jc EC (fun _ _=>rfl),trivial⟩ rfl;refine dT hb Tryz.func93 (ord:=O0) (N:=N0) (by kernel_rfl) ((Na _ _ _ v).trans ?_);have f86:bw B 86 [.slc true 6 (dF kinds6),.str v]=some (.bool (fw v)):=e86 v;have f84:∀b e,bw B 84 [.bool b,.int .i64 e]=some (.int .i64 (bz b e 0)):=fun b e=>e84 (b,e);rw[show(ByteArray.toList v==ByteArray.toList (ByteArray.mk #[111,117,116]))=dn v th from rfl];unfold tz;cases dn v th
 ·rw[show(!false)=true from rfl,bx,bx];rw[show D.slc true 6 [D.str (ByteArray.mk #[103,114,101,101,110]),D.str (ByteArray.mk #[116,101,101]),D.str (ByteArray.mk #[98,117,110,107,101,114]),D.str (ByteArray.mk #[119,97,116,101,114]),D.str (ByteArray.mk #[102,97,105,114,119,97,121]),D.str (ByteArray.mk #[114,111,117,103,104])]= .slc true 6 (dF kinds6) from rfl,f86,bA,cj,f84,bA,bF]
 ·rw[show(!true)=false from rfl,bv,bv,f84,bA,bF];rfl
def Nr(h:Hl)(p:Pt)(kind:ByteArray)(reach:Int)(q:Pt)(S:Bool×Pt):Bool×Pt:=
 bz (decide (tt q p>jb (reach*reach))) S (bz (cb q) S (bz (decide (tt q h.cup<tt p h.cup)) S
  (bz (S.1&&decide (tt q p≥tt S.2 p)) S (bz (!dn (gv h q).1 kind) (bz (!dn (gv h q).1 th) (true,q) S) S))))
def Ns(h:Hl)(p:Pt)(kind:ByteArray)(reach x:Int):Nat→Int→Bool×Pt→Bool×Pt
 |0,_,S=>S
 |n+1,y,S=>Ns h p kind reach x n (y+1) (Nr h p kind reach (x,y) S)
def JH(h:Hl)(p:Pt)(kind:ByteArray)(reach:Int):Nat→Int→Bool×Pt→Bool×Pt
 |0,_,S=>S
 |n+1,x,S=>JH h p kind reach n (x+1) (Ns h p kind reach x (2*reach+1).toNat (p.2-reach) S)
def Q5(h:Hl)(p:Pt)(kind:ByteArray)(reach:Int):Bool×Pt:=JH h p kind reach (2*reach+1).toNat (p.1-reach) (false,(0,0))
def Gg(h:Hl)(p:Pt)(kind:ByteArray)(reach:Int):Int:=cI [cv h,bz (cb p) 3 0,tz kind,bz (lI (reach,0,20)) 3 0]
def Nt(h:Hl)(p:Pt)(kind:ByteArray)(reach:Int):D:=
 bz (Gg h p kind reach !=0) (.tup [bW (0,0),.int .i64 (Gg h p kind reach)]) (.tup [bW (Q5 h p kind reach).2,.int .i64 (bz (!(Q5 h p kind reach).1) 7 0)])
section
variable {call:CL}{h:Hl}{p:Pt}{kind:ByteArray}{reach:Int}
structure RelC34(call:CL)(h:Hl):Prop where
 h83:∀a b:Pt,call 83 [bW a,bW b]=some (.int .i64 (tt a b))
 h77:∀a:Pt,call 77 [.slc true 1 [.int .i64 a.1,.int .i64 a.2]]=some (.int .i64 (bz (cb a) 3 0))
 h78:∀q:Pt,call 78 [bQ h,.fn (.func 101) [] [.snap [.int .i64 q.1,.int .i64 q.2] 0]]=some (fH (gv h q))
 h84:∀b e,call 84 [.bool b,.int .i64 e]=some (.int .i64 (bz b e 0))
noncomputable abbrev PI(call:CL)(h:Hl)(p:Pt)(kind:ByteArray)(reach:Int)(n n1:Nat)(x y:Int)(S:Bool×Pt):Option D:=
 oI call LL C1 n n1 kind reach x h.name h.tee.1 h.tee.2 h.cup.1 h.cup.2 h.lf h.line.length (bJ h.line) h.af h.areas.length (bV h.areas) p.1 p.2 S.1 y S.2.1 S.2.2
noncomputable abbrev Tz(call:CL)(h:Hl)(p:Pt)(kind:ByteArray)(reach:Int)(n:Nat)(x:Int)(S:Bool×Pt):Option D:=
 rS call LL C1 n kind reach h.name h.tee.1 h.tee.2 h.cup.1 h.cup.2 h.lf h.line.length (bJ h.line) h.af h.areas.length (bV h.areas) p.1 p.2 S.1 x S.2.1 S.2.2
theorem Nu(hc:RelC34 call h){n n1:Nat}{x y:Int}(hy:y≤jb (p.2+reach)){S:Bool×Pt}:
  PI call h p kind reach n (n1+1) x y S=PI call h p kind reach n n1 x (jb (y+1)) (Nr h p kind reach (x,y) S):=by
 have e83:call 83 [D.agg [D.int IntKind.i64 x,D.int IntKind.i64 y],D.agg [D.int IntKind.i64 p.1,D.int IntKind.i64 p.2]]=some (.int .i64 (tt (x,y) p)):=hc.h83 (x,y) p;have e83c:call 83 [D.agg [D.int IntKind.i64 x,D.int IntKind.i64 y],D.agg [D.int IntKind.i64 h.cup.1,D.int IntKind.i64 h.cup.2]]=some (.int .i64 (tt (x,y) h.cup)):=hc.h83 (x,y) h.cup;have e83p:call 83 [D.agg [D.int IntKind.i64 p.1,D.int IntKind.i64 p.2],D.agg [D.int IntKind.i64 h.cup.1,D.int IntKind.i64 h.cup.2]]=some (.int .i64 (tt p h.cup)):=hc.h83 p h.cup;have e83b:call 83 [D.agg [D.int IntKind.i64 S.2.1,D.int IntKind.i64 S.2.2],D.agg [D.int IntKind.i64 p.1,D.int IntKind.i64 p.2]]=some (.int .i64 (tt S.2 p)):=hc.h83 S.2 p;have e77:call 77 [.slc true 1 [.int .i64 x,.int .i64 y]]=some (.int .i64 (bz (cb (x,y)) 3 0)):=hc.h77 (x,y);have e78:call 78 [bQ h,.fn (.func 101) [] [.snap [.int .i64 x,.int .i64 y] 0]]=some (fH (gv h (x,y))):=hc.h78 (x,y);have rd:∀(x:ByteArray×Int) (k:ByteArray→Int→Option D),(cy (fH x) 2 fun c=>bu c 0 fun d=>bU d fun s=>bu c 1 fun d'=>bD .i64 d' fun y=>k s y)=k x.1 x.2:=fun _ _=>rfl;have cl:jf call LL C1 n n1 kind reach S.1 x y h.name h.tee.1 h.tee.2 h.cup.1 h.cup.2 h.lf h.line.length (bJ h.line) h.af h.areas.length (bV h.areas) p.1 p.2 S.2.1 S.2.2=
   PI call h p kind reach n n1 x (jb (y+1)) (bz (!dn (gv h (x,y)).1 kind) (bz (!dn (gv h (x,y)).1 th) (true,(x,y)) S) S):=by
  rw[vo (C:=C1) (hC:=fun _=>rfl),e78,bA,rd];rw[kX (C:=C1) (hC:=fun _=>rfl),kX (C:=C1) (hC:=fun _=>rfl)];rw[show(ByteArray.toList (gv h (x,y)).1==ByteArray.toList kind)=dn (gv h (x,y)).1 kind from rfl,show(ByteArray.toList (gv h (x,y)).1==ByteArray.toList (ByteArray.mk #[111,117,116]))=dn (gv h (x,y)).1 th from rfl];cases dn (gv h (x,y)).1 kind<;>cases dn (gv h (x,y)).1 th<;>rfl
 unfold PI;rw[qM,show decide (y≤IntKind.wrap .i64 (p.2+reach))=true by simpa using hy,bx,e83,bA,bF];unfold Nr;rw[show IntKind.wrap .i64 (reach*reach)=jb (reach*reach) from rfl];rw[kX (C:=C1) (hC:=fun _=>rfl)];cases decide (tt (x,y) p>jb (reach*reach))
 ·rw[bv,bv,e77,bA,bF];cases cb (x,y)
  ·rw[bv,bv,show((0:Int) !=0)=false from rfl,bv,e83c,bA,bF,e83p,bA,bF];cases decide (tt (x,y) h.cup<tt p h.cup)
   ·rw[bv,bv];obtain⟨b,q⟩:=S;cases b
    ·rw[bv,show(((false,q):Bool×Pt).1&&decide (tt (x,y) p≥tt ((false,q):Bool×Pt).2 p))=false from rfl,bv];exact cl
    ·rw[bx,bA,bF,e83b,bA,bF,show(((true,q):Bool×Pt).1&&decide (tt (x,y) p≥tt ((true,q):Bool×Pt).2 p))=decide (tt (x,y) p≥tt q p) from rfl];cases decide (tt (x,y) p≥tt q p)
     ·rw[bv,bv];exact cl
     ·rfl
   ·rfl
  ·rfl
 ·rfl
theorem LN(hc:RelC34 call h){n:Nat}{x:Int}(hp:iU p)(hr0:0≤reach)(hr1:reach≤20):∀(m n1:Nat) (y:Int) (S:Bool×Pt),y+m=p.2+reach+1→-2000000≤y→m<n1→
  PI call h p kind reach n n1 x y S=Tz call h p kind reach n (jb (x+1)) (Ns h p kind reach x m y S)
 |0,n1,y,S,hy,h0,hn=>by
  obtain⟨n1,rfl⟩:∃k,n1=k+1:=⟨n1-1,by omega⟩;obtain⟨_,_,hp3,hp4⟩:=hp;have e:jb (p.2+reach)=p.2+reach:=bS (by omega);unfold PI;rw[qM,show IntKind.wrap .i64 (p.2+reach)=p.2+reach from e,show decide (y≤p.2+reach)=false by simp;omega,bv];rfl
 |m+1,n1,y,S,hy,h0,hn=>by
  obtain⟨n1,rfl⟩:∃k,n1=k+1:=⟨n1-1,by omega⟩;have hp':=hp;obtain⟨_,_,hp3,hp4⟩:=hp';have e:jb (p.2+reach)=p.2+reach:=bS (by omega);have e1:jb (y+1)=y+1:=bS (by omega);rw[Nu hc (by rw[e];omega),e1];exact LN hc hp hr0 hr1 m n1 (y+1) _ (by omega) (by omega) (by omega)
theorem LO(hc:RelC34 call h)(hp:iU p)(hr0:0≤reach)(hr1:reach≤20):∀(m n:Nat) (x:Int) (S:Bool×Pt),x+m=p.1+reach+1→-2000000≤x→m<n→
  Tz call h p kind reach n x S=some (.tup [bW (JH h p kind reach m x S).2,.int .i64 (bz (!(JH h p kind reach m x S).1) 7 0)])
 |0,n,x,S,hx,h0,hn=>by
  obtain⟨n,rfl⟩:∃k,n=k+1:=⟨n-1,by omega⟩;have hp':=hp;obtain⟨hp1,hp2,_,_⟩:=hp';have e:jb (p.1+reach)=p.1+reach:=bS (by omega);unfold Tz;rw[tx,show IntKind.wrap .i64 (p.1+reach)=p.1+reach from e,show decide (x≤p.1+reach)=false by simp;omega,bv,hc.h84,bA,bF];rfl
 |m+1,n,x,S,hx,h0,hn=>by
  obtain⟨n,rfl⟩:∃k,n=k+1:=⟨n-1,by omega⟩;have hp':=hp;obtain⟨hp1,hp2,hp3,hp4⟩:=hp';have e:jb (p.1+reach)=p.1+reach:=bS (by omega);have e1:jb (x+1)=x+1:=bS (by omega);have e2:jb (p.2-reach)=p.2-reach:=bS (by omega);unfold Tz;rw[tx,show IntKind.wrap .i64 (p.1+reach)=p.1+reach from e,show decide (x≤p.1+reach)=true by simp;omega,bx,show IntKind.wrap .i64 (p.2-reach)=p.2-reach from e2];have:=LN hc (kind:=kind) (n:=n) (x:=x) hp hr0 hr1 (2*reach+1).toNat LL (p.2-reach) S (by omega) (by omega) (by unfold LL;omega);refine this.trans ?_;rw[e1];exact LO hc hp hr0 hr1 m n (x+1) _ (by omega) (by omega) (by omega)
end
theorem zp:fam77a.Good:=⟨fun p=>BQ p,fun x y e=>by
 have e:[D.slc true 1 [.int .i64 x.1,.int .i64 x.2]]=[D.slc true 1 [.int .i64 y.1,.int .i64 y.2]]:=e;simp only[zc5,D.slc.injEq,D.int.injEq,true_and,and_true] at e;show D.int .i64 (bz (cb x) 3 0)= .int .i64 (bz (cb y) 3 0);rw[show x=y from Prod.ext e.1 e.2],fun _=>rfl⟩
theorem UL(h:Hl)(hk:h.Ok)(p:Pt)(kind:ByteArray)(reach:Int):OK2 34 [bQ h,bW p,.str kind,.int .i64 reach] (Nt h p kind reach):=by
 obtain⟨B,hb,e21,e77,e93,e100,e84,e76,e83,e78,_⟩:=fP [one 21 [bQ h] (.int .i64 (cv h)),fam77a,one 93 [.str kind] (.int .i64 (tz kind)),fam100,sT 84,vL 76,lH 83 fun a b=> .int .i64 (tt a b),
   ⟨78,Pt,fun q=>[bQ h,.fn (.func 101) [] [.snap [.int .i64 q.1,.int .i64 q.2] 0]],fun q=>fH (gv h q)⟩]
  ⟨bM (Ge h hk) rfl,zp,bM (UK kind) rfl,qG,jc EC (fun _ _=>rfl),jd (fun l hl=>ED l hl) (fun _ _=>rfl),ek UF (fun _ _=>rfl),
   ⟨fun q=>QW (fun a ha=>QX q a (hk.c a ha)) hk.a,fun x y e=>by
    have e:[bQ h,D.fn (.func 101) [] [.snap [.int .i64 x.1,.int .i64 x.2] 0]]=[bQ h,D.fn (.func 101) [] [.snap [.int .i64 y.1,.int .i64 y.2] 0]]:=e;simp only[zc5,D.fn.injEq,D.snap.injEq,D.int.injEq,true_and,and_true] at e;show fH _=fH _;rw[show x=y from Prod.ext e.1 e.2],fun _=>rfl⟩,trivial⟩ rfl
 refine dT hb Tryz.func34 (ord:=O0) (N:=PH) (by kernel_rfl) ((Nq _ _ _ h.name h.tee.1 h.tee.2 h.cup.1 h.cup.2 h.lf h.line.length (bJ h.line) h.af h.areas.length (bV h.areas) p.1 p.2 kind reach).trans ?_);have f21:bw B 21 [bQ h]=some (.int .i64 (cv h)):=e21 ();have f77:bw B 77 [.slc true 1 [.int .i64 p.1,.int .i64 p.2]]=some (.int .i64 (bz (cb p) 3 0)):=e77 p;have f93:bw B 93 [.str kind]=some (.int .i64 (tz kind)):=e93 ();have f100:bw B 100 [.int .i64 reach,.int .i64 0,.int .i64 20]=some (.bool (lI (reach,0,20))):=e100 (reach,0,20);have f84:∀b e,bw B 84 [.bool b,.int .i64 e]=some (.int .i64 (bz b e 0)):=fun b e=>e84 (b,e);have f76:bw B 76 [.slc true 4 [.int .i64 (cv h),.int .i64 (bz (cb p) 3 0),.int .i64 (tz kind),.int .i64 (bz (lI (reach,0,20)) 3 0)]]=some (.int .i64 (Gg h p kind reach)):=e76 ⟨[cv h,bz (cb p) 3 0,tz kind,bz (lI (reach,0,20)) 3 0],by simp⟩;have hc:RelC34 (bw B) h:=⟨fun a b=>e83 (a,b),fun a=>e77 a,fun q=>e78 q,f84⟩;rw[f21,bA,bF,f77,bA,bF,f93,bA,bF,f100,bA,cj,f84,bA,bF,f76,bA,bF];unfold Nt;cases hz:Gg h p kind reach !=0
 ·rw[bv,bv];have hz:Gg h p kind reach=0:=by simpa using hz
  have h0:=jB hz;have hp:iU p:=BS (l6 (h0 (bz (cb p) 3 0) (by simp)));have hr:lI (reach,0,20)=false:=l6 (h0 (bz (lI (reach,0,20)) 3 0) (by simp));have hr':0≤reach∧reach≤20:=by
   unfold lI at hr;cases h1:decide (reach<0)<;>cases h2:decide (reach>20)<;>simp only[h1,h2] at hr<;>first|(simp at h1 h2;omega)|cases hr
  obtain⟨hr0,hr1⟩:=hr';have hp':=hp;obtain⟨hp1,hp2,_,_⟩:=hp';have:=LO hc (kind:=kind) hp hr0 hr1 (2*reach+1).toNat LL (p.1-reach) (false,(0,0)) (by omega) (by omega) (by unfold LL;omega);rw[show IntKind.wrap .i64 (p.1-reach)=p.1-reach from bS (by omega)];exact this
 ·rfl
end Go.Pd
end
section
namespace Go.Pd
open Go Go.Proofs
set_option maxRecDepth 100000
end Go.Pd
end
section
namespace Go.Pd
open Go Go.Proofs Go.RowKit
set_option maxRecDepth 100000
end Go.Pd
end
section
namespace Go.Pd
open Go Go.Proofs
set_option maxRecDepth 100000
def UM:bY:=fun p=>match p with
 |250=>nm [0,1,4,5,6,7,16,17] [9] [9,13,14,74]
 |506=>nm [1,5,6,7,57,58] [9,13] [9,13,14,74]
 |1018=>nm [1,5,6,7,11] [9,13] [9,13,14,74]
 |128202=>nm [0,1,4,5,6,7,16,17,19,20,21] [9] [9,13,14,74]
 |_=>none
def Q6:fX:=fun id=>match id with
 |12=>some {fs:=[(51,13),(44,14)]}
 |_=>none
end Go.Pd
end
