import Derived.Test.YtjhoaknnmfifgaaGreatDoorUnA
import Derived.Ground.NamesProg
import Derived.Shelf.Strings.LastIndex
import Derived.Shelf.Strings.Repeat
import Derived.Shelf.Strings.IndexAnyAll
import Derived.Test.YtjhoaknnmfifgaaGreatDoorProg
import Derived.Test.YtjhoaknnmfifgaaGreatDoorUnB
import Derived.Test.YtjhoaknnmfifgaaGreatDoorUnH
import Derived.Laws.Strings
import Derived.KernelRfl
import Derived.Test.YtjhoaknnmfifgaaGreatDoorUnC
section
namespace Go.Pd
open Go Go.Proofs
def Qw:List D:=[.str (ByteArray.mk #[99,108,117,98]),.str (ByteArray.mk #[109,101,109,98,101,114]),.str (ByteArray.mk #[104,111,108,101,115]),.str (ByteArray.mk #[109,97,114,107]),.str (ByteArray.mk #[99,108,97,105,109]),.str (ByteArray.mk #[115,105,103,110]),.str (ByteArray.mk #[114,117,108,105,110,103]),.str (ByteArray.mk #[114,111,117,110,100]),.str (ByteArray.mk #[117,110,100,111])]
def FT(n v:Int)(t:Bool)(f:D):D:= .agg [.int .i64 n,.int .i64 v,.bool t,f]
def Ho(k:FuncId):D:= .fn (.func k) [] []
def Qx:List D:=[FT 1 0 false (Ho 169),FT 2 0 true (Ho 171),FT 0 0 true (Ho 172),FT 2 1 true (Ho 174),FT 1 1 true (Ho 176),FT 1 0 false (Ho 177),FT 1 1 true (Ho 178),FT 1 0 false (Ho 179),FT 0 0 false .nilf]
def lH:D:= .msnap Qw Qx
def FU:uF:=fun k ds=>match k,ds with
 |113,[]=>some lH
 |214,[.str s]=>some (.fn (.func 268) [] [.snap [.str s] 0])
 |_,_=>none
noncomputable def jy(call:CL)(L:Nat)(C:Nat→Nat):TE:={cv call L C with cst:=FU}
noncomputable def Oi(call:CL)(L:Nat)(C:Nat→Nat)(sq:FuncId→List D→Option (List (List D))):TE:={cv call L C with cst:=FU,sq:=sq}
end Go.Pd
end
section
namespace Go.Proofs
open Go.Shelf
def Tryz.lays148_ren:Go.Shelf.Ren:=⟨fun|148=>324|222=>351|223=>352|269=>362|n=>n,fun|9=>9|3=>3|4=>4|5=>5|146=>326|51=>325|46=>276|n=>n,fun|n=>n⟩
theorem Tryz.lays148:Go.Proofs.Lays.n148 Tryz.prog Tryz.lays148_ren:={
 mixed:=by kernel_rfl
 f148:=Tryz.func324.trans (congrArg some (by kernel_rfl))
 f222:=Tryz.func351.trans (congrArg some (by kernel_rfl))
 f223:=Tryz.func352.trans (congrArg some (by kernel_rfl))
 f269:=Tryz.func362.trans (congrArg some (by kernel_rfl))
 t3:=Tryz.underlying3
 a3:=Tryz.isAgg3
 z3:=Tryz.sizeOf3
 v3:=Tryz.zeroValue3
 t4:=Tryz.underlying4
 a4:=Tryz.isAgg4
 z4:=Tryz.sizeOf4
 v4:=Tryz.zeroValue4
 t5:=Tryz.underlying5
 a5:=Tryz.isAgg5
 z5:=Tryz.sizeOf5
 v5:=Tryz.zeroValue5
 t9:=Tryz.underlying9
 a9:=Tryz.isAgg9
 z9:=Tryz.sizeOf9
 v9:=Tryz.zeroValue9
 t46:=Tryz.underlying276
 a46:=Tryz.isAgg276
 z46:=Tryz.sizeOf276
 v46:=Tryz.zeroValue276
 t51:=Tryz.underlying325
 a51:=Tryz.isAgg325
 z51:=Tryz.sizeOf325
 v51:=Tryz.zeroValue325
 t146:=Tryz.underlying326
 a146:=Tryz.isAgg326
 z146:=Tryz.sizeOf326
 v146:=Tryz.zeroValue326}
def Tryz.lays105_ren:Go.Shelf.Ren:=⟨fun|105=>266|212=>166|99=>322|165=>263|166=>141|170=>323|169=>142|263=>229|264=>230|206=>350|240=>213|241=>317|276=>267|277=>344|n=>n,fun|9=>9|3=>3|4=>4|20=>20|0=>0|46=>276|109=>277|5=>5|72=>243|76=>247|51=>325|146=>326|53=>328|148=>329|70=>241|37=>121|75=>246|127=>306|164=>367|80=>114|n=>n,fun|n=>n⟩
theorem Tryz.lays105:Go.Proofs.Lays.n105 Tryz.prog Tryz.lays105_ren:={
 mixed:=by kernel_rfl
 f99:=Tryz.func322.trans (congrArg some (by kernel_rfl))
 f105:=Tryz.func266.trans (congrArg some (by kernel_rfl))
 f165:=Tryz.func263.trans (congrArg some (by kernel_rfl))
 f166:=Tryz.func141.trans (congrArg some (by kernel_rfl))
 f169:=Tryz.func142.trans (congrArg some (by kernel_rfl))
 f170:=Tryz.func323.trans (congrArg some (by kernel_rfl))
 f206:=Tryz.func350.trans (congrArg some (by kernel_rfl))
 f212:=Tryz.func166.trans (congrArg some (by kernel_rfl))
 f240:=Tryz.func213.trans (congrArg some (by kernel_rfl))
 f241:=Tryz.func317.trans (congrArg some (by kernel_rfl))
 f263:=Tryz.func229.trans (congrArg some (by kernel_rfl))
 f264:=Tryz.func230.trans (congrArg some (by kernel_rfl))
 f276:=Tryz.func267.trans (congrArg some (by kernel_rfl))
 f277:=Tryz.func344.trans (congrArg some (by kernel_rfl))
 t0:=Tryz.underlying0
 a0:=Tryz.isAgg0
 z0:=Tryz.sizeOf0
 v0:=Tryz.zeroValue0
 t3:=Tryz.underlying3
 a3:=Tryz.isAgg3
 z3:=Tryz.sizeOf3
 v3:=Tryz.zeroValue3
 t4:=Tryz.underlying4
 a4:=Tryz.isAgg4
 z4:=Tryz.sizeOf4
 v4:=Tryz.zeroValue4
 t5:=Tryz.underlying5
 a5:=Tryz.isAgg5
 z5:=Tryz.sizeOf5
 v5:=Tryz.zeroValue5
 t9:=Tryz.underlying9
 a9:=Tryz.isAgg9
 z9:=Tryz.sizeOf9
 v9:=Tryz.zeroValue9
 t20:=Tryz.underlying20
 a20:=Tryz.isAgg20
 z20:=Tryz.sizeOf20
 v20:=Tryz.zeroValue20
 t37:=Tryz.underlying121
 a37:=Tryz.isAgg121
 z37:=Tryz.sizeOf121
 v37:=Tryz.zeroValue121
 t46:=Tryz.underlying276
 a46:=Tryz.isAgg276
 z46:=Tryz.sizeOf276
 v46:=Tryz.zeroValue276
 t51:=Tryz.underlying325
 a51:=Tryz.isAgg325
 z51:=Tryz.sizeOf325
 v51:=Tryz.zeroValue325
 t53:=Tryz.underlying328
 a53:=Tryz.isAgg328
 z53:=Tryz.sizeOf328
 v53:=Tryz.zeroValue328
 t70:=Tryz.underlying241
 a70:=Tryz.isAgg241
 z70:=Tryz.sizeOf241
 v70:=Tryz.zeroValue241
 t72:=Tryz.underlying243
 a72:=Tryz.isAgg243
 z72:=Tryz.sizeOf243
 v72:=Tryz.zeroValue243
 t75:=Tryz.underlying246
 a75:=Tryz.isAgg246
 z75:=Tryz.sizeOf246
 v75:=Tryz.zeroValue246
 t76:=Tryz.underlying247
 a76:=Tryz.isAgg247
 z76:=Tryz.sizeOf247
 v76:=Tryz.zeroValue247
 t109:=Tryz.underlying277
 a109:=Tryz.isAgg277
 z109:=Tryz.sizeOf277
 v109:=Tryz.zeroValue277
 t127:=Tryz.underlying306
 a127:=Tryz.isAgg306
 z127:=Tryz.sizeOf306
 v127:=Tryz.zeroValue306
 t146:=Tryz.underlying326
 a146:=Tryz.isAgg326
 z146:=Tryz.sizeOf326
 v146:=Tryz.zeroValue326
 t148:=Tryz.underlying329
 a148:=Tryz.isAgg329
 z148:=Tryz.sizeOf329
 v148:=Tryz.zeroValue329
 t164:=Tryz.underlying367
 a164:=Tryz.isAgg367
 z164:=Tryz.sizeOf367
 v164:=Tryz.zeroValue367}
end Go.Proofs
end
section
namespace Go.Pd
open Go Go.Proofs Go.RowKit
set_option maxRecDepth 100000
section
variable {α:Type}{r:Option α}
theorem fJ{b:Bool}{t:Option α}(h:b=true)(h2:t=r):bu b t=r:=by
 subst h;exact h2
theorem ct{β:Type}{o:Option β}{x:β}{k:β→Option α}(h:o=some x)(h2:k x=r):bn o k=r:=by
 subst h;exact h2
end
theorem lb{l:List UInt8}{i:Nat}{b:UInt8}(h:l[i]?=some b):bB (bs l) i=(b.toNat:Int):=by
 obtain⟨h1,h2⟩:=zc1.1 h;rw[qh (by rw[bm];exact h1)];have:(bs l)[i]'(by rw[bm];exact h1)=l[i]:=by
  show(bs l).data[i]'_=_;simp[bs]
 rw[this,h2]
theorem dY(a b:List UInt8):bs a++bs b=bs (a++b):=by
 apply ByteArray.ext;simp[bs,ByteArray.data_append]
theorem gZ(l:List UInt8)(i j:Nat):ByteArray.extract (bs l) i j=bs ((l.take j).drop i):=by
 apply ByteArray.ext;simp[bs,ByteArray.data_extract,List.drop_take]
theorem wF(c:UInt8)(k:UInt8):((c.toNat:Int)==(k.toNat:Int))=decide (c=k):=by
 rw[Bool.eq_iff_iff];simp only[ze4,zc7];exact⟨fun h=>UInt8.toNat_inj.1 (by omega),fun h=>by rw[h]⟩
def A9(c:UInt8):Prop:=48≤c.toNat∧c.toNat≤57
def vN:Nat→List UInt8→Nat
 |a,[]=>a
 |a,c::r=>vN (10*a+(c.toNat-48)) r
theorem Dy:∀(l:List UInt8) (a:Nat) (r:List UInt8),vN a (l++r)=vN (vN a l) r
 |[],_,_=>rfl
 |c::l,a,r=>Dy l (10*a+(c.toNat-48)) r
theorem Hp:∀(l:List UInt8) (a k:Nat),(∀c∈l,A9 c)→a<10^k→vN a l<10^(k+l.length)
 |[],_,_,_,h=>h
 |c::l,a,k,hd,h=>by
  have hc:=hd c (za4 ..);have:=Hp l (10*a+(c.toNat-48)) (k+1) (fun x hx=>hd x (za5 _ hx)) (by
   have:=hc.2;rw[Nat.pow_succ];omega)
  rw[za7,show k+(l.length+1)=k+1+l.length by omega];exact this
theorem hN{a b:List UInt8}(h:bs a=bs b):a=b:=by
 have:=congrArg (fun x:ByteArray=>x.data.toList) h;simpa [bs] using this
theorem ky(l:List UInt8):ByteArray.toList (bs l)=l:=by
 rw[ByteArray.toList_eq];rfl
theorem yy{p:UInt8→Bool}:∀{l:List UInt8},l.dropWhile p=[]→l.all p=true
 |[],_=>rfl
 |x::r,h=>by
  rw[List.dropWhile_cons] at h;split at h
  ·rename_i hx;rw[List.all_cons,hx,yy h];rfl
  ·cases h
theorem Dz{p:UInt8→Bool}:∀{l:List UInt8},l.all p=true→l.dropWhile p=[]
 |[],_=>rfl
 |x::r,h=>by
  rw[List.all_cons,zc4] at h;rw[List.dropWhile_cons,if_pos h.1,Dz h.2]
theorem zG{p:UInt8→Bool}:∀{l:List UInt8},l.dropWhile p≠[]→∃x r,l.dropWhile p=x::r∧p x=false
 |[],h=>absurd rfl h
 |x::r,h=>by
  rw[List.dropWhile_cons] at h ⊢;split at h
  ·rename_i hx;rw[if_pos hx];exact zG h
  ·rename_i hx;rw[if_neg hx];exact⟨x,r,rfl,by simpa using hx⟩
theorem sS(l cs:List UInt8):(Lib.trimS l cs==[])=l.all (cs.contains ·):=by
 unfold Lib.trimS Lib.trimLeftS Lib.trimRightS;rw[Bool.eq_iff_iff,ze4];constructor
 ·intro h;have h1:=yy h;by_cases h2:l.reverse.dropWhile (cs.contains ·)=[]
  ·have:=yy h2
   rwa [List.all_reverse] at this
  ·obtain⟨x,r,e,hx⟩:=zG h2;rw[e] at h1;simp only[List.reverse_cons,List.all_append,List.all_cons,List.all_nil,Bool.and_true,zc4] at h1;rw[hx] at h1;exact absurd h1.2 (by decide)
 ·intro h;rw[Dz (l:=l.reverse) (by rw[List.all_reverse];exact h)];rfl
def dZ(c:UInt8):Bool:=decide (48≤c.toNat∧c.toNat≤57)
theorem rv(c:UInt8):dgsB.contains c=dZ c:=by
 have h:∀n:Fin 256,dgsB.contains (UInt8.ofNat n.1)=dZ (UInt8.ofNat n.1):=by decide+kernel
 have:=h ⟨c.toNat,c.toNat_lt⟩;simpa using this
theorem DA:∀(l:List UInt8) (a:Nat),l.all dZ=true→Lib.decFrom a l=some (vN a l)
 |[],_,_=>rfl
 |c::r,a,h=>by
  rw[List.all_cons,zc4] at h;have hc:48≤c.toNat∧c.toNat≤57:=by simpa [dZ] using h.1
  unfold Lib.decFrom Lib.digitVal vN;rw[if_pos hc];dsimp only;rw[show a*10+(c.toNat-48)=10*a+(c.toNat-48) by omega];exact DA r _ h.2
theorem j5(l:List UInt8):(ByteArray.toList (bs l)==ByteArray.toList (ByteArray.mk #[]))=(l==[]):=by
 rw[show ByteArray.mk #[]=bs [] from rfl,ky,ky]
theorem ql(l m:List UInt8):(ByteArray.toList (bs l)==ByteArray.toList (bs m))=(l==m):=by rw[ky,ky]
theorem wG(c:UInt8):dZ c=true↔A9 c:=by unfold dZ A9;simp
def qV(l:List UInt8):Bool:= !(l==[])&&(l.all dZ&&(!(l.head?==some 48)||decide (l.length≤1)))
theorem Hq:∀(l:List UInt8) (a:Nat),a≤vN a l
 |[],_=>zb0 _
 |c::r,a=>zb1 (by omega) (Hq r _)
def ub(l:List UInt8):Int×Bool:=if qV l&&decide (l.length≤9) then(((vN 0 l:Nat):Int),true) else(0,false)
theorem Hr{l:List UInt8}(h:(qV l&&decide (l.length≤9))=true):ub l=(((vN 0 l:Nat):Int),true):=by unfold ub;rw[if_pos h]
theorem Hs{l:List UInt8}(h:(qV l&&decide (l.length≤9))=false):ub l=(0,false):=by unfold ub;rw[h];rfl
end Go.Pd
end
section
namespace Go.Pd
open Go Go.Proofs
set_option maxRecDepth 100000
theorem FV(j:FuncId→List D→Option D)(L:Nat)(C:Nat→Nat)(vs h:ByteArray):bF (cv j L C) O0 N0 FinM.canon Tryz.f194 [D.str vs,D.str h]=
 (bn (j 257 [D.str vs,D.str h]) fun r=>bw .i64 r fun x=>bo (decide (x≥0))
 (bu (decide (0≤(0:Int)∧(0:Int)≤x∧x≤((ByteArray.size vs):Int)))
 (bu (decide (0≤IntKind.wrap .i64 (x+((ByteArray.size h):Int))∧IntKind.wrap .i64 (x+((ByteArray.size h):Int))≤((ByteArray.size vs):Int)∧((ByteArray.size vs):Int)≤((ByteArray.size vs):Int)))
 (some (D.tup [D.str (ByteArray.extract vs 0 (Int.toNat x)),D.str (ByteArray.extract vs (Int.toNat (IntKind.wrap .i64 (x+((ByteArray.size h):Int)))) (Int.toNat ((ByteArray.size vs):Int))),D.bool true]))))
 (some (D.tup [D.str vs,D.str (ByteArray.mk #[]),D.bool false]))):=by kernel_rfl
theorem FW(h:FuncId→List D→Option D)(L:Nat)(C:Nat→Nat)(vs j:ByteArray):bF (cv h L C) O0 N0 FinM.canon Tryz.f133 [D.str vs,D.str j]=
 (bn (h 194 [D.str vs,D.str j]) fun r=>cJ r 3 fun c=>bc c 0 fun d=>bH d fun s=>bc c 1 fun q=>bH q fun J=>bc c 2 fun z=>bM z fun b=>some (D.tup [D.str s,D.str J,D.bool b])):=by kernel_rfl
theorem FX(h:FuncId→List D→Option D)(L:Nat)(C:Nat→Nat)(vs j:ByteArray):bF (cv h L C) O0 N0 FinM.canon Tryz.f130 [D.str vs,D.str j]=
 (bn (h 190 [D.str vs,D.str j,D.int .i64 0,D.int .i64 (-1)]) fun r=>cP r fun f n c=>some (D.slc f n c)):=by kernel_rfl
theorem FY(h:FuncId→List D→Option D)(L:Nat)(C:Nat→Nat)(vs j:ByteArray)(vn:Int):bF (cv h L C) O0 N0 FinM.canon Tryz.f204 [D.str vs,D.str j,D.int .i64 vn]=
 (bn (h 190 [D.str vs,D.str j,D.int .i64 0,D.int .i64 vn]) fun r=>cP r fun f n c=>some (D.slc f n c)):=by kernel_rfl
def FZ:bA:=fun p=>match p with
 |7=>nm [0] [] []
 |_=>none
noncomputable def qm(h:FuncId→List D→Option D)(L:Nat)(C:Nat→Nat)(vs:ByteArray):Option D:=
 d9 (cv h L C) O0 FZ FinM.canon Tryz.f205 [true,true] [] (C 7) (St.mk (D.str vs::jn 34 []) (zn 35 []))
theorem Ba(h:FuncId→List D→Option D)(L:Nat)(C:Nat→Nat)(vs:ByteArray)(hC:∀t,C t=1):qm h L C vs=
 (bn (h 262 [D.str vs]) fun q=>cJ q 2 fun c=>bc c 0 fun d=>bw .i64 d fun x=>bc c 1 fun j=>bn (EQ j) fun _=>some (D.tup [D.int .i64 x,D.bool true])):=by
 unfold qm;rw[hC]
 kernel_rfl
theorem zH(h:FuncId→List D→Option D)(L:Nat)(C:Nat→Nat)(vs:ByteArray):bF (cv h L C) O0 FZ FinM.canon Tryz.f205 [D.str vs]=
 (bo (ByteArray.toList vs==ByteArray.toList (ByteArray.mk #[]))
 (some (D.tup [D.int .i64 0,D.bool false]))
 (bo (decide (((ByteArray.size vs):Int)>9))
 (some (D.tup [D.int .i64 0,D.bool false]))
 (bn (h 261 [D.str vs,D.str (ByteArray.mk #[48,49,50,51,52,53,54,55,56,57])]) fun r=>bH r fun s=>bo (!ByteArray.toList s==ByteArray.toList (ByteArray.mk #[]))
 (some (D.tup [D.int .i64 0,D.bool false]))
 (bu (decide ((0:Int)≤0∧0<ByteArray.size vs))
 (bo (bB vs 0==48)
 (bo (!ByteArray.toList vs==ByteArray.toList (ByteArray.mk #[48]))
 (some (D.tup [D.int .i64 0,D.bool false]))
 (qm h L C vs))
 (qm h L C vs)))))):=by kernel_rfl
def JB:bA:=fun p=>match p with
 |26=>nm [0,1,5] [] []
 |_=>none
noncomputable def oK(h:FuncId→List D→Option D)(L:Nat)(C:Nat→Nat)(n:Nat)(vs:ByteArray)(vc j:Int):Option D:=
 bY (cv h L C) O0 JB FinM.canon Tryz.f186 [true,false,true,false] [] n (St.mk (D.str vs::D.int IntKind.u8 vc::J::J::J::D.int .i64 j::jn 13 []) (zn 19 []))
theorem qn(j:FuncId→List D→Option D)(L:Nat)(C:Nat→Nat)(n:Nat)(vs:ByteArray)(vc h:Int):oK j L C (n+1) vs vc h=
 (bo (decide (h≥0))
 (bu (decide (0≤h∧Int.toNat h<ByteArray.size vs))
 (bo (bB vs (Int.toNat h)==vc)
 (some (D.int .i64 h))
 (oK j L C n vs vc (IntKind.wrap .i64 (h-1)))))
 (some (D.int .i64 (-1)))):=by kernel_rfl
theorem F1(h:FuncId→List D→Option D)(L:Nat)(C:Nat→Nat)(vs:ByteArray)(vc:Int):bF (cv h L C) O0 JB FinM.canon Tryz.f186 [D.str vs,D.int IntKind.u8 vc]=
 (oK h L C L vs vc (IntKind.wrap .i64 (((ByteArray.size vs):Int)-1))):=by kernel_rfl
def JC:bA:=fun p=>match p with
 |26=>nm [0,3] [] []
 |_=>none
noncomputable def kz(h:FuncId→List D→Option D)(L:Nat)(C:Nat→Nat)(n:Nat)(vs:ByteArray)(j:Int):Option D:=
 bY (cv h L C) O0 JC FinM.canon Tryz.f187 [true,false,true,false] [] n (St.mk (D.str vs::J::J::D.int .i64 j::jn 32 []) (zn 36 []))
theorem qo(j:FuncId→List D→Option D)(L:Nat)(C:Nat→Nat)(n:Nat)(vs:ByteArray)(h:Int):kz j L C (n+1) vs h=
 (bo (decide (h<((ByteArray.size vs):Int)))
 (bu (decide (0≤h∧Int.toNat h<ByteArray.size vs))
 (bo (decide (bB vs (Int.toNat h)≥48))
 (bu (decide (0≤h∧Int.toNat h<ByteArray.size vs))
 (bo (decide (bB vs (Int.toNat h)≤57))
 (kz j L C n vs (IntKind.wrap .i64 (h+1)))
 (bu (decide (0≤h∧Int.toNat h<ByteArray.size vs))
 (bo (decide (bB vs (Int.toNat h)≥97))
 (bu (decide (0≤h∧Int.toNat h<ByteArray.size vs))
 (bo (!decide (bB vs (Int.toNat h)≤102))
 (some (D.bool false))
 (kz j L C n vs (IntKind.wrap .i64 (h+1)))))
 (some (D.bool false))))))
 (bu (decide (0≤h∧Int.toNat h<ByteArray.size vs))
 (bo (decide (bB vs (Int.toNat h)≥97))
 (bu (decide (0≤h∧Int.toNat h<ByteArray.size vs))
 (bo (!decide (bB vs (Int.toNat h)≤102))
 (some (D.bool false))
 (kz j L C n vs (IntKind.wrap .i64 (h+1)))))
 (some (D.bool false))))))
 (some (D.bool (((ByteArray.size vs):Int)==6)))):=by kernel_rfl
theorem F2(h:FuncId→List D→Option D)(L:Nat)(C:Nat→Nat)(vs:ByteArray):bF (cv h L C) O0 JC FinM.canon Tryz.f187 [D.str vs]=
 (kz h L C L vs 0):=by kernel_rfl
def JD:bA:=fun p=>match p with
 |26=>nm [0,5] [] []
 |_=>none
noncomputable def oL(h:FuncId→List D→Option D)(L:Nat)(C:Nat→Nat)(n:Nat)(vs:ByteArray)(j:Int):Option D:=
 bY (cv h L C) O0 JD FinM.canon Tryz.f188 [true,false,true,false] [] n (St.mk (D.str vs::J::J::J::J::D.int .i64 j::jn 18 []) (zn 24 []))
theorem qp(j:FuncId→List D→Option D)(L:Nat)(C:Nat→Nat)(n:Nat)(vs:ByteArray)(h:Int):oL j L C (n+1) vs h=
 (bo (decide (h<((ByteArray.size vs):Int)))
 (bu (decide (0≤h∧Int.toNat h<ByteArray.size vs))
 (bo (bB vs (Int.toNat h)==32)
 (bu (decide (0≤(0:Int)∧(0:Int)≤h∧h≤((ByteArray.size vs):Int)))
 (bu (decide (0≤IntKind.wrap .i64 (h+1)∧IntKind.wrap .i64 (h+1)≤((ByteArray.size vs):Int)∧((ByteArray.size vs):Int)≤((ByteArray.size vs):Int)))
 (some (D.tup [D.str (ByteArray.extract vs 0 (Int.toNat h)),D.str (ByteArray.extract vs (Int.toNat (IntKind.wrap .i64 (h+1))) (Int.toNat ((ByteArray.size vs):Int))),D.bool true]))))
 (oL j L C n vs (IntKind.wrap .i64 (h+1)))))
 (some (D.tup [D.str vs,D.str (ByteArray.mk #[]),D.bool false]))):=by kernel_rfl
theorem F3(h:FuncId→List D→Option D)(L:Nat)(C:Nat→Nat)(vs:ByteArray):bF (cv h L C) O0 JD FinM.canon Tryz.f188 [D.str vs]=
 (oL h L C L vs 0):=by kernel_rfl
theorem uc(h:FuncId→List D→Option D)(L:Nat)(C:Nat→Nat)(vs:ByteArray):bF (cv h L C) O0 N0 FinM.canon Tryz.f189 [D.str vs]=
 (bo (decide (((ByteArray.size vs):Int)>9))
 (some (D.tup [D.int .i64 0,D.bool false]))
 (bn (h 251 [D.str vs]) fun r=>bM r fun b=>bo (!b)
 (some (D.tup [D.int .i64 0,D.bool false]))
 (bn (h 252 [D.str vs]) fun j=>bw .i64 j fun x=>some (D.tup [D.int .i64 x,D.bool true])))):=by kernel_rfl
theorem F4(h:FuncId→List D→Option D)(L:Nat)(C:Nat→Nat)(vs:ByteArray):bF (cv h L C) O0 N0 FinM.canon Tryz.f251 [D.str vs]=
 (bo (((ByteArray.size vs):Int)==0)
 (some (D.bool false))
 (bo (decide (((ByteArray.size vs):Int)>1))
 (bu (decide ((0:Int)≤0∧0<ByteArray.size vs))
 (bo (bB vs 0==48)
 (some (D.bool false))
 (bn (h 302 [D.str vs]) fun r=>bM r fun b=>some (D.bool b))))
 (bn (h 302 [D.str vs]) fun q=>bM q fun j=>some (D.bool j)))):=by kernel_rfl
def JE:bA:=fun p=>match p with
 |26=>nm [0,3] [] []
 |_=>none
noncomputable def oM(h:FuncId→List D→Option D)(L:Nat)(C:Nat→Nat)(n:Nat)(vs:ByteArray)(j:Int):Option D:=
 bY (cv h L C) O0 JE FinM.canon Tryz.f302 [true,false,true,false] [] n (St.mk (D.str vs::J::J::D.int .i64 j::jn 16 []) (zn 20 []))
theorem qq(j:FuncId→List D→Option D)(L:Nat)(C:Nat→Nat)(n:Nat)(vs:ByteArray)(h:Int):oM j L C (n+1) vs h=
 (bo (decide (h<((ByteArray.size vs):Int)))
 (bu (decide (0≤h∧Int.toNat h<ByteArray.size vs))
 (bo (decide (bB vs (Int.toNat h)<48))
 (some (D.bool false))
 (bu (decide (0≤h∧Int.toNat h<ByteArray.size vs))
 (bo (decide (bB vs (Int.toNat h)>57))
 (some (D.bool false))
 (oM j L C n vs (IntKind.wrap .i64 (h+1)))))))
 (some (D.bool true))):=by kernel_rfl
theorem F5(h:FuncId→List D→Option D)(L:Nat)(C:Nat→Nat)(vs:ByteArray):bF (cv h L C) O0 JE FinM.canon Tryz.f302 [D.str vs]=
 (oM h L C L vs 0):=by kernel_rfl
def JF:bA:=fun p=>match p with
 |58=>nm [0,3,4] [] []
 |_=>none
noncomputable def oN(h:FuncId→List D→Option D)(L:Nat)(C:Nat→Nat)(n:Nat)(vs:ByteArray)(vn j:Int):Option D:=
 bY (cv h L C) O0 JF FinM.canon Tryz.f252 (bt 5 11) [] n (St.mk (D.str vs::J::J::D.int .i64 vn::D.int .i64 j::jn 15 []) (zn 20 []))
theorem qr(j:FuncId→List D→Option D)(L:Nat)(C:Nat→Nat)(n:Nat)(vs:ByteArray)(vn h:Int):oN j L C (n+1) vs vn h=
 (bo (decide (h<((ByteArray.size vs):Int)))
 (bu (decide (0≤h∧Int.toNat h<ByteArray.size vs))
 (oN j L C n vs (IntKind.wrap .i64 (IntKind.wrap .i64 (IntKind.wrap .i64 (10*vn)+IntKind.wrap .i64 (bB vs (Int.toNat h)))-48)) (IntKind.wrap .i64 (h+1))))
 (some (D.int .i64 vn))):=by kernel_rfl
theorem F6(h:FuncId→List D→Option D)(L:Nat)(C:Nat→Nat)(vs:ByteArray):bF (cv h L C) O0 JF FinM.canon Tryz.f252 [D.str vs]=
 (oN h L C L vs 0 0):=by kernel_rfl
def JG:bA:=fun p=>match p with
 |28=>nm [0,1,5] [] []
 |_=>none
noncomputable def kB(h:FuncId→List D→Option D)(L:Nat)(C:Nat→Nat)(n:Nat)(j q:Int)(vs:ByteArray):Option D:=
 bY (cv h L C) O0 JG FinM.canon Tryz.f270 [true,true,false,false] [] n (St.mk (D.int .i64 q::D.int .i64 j::J::J::J::D.str vs::jn 19 []) (zn 25 []))
theorem qs(q:FuncId→List D→Option D)(L:Nat)(C:Nat→Nat)(n:Nat)(j h:Int)(vs:ByteArray):kB q L C (n+1) j h vs=
 (bo (decide (h>0))
 (bu (decide (0≤Int.tmod h 10∧Int.tmod h 10≤IntKind.wrap .i64 (Int.tmod h 10+1)∧IntKind.wrap .i64 (Int.tmod h 10+1)≤(10:Int)))
 (bu (!decide (((ByteArray.size (ByteArray.extract (ByteArray.mk #[48,49,50,51,52,53,54,55,56,57]) (Int.toNat (Int.tmod h 10)) (Int.toNat (IntKind.wrap .i64 (Int.tmod h 10+1))))+ByteArray.size vs):Int)>9223372036854775807))
 (kB q L C n j (IntKind.wrap .i64 (Int.tdiv h 10)) (ByteArray.extract (ByteArray.mk #[48,49,50,51,52,53,54,55,56,57]) (Int.toNat (Int.tmod h 10)) (Int.toNat (IntKind.wrap .i64 (Int.tmod h 10+1)))++vs))))
 (bo (decide (((ByteArray.size vs):Int)<j))
 (bu (decide (0≤Int.tmod h 10∧Int.tmod h 10≤IntKind.wrap .i64 (Int.tmod h 10+1)∧IntKind.wrap .i64 (Int.tmod h 10+1)≤(10:Int)))
 (bu (!decide (((ByteArray.size (ByteArray.extract (ByteArray.mk #[48,49,50,51,52,53,54,55,56,57]) (Int.toNat (Int.tmod h 10)) (Int.toNat (IntKind.wrap .i64 (Int.tmod h 10+1))))+ByteArray.size vs):Int)>9223372036854775807))
 (kB q L C n j (IntKind.wrap .i64 (Int.tdiv h 10)) (ByteArray.extract (ByteArray.mk #[48,49,50,51,52,53,54,55,56,57]) (Int.toNat (Int.tmod h 10)) (Int.toNat (IntKind.wrap .i64 (Int.tmod h 10+1)))++vs))))
 (some (D.str vs)))):=by kernel_rfl
theorem F7(h:FuncId→List D→Option D)(L:Nat)(C:Nat→Nat)(vn j:Int):bF (cv h L C) O0 JG FinM.canon Tryz.f270 [D.int .i64 vn,D.int .i64 j]=
 (kB h L C L j vn (ByteArray.mk #[])):=by kernel_rfl
theorem zI(h:FuncId→List D→Option D)(L:Nat)(C:Nat→Nat)(j z:Bool)(J:Nat)(q:List D):bF (cv h L C) O0 N0 FinM.canon Tryz.f271 [D.bool j,D.slc z J q]=
 (bn (h 326 [D.slc z J q]) fun r=>cP r fun f n c=>bo j
 (some (D.agg [D.bool (decide ((n:Int)>0)),D.slc f n c]))
 (some (D.agg [D.bool false,D.slc f n c]))):=by kernel_rfl
def F8:bA:=fun p=>match p with
 |122=>nm [1,3,4] [] [1]
 |_=>none
noncomputable def mt(h:FuncId→List D→Option D)(L:Nat)(C:Nat→Nat)(n:Nat)(j r:Bool)(z:Nat)(q:List D)(vs:ByteArray)(K:Int):Option D:=
 bY (cv h L C) O0 F8 FinM.canon Tryz.f215 (bt 6 23) [] n (St.mk (J::D.loc 1 0 0::J::D.str vs::D.int .i64 K::jn 34 []) (Z::(1,some (Ob.box [D.bool j,D.slc r z q] false))::zn 37 []))
theorem wH(j:FuncId→List D→Option D)(L:Nat)(C:Nat→Nat)(n:Nat)(q K:Bool)(z:Nat)(r:List D)(vs:ByteArray)(h:Int):mt j L C (n+1) q K z r vs h=
 (bo (decide (h≥0))
 (bu (decide (0≤h∧h<(z:Int)))
 (bc r (Int.toNat h*1) fun M=>bw .i64 M fun S=>bn (j 270 [D.int .i64 S,D.int .i64 9]) fun O=>bH O fun J=>bu (!decide (((ByteArray.size vs+ByteArray.size J):Int)>9223372036854775807))
 (mt j L C n q K z r (vs++J) (IntKind.wrap .i64 (h-1)))))
 (bo q
 (bu (!decide (((1+ByteArray.size vs):Int)>9223372036854775807))
 (some (D.str (ByteArray.mk #[45]++vs))))
 (some (D.str vs)))):=by kernel_rfl
theorem zJ(j:FuncId→List D→Option D)(L:Nat)(C:Nat→Nat)(z J:Bool)(h:Nat)(q:List D):bF (cv j L C) O0 F8 FinM.canon Tryz.f215 [D.agg [D.bool z,D.slc J h q]]=
 (bo ((h:Int)==0)
 (some (D.str (ByteArray.mk #[48])))
 (bu (decide (0≤IntKind.wrap .i64 ((h:Int)-1)∧IntKind.wrap .i64 ((h:Int)-1)<(h:Int)))
 (bc q (Int.toNat (IntKind.wrap .i64 ((h:Int)-1))*1) fun d=>bw .i64 d fun x=>bn (j 270 [D.int .i64 x,D.int .i64 1]) fun r=>bH r fun s=>mt j L C L z J h q s (IntKind.wrap .i64 ((h:Int)-2))))):=by kernel_rfl
def F9:bA:=fun p=>match p with
 |60=>nm [0,2,3,4] [] [2,19]
 |_=>none
noncomputable def jh(j:FuncId→List D→Option D)(L:Nat)(C:Nat→Nat)(n:Nat)(q:Int)(h:Ow)(r:Bool):Option D:=
 bY (cv j L C) O0 F9 FinM.canon Tryz.f216 (bt 5 7) [] n (St.mk (D.int .i64 q::J::D.loc 2 0 0::rg 19 h::D.bool r::jn 20 []) (Z::Z::(1,some (Ob.box [D.bool false,D.nils] false))::zn 16 (rh 3 1 h::zn 5 [])))
theorem nO(j:FuncId→List D→Option D)(L:Nat)(C:Nat→Nat)(n:Nat)(h:Int)(q:Bool):jh j L C (n+1) h (Ow.nil) q=
 (bo (h !=0)
 (bo (decide (Int.tmod h 1000000000<0))
 (jh j L C n (IntKind.wrap .i64 (Int.tdiv h 1000000000)) (Ow.own 1 [D.int .i64 (IntKind.wrap .i64 (0-Int.tmod h 1000000000))]) q)
 (jh j L C n (IntKind.wrap .i64 (Int.tdiv h 1000000000)) (Ow.own 1 [D.int .i64 (Int.tmod h 1000000000)]) q))
 (bn (j 271 [D.bool q,D.nils]) fun r=>fK r 2 fun c=>bc c 0 fun d=>bM d fun b=>bc c 1 fun J=>cP J fun f K z=>some (D.agg [D.bool b,D.slc f K z]))):=by kernel_rfl
theorem wI(q:FuncId→List D→Option D)(L:Nat)(C:Nat→Nat)(n:Nat)(j:Int)(h:Nat)(z:List D)(r:Bool):jh q L C (n+1) j (Ow.own h z) r=
 (bo (j !=0)
 (bo (decide (Int.tmod j 1000000000<0))
 (bu (decide ((h+1)*8≤cg∧h+1≤9223372036854775807))
 (jh q L C n (IntKind.wrap .i64 (Int.tdiv j 1000000000)) (Ow.own (h+1) (z++[D.int .i64 (IntKind.wrap .i64 (0-Int.tmod j 1000000000))])) r))
 (bu (decide ((h+1)*8≤cg∧h+1≤9223372036854775807))
 (jh q L C n (IntKind.wrap .i64 (Int.tdiv j 1000000000)) (Ow.own (h+1) (z++[D.int .i64 (Int.tmod j 1000000000)])) r)))
 (bn (q 271 [D.bool r,D.slc false h z]) fun W=>fK W 2 fun J=>bc J 0 fun O=>bM O fun K=>bc J 1 fun S=>cP S fun U V M=>some (D.agg [D.bool K,D.slc U V M]))):=by kernel_rfl
theorem zK(h:FuncId→List D→Option D)(L:Nat)(C:Nat→Nat)(vn:Int):bF (cv h L C) O0 F9 FinM.canon Tryz.f216 [D.int .i64 vn]=
 (jh h L C L vn (Ow.nil) (decide (vn<0))):=by kernel_rfl
def Ga:bA:=fun p=>match p with
 |12=>nm [0] [] []
 |_=>none
noncomputable def ud(h:FuncId→List D→Option D)(L:Nat)(C:Nat→Nat)(n:Nat)(q:Bool)(r:Nat)(j:List D):Option D:=
 bY (cv h L C) O0 Ga FinM.canon Tryz.f326 [true,false,false] [] n (St.mk (D.slc q r j::jn 20 []) (zn 21 []))
theorem qt(r:FuncId→List D→Option D)(L:Nat)(C:Nat→Nat)(n:Nat)(q:Bool)(h:Nat)(j:List D):ud r L C (n+1) q h j=
 (bo (decide ((h:Int)>0))
 (bu (decide (0≤IntKind.wrap .i64 ((h:Int)-1)∧IntKind.wrap .i64 ((h:Int)-1)<(h:Int)))
 (bc j (Int.toNat (IntKind.wrap .i64 ((h:Int)-1))*1) fun d=>bw .i64 d fun x=>bo (x==0)
 (bu (decide (0≤(0:Int)∧(0:Int)≤IntKind.wrap .i64 ((h:Int)-1)∧IntKind.wrap .i64 ((h:Int)-1)≤(h:Int)))
 (ud r L C n (q&&decide (IntKind.wrap .i64 ((h:Int)-1)=(h:Int))) (Int.toNat (IntKind.wrap .i64 ((h:Int)-1)-(0:Int))) (List.take (Int.toNat (IntKind.wrap .i64 ((h:Int)-1)-(0:Int))*1) j)))
 (some (D.slc q h j))))
 (some (D.slc q h j))):=by kernel_rfl
theorem zL(h:FuncId→List D→Option D)(L:Nat)(C:Nat→Nat)(q:Bool)(r:Nat)(j:List D):bF (cv h L C) O0 Ga FinM.canon Tryz.f326 [D.slc q r j]=
 (ud h L C L q r j):=by kernel_rfl
def Pr:bA:=fun p=>match p with
 |26=>nm [0,1,5] [] []
 |_=>none
noncomputable def ue(h:FuncId→List D→Option D)(L:Nat)(C:Nat→Nat)(n:Nat)(j:ByteArray)(r q:Int):Option D:=
 bY (cv h L C) O0 Pr FinM.canon Tryz.f62 [true,false,true,false] [] n (St.mk (D.int .i64 r::D.str j::J::J::J::D.int .i64 q::jn 16 []) (zn 22 []))
theorem sT(r:FuncId→List D→Option D)(L:Nat)(C:Nat→Nat)(n:Nat)(j:ByteArray)(q h:Int):ue r L C (n+1) j q h=
 (bo (decide (h<((ByteArray.size j):Int)))
 (bu (decide (0≤h∧Int.toNat h<ByteArray.size j))
 (ue r L C n j (Int.tmod (IntKind.wrap .i64 (IntKind.wrap .i64 (IntKind.wrap .i64 (31*q)+IntKind.wrap .i64 (bB j (Int.toNat h)))+1)) 16777213) (IntKind.wrap .i64 (h+1))))
 (some (D.int .i64 q))):=by kernel_rfl
theorem JH(h:FuncId→List D→Option D)(L:Nat)(C:Nat→Nat)(vs:Int)(j:ByteArray):bF (cv h L C) O0 Pr FinM.canon Tryz.f62 [D.int .i64 vs,D.str j]=
 (ue h L C L j vs 0):=by kernel_rfl
def JI:bA:=fun p=>match p with
 |26=>nm [0,1,7,8] [] []
 |_=>none
noncomputable def oO(h:FuncId→List D→Option D)(L:Nat)(C:Nat→Nat)(n:Nat)(r:ByteArray)(z j q:Int):Option D:=
 bY (cv h L C) O0 JI FinM.canon Tryz.f211 [true,false,true,false] [] n (St.mk (D.int .i64 z::D.str r::jn 5 (D.int .i64 j::D.int .i64 q::jn 13 [])) (zn 22 []))
theorem qu(z:FuncId→List D→Option D)(L:Nat)(C:Nat→Nat)(n:Nat)(j:ByteArray)(r q h:Int):oO z L C (n+1) j r q h=
 (bo (decide (h<q))
 (bu (decide (0≤h∧Int.toNat h<ByteArray.size j))
 (oO z L C n j (Int.tmod (IntKind.wrap .i64 (IntKind.wrap .i64 (IntKind.wrap .i64 (31*r)+IntKind.wrap .i64 (bB j (Int.toNat h)))+1)) 16777213) q (IntKind.wrap .i64 (h+1))))
 (some (D.int .i64 r))):=by kernel_rfl
theorem Gb(j:FuncId→List D→Option D)(L:Nat)(C:Nat→Nat)(vs:Int)(h:ByteArray):bF (cv j L C) O0 JI FinM.canon Tryz.f211 [D.int .i64 vs,D.str h]=
 (oO j L C L h vs (((ByteArray.size h):Int)) 0):=by kernel_rfl
def Ps:bA:=fun p=>match p with
 |58=>nm [0,3,4] [] []
 |_=>none
noncomputable def uf(h:FuncId→List D→Option D)(L:Nat)(C:Nat→Nat)(n:Nat)(r:Int)(q:ByteArray)(j:Int):Option D:=
 bY (cv h L C) O0 Ps FinM.canon Tryz.f79 (bt 5 11) [] n (St.mk (D.int .i64 r::J::J::D.str q::D.int .i64 j::jn 13 []) (zn 18 []))
theorem sU(r:FuncId→List D→Option D)(L:Nat)(C:Nat→Nat)(n:Nat)(h:Int)(j:ByteArray)(q:Int):uf r L C (n+1) h j q=
 (bo (decide (q<6))
 (bu (decide (0≤Int.tmod h 16∧Int.toNat (Int.tmod h 16)<16))
 (bu (!decide (((ByteArray.size (Utf8.encode (bB (ByteArray.mk #[48,49,50,51,52,53,54,55,56,57,97,98,99,100,101,102]) (Int.toNat (Int.tmod h 16))))+ByteArray.size j):Int)>9223372036854775807))
 (uf r L C n (IntKind.wrap .i64 (Int.tdiv h 16)) (Utf8.encode (bB (ByteArray.mk #[48,49,50,51,52,53,54,55,56,57,97,98,99,100,101,102]) (Int.toNat (Int.tmod h 16)))++j) (IntKind.wrap .i64 (q+1)))))
 (some (D.str j))):=by kernel_rfl
theorem JJ(h:FuncId→List D→Option D)(L:Nat)(C:Nat→Nat)(vs:Int):bF (cv h L C) O0 Ps FinM.canon Tryz.f79 [D.int .i64 vs]=
 (uf h L C L vs (ByteArray.mk #[]) 0):=by kernel_rfl
theorem Gc(h:FuncId→List D→Option D)(L:Nat)(C:Nat→Nat)(vs:Int):bF (cv h L C) O0 N0 FinM.canon Tryz.f212 [D.int .i64 vs]=
 (bn (h 265 [D.int .i64 vs,D.int .i64 16]) fun r=>bH r fun s=>bn (h 266 [D.str (ByteArray.mk #[48]),D.int .i64 (IntKind.wrap .i64 (6-((ByteArray.size s):Int)))]) fun q=>bH q fun j=>bu (!decide (((ByteArray.size j+ByteArray.size s):Int)>9223372036854775807))
 (some (D.str (j++s)))):=by kernel_rfl
def JK:bA:=fun p=>match p with
 |7=>nm [0] [] []
 |_=>none
noncomputable def yz(h:FuncId→List D→Option D)(L:Nat)(C:Nat→Nat)(j:ByteArray):Option D:=
 d9 (cv h L C) O0 JK FinM.canon Tryz.f121 [true,true] [] (C 7) (St.mk (D.str j::jn 29 []) (zn 30 []))
theorem Bb(j:FuncId→List D→Option D)(L:Nat)(C:Nat→Nat)(h:ByteArray)(hC:∀t,C t=1):yz j L C h=
 (bo (ByteArray.toList h==ByteArray.toList (ByteArray.mk #[109,101,109,98,101,114]))
 (some (D.tup [D.int .i64 2,D.int .i64 0,D.bool true,D.bool true]))
 (bo (ByteArray.toList h==ByteArray.toList (ByteArray.mk #[104,111,108,101,115]))
 (some (D.tup [D.int .i64 0,D.int .i64 0,D.bool true,D.bool true]))
 (bo (ByteArray.toList h==ByteArray.toList (ByteArray.mk #[109,97,114,107]))
 (some (D.tup [D.int .i64 2,D.int .i64 1,D.bool true,D.bool true]))
 (bo (ByteArray.toList h==ByteArray.toList (ByteArray.mk #[99,108,97,105,109]))
 (some (D.tup [D.int .i64 1,D.int .i64 1,D.bool true,D.bool true]))
 (bo (ByteArray.toList h==ByteArray.toList (ByteArray.mk #[114,117,108,105,110,103]))
 (some (D.tup [D.int .i64 1,D.int .i64 1,D.bool true,D.bool true]))
 (some (D.tup [D.int .i64 0,D.int .i64 0,D.bool false,D.bool (ByteArray.toList h==ByteArray.toList (ByteArray.mk #[117,110,100,111]))]))))))):=by
 unfold yz;rw[hC]
 kernel_rfl
theorem Gd(j:FuncId→List D→Option D)(L:Nat)(C:Nat→Nat)(h:ByteArray):bF (cv j L C) O0 JK FinM.canon Tryz.f121 [D.str h]=
 (bo (ByteArray.toList h==ByteArray.toList (ByteArray.mk #[99,108,117,98]))
 (some (D.tup [D.int .i64 1,D.int .i64 0,D.bool false,D.bool true]))
 (bo (ByteArray.toList h==ByteArray.toList (ByteArray.mk #[115,105,103,110]))
 (some (D.tup [D.int .i64 1,D.int .i64 0,D.bool false,D.bool true]))
 (bo (ByteArray.toList h==ByteArray.toList (ByteArray.mk #[114,111,117,110,100]))
 (some (D.tup [D.int .i64 1,D.int .i64 0,D.bool false,D.bool true]))
 (yz j L C h)))):=by kernel_rfl
end Go.Pd
end
section
namespace Go.Pd
open Go Go.Proofs Go.RowKit Go.Shelf
set_option maxRecDepth 100000
theorem MO(l:List UInt8)(c:UInt8):bR 257 [SB l,SB [c]] (.int .i64 (Lib.indexByte l c)):=by
 refine⟨enters_of Tryz.func257 (by kernel_rfl) rfl,fun I w vs hI hgl hl hr=> ?_⟩;obtain rfl:=mo hl hr;refine(Any.stringslite_Index_one (ρ:=Tryz.lays221_ren) {Tryz.lays221 with} (bs l) c w).mono ?_
 rintro e w' ⟨rfl,rfl⟩
 exact⟨_,rfl,by rw[cH];exact .int _ _,.refl _ _⟩
def bj(c:UInt8):List UInt8→List UInt8×List UInt8×Bool
 |[]=>([],[],false)
 |x::r=>if x==c then([],r,true) else(x::(bj c r).1,(bj c r).2.1,(bj c r).2.2)
theorem kC(c:UInt8):∀l:List UInt8,Lib.indexByte l c= -1→bj c l=(l,[],false)
 |[],_=>rfl
 |x::r,h=>by
  unfold Lib.indexByte at h;unfold bj;split at h
  ·cases h
  ·rename_i hx;rw[if_neg hx];split at h
   ·rename_i hr;rw[kC c r (by simpa using hr)]
   ·have:=Lib.indexByte_ge r c;omega
theorem mv(c:UInt8):∀(l:List UInt8) (i:Nat),Lib.indexByte l c=(i:Int)→i<l.length∧bj c l=(l.take i,l.drop (i+1),true)
 |[],i,h=>by unfold Lib.indexByte at h;omega
 |x::r,i,h=>by
  unfold Lib.indexByte at h;unfold bj;split at h
  ·rename_i hx;obtain rfl:i=0:=by omega
   rw[if_pos hx];exact⟨by simp,rfl⟩
  ·rename_i hx;rw[if_neg hx];split at h
   ·omega
   ·obtain⟨k,rfl⟩:∃k,i=k+1:=⟨i-1,by have:=Lib.indexByte_ge r c;rename_i h9;simp at h9;omega⟩;obtain⟨h1,h2⟩:=mv c r k (by omega);rw[h2];exact⟨by simpa using h1,rfl⟩
theorem DB(l:List UInt8)(c:UInt8)(hl:l.length≤1000000):bR 133 [SB l,SB [c]] (.tup [SB (bj c l).1,SB (bj c l).2.1,.bool (bj c l).2.2]):=by
 have h194:bR 194 [SB l,SB [c]] (.tup [SB (bj c l).1,SB (bj c l).2.1,.bool (bj c l).2.2]):=by
  obtain⟨B,hB,e1,_⟩:=eL [one 257 [SB l,SB [c]] (.int .i64 (Lib.indexByte l c))] ⟨bg (MO l c),trivial⟩ rfl;refine dG hB Tryz.func194 (ord:=O0) (N:=N0) (by kernel_rfl) ((FV _ _ _ _ _).trans (ct (show B 257 [SB l,SB [c]]=some (.int .i64 (Lib.indexByte l c)) from e1 ()) ?_));rw[bp,bm,bm];by_cases h:Lib.indexByte l c= -1
  ·rw[h,za2 (by decide),ba,kC c l h];rfl
  ·obtain⟨i,hi⟩:∃i:Nat,Lib.indexByte l c=(i:Int):=⟨(Lib.indexByte l c).toNat,by have:=Lib.indexByte_ge l c;omega⟩;obtain⟨h1,h2⟩:=mv c l i hi;rw[hi,h2,za1 (by omega),be];refine fJ (za1 ⟨Int.le_refl _,by omega,by omega⟩) ?_;rw[bS (by simp only[za7,zb5];omega)];refine fJ (za1 ⟨by omega,by simp only[za7,zb5];omega,Int.le_refl _⟩) ?_;have e2:Int.toNat ((i:Int)+(([c]:List UInt8).length:Int))=i+1:=by simp only[za7,zb5];omega
   rw[e2,gZ,gZ,za3,za3,List.take_length,List.drop_zero]
 obtain⟨B,hB,e1,_⟩:=eL [one 194 [SB l,SB [c]] (.tup [SB (bj c l).1,SB (bj c l).2.1,.bool (bj c l).2.2])] ⟨bg h194,trivial⟩ rfl;exact dG hB Tryz.func133 (ord:=O0) (N:=N0) (by kernel_rfl) ((FW _ _ _ _ _).trans (ct (e1 ()) rfl))
def spl(c:UInt8):List UInt8→List (List UInt8)
 |[]=>[[]]
 |x::r=>if x==c then[]::spl c r else((x::(spl c r).headD [])::(spl c r).tail)
theorem JL(c:UInt8):∀l,spl c l≠[]
 |[]=>by simp[spl]
 |x::r=>by unfold spl;split<;>simp
theorem mw(c:UInt8):∀l:List UInt8,Lib.indexByte l c= -1→spl c l=[l]
 |[],_=>rfl
 |x::r,h=>by
  unfold Lib.indexByte at h;unfold spl;split at h
  ·cases h
  ·rename_i hx;rw[if_neg hx];split at h
   ·rename_i hr;rw[mw c r (by simpa using hr)];rfl
   ·have:=Lib.indexByte_ge r c;omega
theorem ug(c:UInt8):∀(l:List UInt8) (i:Nat),Lib.indexByte l c=(i:Int)→spl c l=l.take i::spl c (l.drop (i+1))
 |[],i,h=>by unfold Lib.indexByte at h;omega
 |x::r,i,h=>by
  unfold Lib.indexByte at h;rw[spl];split at h
  ·rename_i hx;obtain rfl:i=0:=by omega
   rw[if_pos hx];rfl
  ·rename_i hx;rw[if_neg hx];split at h
   ·omega
   ·obtain⟨k,rfl⟩:∃k,i=k+1:=⟨i-1,by have:=Lib.indexByte_ge r c;rename_i h9;simp at h9;omega⟩;rw[ug c r k (by omega)];rfl
theorem nf(c:UInt8):∀(l:List UInt8) (i:Nat),Lib.indexByte l c=(i:Int)→l.count c=(l.drop (i+1)).count c+1
 |[],i,h=>by unfold Lib.indexByte at h;omega
 |x::r,i,h=>by
  unfold Lib.indexByte at h;rw[List.count_cons];split at h
  ·rename_i hx;obtain rfl:i=0:=by omega
   rw[if_pos hx];rfl
  ·rename_i hx;rw[if_neg hx];split at h
   ·omega
   ·obtain⟨k,rfl⟩:∃k,i=k+1:=⟨i-1,by have:=Lib.indexByte_ge r c;rename_i h9;simp at h9;omega⟩;rw[nf c r k (by omega)];rfl
theorem qv(c:UInt8):∀(k:Nat) (l:List UInt8),l.count c≤k→Lib.splitK [c] 0 k l=spl c l
 |0,l,h=>by
  rw[mw c l ?_]
  ·rfl
  ·by_cases h1:Lib.indexByte l c= -1
   ·exact h1
   ·have:=nf c l (Lib.indexByte l c).toNat (by have:=Lib.indexByte_ge l c;omega);omega
 |k+1,l,h=>by
  unfold Lib.splitK;rw[Lib.index_one];by_cases h1:Lib.indexByte l c= -1
  ·rw[h1,if_pos (by decide),mw c l h1]
  ·have hi:Lib.indexByte l c=((Lib.indexByte l c).toNat:Int):=by have:=Lib.indexByte_ge l c;omega
   rw[if_neg (by simpa using h1),ug c l _ hi,qv c k]
   ·rfl
   ·have:=nf c l _ hi;simp only[za7,zb5,Nat.zero_add];omega
def Bc(l:List (List UInt8)):D:= .slc true l.length (l.map SB)
theorem sV(c:UInt8)(l:List UInt8):(Lib.splitB (bs [c]) 0 (Lib.countB (bs l) (bs [c])) (bs l))=(spl c l).map bs:=by
 have hc:Lib.countB (bs l) (bs [c])=l.count c:=by
  show Lib.count (bs l).data.toList (bs [c]).data.toList=_;rw[cH,cH,Lib.count_one]
 have h1:=Lib.splitB_data (bs [c]) 0 (Lib.countB (bs l) (bs [c])) (bs l);rw[cH,cH,qv c _ l (by rw[hc];exact zb0 _)] at h1;rw[←h1,List.map_map];apply List.ext_getElem?;intro j;rw[zc3];cases (Lib.splitB (bs [c]) 0 (Lib.countB (bs l) (bs [c])) (bs l))[j]? with
 |none=>rfl
 |some x=>simp[oE]
theorem MP(l:List UInt8)(c:UInt8)(hl:l.length≤1000000):bR 190 [SB l,SB [c],.int .i64 0,.int .i64 (-1)] (Bc (spl c l)):=by
 refine⟨enters_of Tryz.func190 (by kernel_rfl) rfl,fun I w vs hI hgl hvl hr=> ?_⟩;have hvs:vs= #[.string (bs l),.string (bs [c]),.int .i64 0,.int .i64 (-1)]:=by
  have hsz:vs.size=4:=hvl.symm;have e0:=(hr 0 (SB l) vs[0] rfl (by simp)).toV (u:= .string (bs l)) rfl;have e1:=(hr 1 (SB [c]) vs[1] rfl (by simp)).toV (u:= .string (bs [c])) rfl;have e2:=(hr 2 (.int .i64 0) vs[2] rfl (by simp)).toV (u:= .int .i64 0) rfl;have e3:=(hr 3 (.int .i64 (-1)) vs[3] rfl (by simp)).toV (u:= .int .i64 (-1)) rfl;apply Array.ext
  ·rw[hsz];rfl
  ·intro i q1 q2
   match i,q2 with
   |0,_=>exact e0
   |1,_=>exact e1
   |2,_=>exact e2
   |3,_=>exact e3
 subst hvs;have L:=Tryz.lays221;have hone:(bs [c])=⟨#[c]⟩:=rfl;have hle:=Lib.countB_le (bs [c]) (zb0 1) (bs l).size (bs l) (zb0 _);have hlen:=Lib.splitB_all (bs [c]) (zb0 1) 0 _ (bs l) rfl;have hsz:=bm l;have hcalls:=Any.strings_genSplit_core L (by kernel_rfl) (bs l) (bs [c]) 0 (-1) (Lib.countB (bs l) (bs [c])+1) w (by omega) (zb0 1) (Nat.zero_le _)
  (fun x cc hx=>(Any.strings_Index_one {L with} x c _).mono fun e w' ⟨he,hw⟩=>⟨by rw[he];show Ending.returned (Value.int .i64 (Lib.indexByte x.data.toList c))= .returned (.int .i64 (Lib.index x.data.toList (bs [c]).data.toList));rw[cH,Lib.index_one],hw⟩)
  ((Any.strings_Count_one {L with} (bs l) c w).mono fun e w' ⟨he,hw⟩=>⟨by rw[he];show Ending.returned (Value.int .i64 ((Lib.countByte (bs l).data.toList c:Nat):Int))= .returned (.int .i64 ((Lib.count (bs l).data.toList (bs [c]).data.toList:Nat):Int));rw[cH,cH,Lib.count_one];rfl,hw⟩)
  (by decide) (by decide) (by rw[if_pos (by decide)];omega)
 rw[Nat.add_sub_cancel] at hcalls;have hcl:Lib.cellsOf (Lib.splitB (bs [c]) 0 (Lib.countB (bs l) (bs [c])) (bs l)) (Lib.countB (bs l) (bs [c])+1)=((Lib.splitB (bs [c]) 0 (Lib.countB (bs l) (bs [c])) (bs l)).map Value.string).toArray:=by
  rw[←hlen];exact Lib.cellsOf_full _
 rw[hcl,hlen,sV] at hcalls;have hsl:(spl c l).length=Lib.countB (bs l) (bs [c])+1:=by rw[←hlen,sV];simp
 refine hcalls.mono ?_
 rintro e w' ⟨rfl,rfl⟩
 have hnew:(w.alloc (.cells (((spl c l).map bs).map Value.string).toArray (Tryz.lays221_ren.t 9))).heap[w.heap.size]?=some (.cells (((spl c l).map bs).map Value.string).toArray (Tryz.lays221_ren.t 9) (0,0)):=cE w _;refine⟨_,rfl,?_,Blw.of_below ((Below.refl _ _).alloc (zb0 _) _)⟩;rw[←hsl];refine .slc true (spl c l).length _ ⟨w.heap.size,0,none⟩ _ (fun j=> .string (bs ((spl c l).getD j []))) (fun _=> .inr ⟨zb0 _,by simp⟩) (fun _=>rfl) (zb0 _) (fun j d hj=> ?_) (fun j d hj=> ?_)
 ·have hj':j<(spl c l).length:=by have:=(zc1.1 hj).1;simpa using this
  rw[Addr.add_lit,Nat.zero_add,Lib.cell_of_heap hnew];simp[hj',List.getD]
 ·have hj':j<(spl c l).length:=by have:=(zc1.1 hj).1;simpa using this
  rw[zc3,zd2 hj'] at hj;cases hj;rw[show(spl c l).getD j []=(spl c l)[j] by simp[List.getD,hj']];exact .str _
theorem MQ(l:List UInt8)(c:UInt8)(hl:l.length≤1000000):bR 130 [SB l,SB [c]] (Bc (spl c l)):=by
 obtain⟨B,hB,e1,_⟩:=eL [one 190 [SB l,SB [c],.int .i64 0,.int .i64 (-1)] (Bc (spl c l))] ⟨bg (MP l c hl),trivial⟩ rfl;exact dG hB Tryz.func130 (ord:=O0) (N:=N0) (by kernel_rfl) ((FX _ _ _ _ _).trans (ct (e1 ()) rfl))
end Go.Pd
end
section
namespace Go.Pd
open Go Go.Proofs
def JM:uF:=fun k ds=>match k,ds with
 |348,[.int .i64 16]=>some (.bool true)
 |349,[.int .u64 16]=>some (.int .i64 4)
 |_,_=>none
noncomputable def JN(call:CL)(_:Nat)(C:Nat→Nat):TE:={E:={P:=Tryz.prog,gl:=je,call:=call,L:=8},cst:=JM,C:=C}
end Go.Pd
end
section
namespace Go.Pd
open Go Go.Proofs Go.RowKit Go.Shelf
set_option maxRecDepth 100000
def MR:bA:=fun p=>if p=16220 then some {keep:=List.range 150} else none
def KB:ByteArray:=ByteArray.mk #[48,49,50,51,52,53,54,55,56,57,97,98,99,100,101,102,103,104,105,106,107,108,109,110,111,112,113,114,115,116,117,118,119,120,121,122]
def hxB(i:Int):UInt8:=UInt8.ofNat (Int.toNat (bB KB (Int.toNat i)))
def MS(v:Int):Int:=IntKind.wrap .u64 ((BitVec.toNat (BitVec.ofInt (IntKind.bits .u64) v&&&BitVec.ofInt (IntKind.bits .u64) (IntKind.wrap .u64 (IntKind.wrap .u64 (Int.ofNat 16)-1))):Nat):Int)
def Oj:Nat→Int→List UInt8→Option D
 |0,_,_=>none
 |n+1,v,acc=>bo (decide (v≥IntKind.wrap .u64 (Int.ofNat 16))) (bu (decide (0≤MS v∧Int.toNat (MS v)<36)) (Oj n (Int.fdiv v (2^4)) (hxB (MS v)::acc))) (bu (decide (0≤v∧Int.toNat v<36)) (some (.tup [.slc true 0 [],.str (ByteArray.mk (hxB v::acc).toArray)])))
theorem Ge(j:FuncId→List D→Option D)(L:Nat)(C:Nat→Nat)(h:Int):bF (JN j L C) O0 MR FinM.canon Tryz.f321 [D.nils,D.int IntKind.u64 h,D.int .i64 16,D.bool false,D.bool false]=Oj 8 h []:=by kernel_rfl
def hb(d:Nat):UInt8:=hxB (d:Int)
def gt:Nat→Nat→List UInt8→List UInt8
 |0,_,acc=>acc
 |n+1,v,acc=>if 16≤v then gt n (v/16) (hb (v%16)::acc) else hb v::acc
def h6:Nat→Nat→List UInt8→List UInt8
 |0,_,acc=>acc
 |k+1,v,acc=>h6 k (v/16) (hb (v%16)::acc)
def eZ(v:Nat):List UInt8:=h6 6 v []
theorem DC:∀(k v:Nat) (acc:List UInt8),(h6 k v acc).length=k+acc.length
 |0,_,acc=>by simp[h6]
 |k+1,v,acc=>by rw[h6,DC k,za7];omega
theorem zM:∀(k:Nat) (acc:List UInt8),h6 k 0 acc=List.replicate k 48++acc
 |0,_=>rfl
 |k+1,acc=>by
  rw[h6,show 0/16=0 from rfl,show 0%16=0 from rfl,zM k,show hb 0=48 by decide+kernel,List.replicate_succ',za8];rfl
theorem wJ:∀(k n v:Nat) (acc:List UInt8),k≤n→1≤k→v<16^k→acc.length<(gt n v acc).length∧(gt n v acc).length≤k+acc.length
 |0,_,_,_,_,h,_=>absurd h (by omega)
 |k+1,0,_,_,h,_,_=>absurd h (by omega)
 |k+1,n+1,v,acc,h,_,hv=>by
  unfold gt;split
  ·rename_i h16;have hk:1≤k:=by
    rcases Nat.eq_zero_or_pos k with rfl|hk
    ·omega
    ·exact hk
   have hv':v<16^k*16:=by rw[←Nat.pow_succ];exact hv
   have:=wJ k n (v/16) (hb (v%16)::acc) (by omega) hk (by omega);rw[za7] at this;omega
  ·rw[za7];omega
theorem wK:∀(k n v:Nat) (acc:List UInt8),k≤n→1≤k→v<16^k→List.replicate (k+acc.length-(gt n v acc).length) 48++gt n v acc=h6 k v acc
 |0,_,_,_,_,h,_=>absurd h (by omega)
 |k+1,0,_,_,h,_,_=>absurd h (by omega)
 |k+1,n+1,v,acc,h,_,hv=>by
  unfold gt h6;split
  ·rename_i h16;have hk:1≤k:=by
    rcases Nat.eq_zero_or_pos k with rfl|hk
    ·omega
    ·exact hk
   have hv':v<16^k*16:=by rw[←Nat.pow_succ];exact hv
   have:=wK k n (v/16) (hb (v%16)::acc) (by omega) hk (by omega);rw[←this,za7,show k+1+acc.length=k+(acc.length+1) by omega]
  ·rename_i h16;rw[show v/16=0 by omega,show v%16=v by omega,zM,za7,show k+1+acc.length-(acc.length+1)=k by omega]
theorem Gf(v:Nat)(h:v<18446744073709551616):MS (v:Int)=((v%16:Nat):Int):=by
 unfold MS;have e1:(BitVec.ofInt (IntKind.bits .u64) (v:Int)).toNat=v:=by
  show(BitVec.ofInt 64 (v:Int)).toNat=v;rw[BitVec.toNat_ofInt];omega
 have e2:(BitVec.ofInt (IntKind.bits .u64) (IntKind.wrap .u64 (IntKind.wrap .u64 (Int.ofNat 16)-1))).toNat=2^4-1:=by decide+kernel
 rw[BitVec.toNat_and,e1,e2,Nat.and_two_pow_sub_one_eq_mod];show((v%16:Nat):Int)%18446744073709551616=_;omega
theorem zN:∀(k n v:Nat) (acc:List UInt8),k≤n→1≤k→v<16^k→v<18446744073709551616→Oj n (v:Int) acc=some (.tup [.slc true 0 [],SB (gt n v acc)])
 |0,_,_,_,_,h,_,_=>absurd h (by omega)
 |k+1,0,_,_,h,_,_,_=>absurd h (by omega)
 |k+1,n+1,v,acc,h,_,hv,h64=>by
  unfold Oj gt;rw[show IntKind.wrap .u64 (Int.ofNat 16)=16 by decide+kernel,Gf v h64];by_cases h16:16≤v
  ·have hk:1≤k:=by
    rcases Nat.eq_zero_or_pos k with rfl|hk
    ·omega
    ·exact hk
   have hv':v<16^k*16:=by rw[←Nat.pow_succ];exact hv
   rw[za1 (show(v:Int)≥16 by omega),be,za1 (show(0:Int)≤((v%16:Nat):Int)∧Int.toNat ((v%16:Nat):Int)<36 by omega),bh,if_pos h16,
    show Int.fdiv (v:Int) (2^4)=((v/16:Nat):Int) by(rw[Int.fdiv_eq_ediv_of_nonneg _ (by decide)];omega)]
   exact zN k n (v/16) (hb (v%16)::acc) (by omega) hk (by omega) (by omega)
  ·rw[za2 (show¬(v:Int)≥16 by omega),ba,za1 (show(0:Int)≤(v:Int)∧Int.toNat (v:Int)<36 by omega),bh,if_neg h16];rfl
theorem MT(v:Nat)(h:v<16^6):bR 321 [.nils,.int .u64 (v:Int),.int .i64 16,.bool false,.bool false] (.tup [.slc true 0 [],SB (gt 8 v [])]):=by
 have o348:bR 348 [.int .i64 16] (.bool true):=dE (by kernel_rfl);have o349:bR 349 [.int .u64 16] (.int .i64 4):=dE (by kernel_rfl);obtain⟨B,hB,e1,e2,_⟩:=eL [one 348 [.int .i64 16] (.bool true),one 349 [.int .u64 16] (.int .i64 4)] ⟨bg o348,bg o349,trivial⟩ rfl;have he:EnvOK (JN B 0 C1).E:=⟨pA hB,(fun _ _ h=>nomatch h),(fun _ _ _ h=>nomatch h),(fun _ _ hi=>nomatch hi)⟩;refine eY (Te:=JN B 0 C1) fk he (fun k ds r hc=> ?_) rfl (fun _ _ _ h=>by cases h) Tryz.func321 (by simp) (ord:=O0) (N:=MR) (by kernel_rfl) ((Ge B 0 C1 (v:Int)).trans (zN 6 8 v [] (by omega) (by omega) h (by omega)));have hc:JM k ds=some r:=hc;unfold JM at hc;split at hc
 ·cases hc;exact e1 ()
 ·cases hc;exact e2 ()
 ·cases hc
theorem Gg(j:FuncId→List D→Option D)(L:Nat)(C:Nat→Nat)(h:Int):bF (cv j L C) O0 N0 FinM.canon Tryz.f264 [D.int .i64 h,D.int .i64 16]=
 (bn (j 321 [D.nils,D.int IntKind.u64 (IntKind.wrap IntKind.u64 h),D.int .i64 16,D.bool (decide (h<0)),D.bool false]) fun r=>cJ r 2 fun c=>bc c 0 fun d=>cP d fun _f _n _c=>bc c 1 fun q=>bH q fun s=>some (D.str s)):=by kernel_rfl
theorem Gi(h:FuncId→List D→Option D)(L:Nat)(C:Nat→Nat)(q j:Int):bF (cv h L C) O0 N0 FinM.canon Tryz.f265 [D.int .i64 q,D.int .i64 j]=
 (bn (h 264 [D.int .i64 q,D.int .i64 j]) fun r=>bH r fun s=>some (D.str s)):=by kernel_rfl
theorem MU(v:Nat)(h:v<16^6):bR 265 [.int .i64 (v:Int),.int .i64 16] (SB (gt 8 v [])):=by
 have h264:bR 264 [.int .i64 (v:Int),.int .i64 16] (SB (gt 8 v [])):=by
  obtain⟨B,hB,e1,_⟩:=eL [one 321 [.nils,.int .u64 (v:Int),.int .i64 16,.bool false,.bool false] (.tup [.slc true 0 [],SB (gt 8 v [])])] ⟨bg (MT v h),trivial⟩ rfl;refine dG hB Tryz.func264 (ord:=O0) (N:=N0) (by kernel_rfl) ((Gg _ _ _ _).trans ?_);rw[show IntKind.wrap .u64 (v:Int)=(v:Int) by(show(v:Int)%18446744073709551616=_;omega),za2 (show¬(v:Int)<0 by omega)];exact ct (e1 ()) rfl
 obtain⟨B,hB,e1,_⟩:=eL [one 264 [.int .i64 (v:Int),.int .i64 16] (SB (gt 8 v []))] ⟨bg h264,trivial⟩ rfl;exact dG hB Tryz.func265 (ord:=O0) (N:=N0) (by kernel_rfl) ((Gi _ _ _ _ _).trans (ct (e1 ()) rfl))
theorem Tryz.Builder_Extra_105:Builder.Extra Tryz.prog Tryz.lays105_ren:={
 sizeBuilder:=by kernel_rfl
 liesBuilder:=by kernel_rfl
 t5:=Tryz.underlying5
 a5:=Tryz.isAgg5
 z5:=Tryz.sizeOf5
 v5:=Tryz.zeroValue5
 infoByte:=by kernel_rfl
 cellsByte:=by kernel_rfl
 sizeByte:=by kernel_rfl
 neB5:=by decide}
theorem qw(c:UInt8):∀k:Nat,Lib.repeatL [c] k=List.replicate k c
 |0=>rfl
 |k+1=>by
  show[c]++Lib.repeatL [c] k=_;rw[qw c k];rfl
theorem MV(c:UInt8)(k:Nat)(hk:k≤1000000):bR 266 [SB [c],.int .i64 (k:Int)] (SB (List.replicate k c)):=by
 refine⟨enters_of Tryz.func266 (by kernel_rfl) rfl,fun I w vs hI hgl hvl hr=> ?_⟩;obtain⟨v0,v1,rfl⟩:=fm hvl;have h0:=(hr 0 _ v0 rfl rfl).toV (u:= .string (bs [c])) rfl;have h1:=(hr 1 _ v1 rfl rfl).toV (u:= .int .i64 (k:Int)) rfl;subst h0 h1;refine(Any.strings_Repeat Tryz.lays105 Tryz.Builder_Extra_105 (bs [c]) k w (by omega) (by rw[bm];simp only[za7,zb5];omega)).mono ?_
 rintro e w' ⟨rfl,hb⟩
 refine⟨_,rfl,?_,Blw.of_below hb⟩;rw[cH,qw];exact .str _
theorem Ht(v:Nat)(h:v<16^6):bR 212 [.int .i64 (v:Int)] (SB (eZ v)):=by
 have hl:=wJ 6 8 v [] (by omega) (by omega) h;have hp:=wK 6 8 v [] (by omega) (by omega) h;obtain⟨B,hB,e1,e2,_⟩:=eL [one 265 [.int .i64 (v:Int),.int .i64 16] (SB (gt 8 v [])),one 266 [SB [48],.int .i64 ((6-(gt 8 v []).length:Nat):Int)] (SB (List.replicate (6-(gt 8 v []).length) 48))]
  ⟨bg (MU v h),bg (MV 48 _ (by omega)),trivial⟩ rfl
 have g1:B 265 [.int .i64 (v:Int),.int .i64 16]=some (SB (gt 8 v [])):=e1 ();have g2:B 266 [.str (ByteArray.mk #[48]),.int .i64 ((6-(gt 8 v []).length:Nat):Int)]=some (SB (List.replicate (6-(gt 8 v []).length) 48)):=e2 ();refine dG hB Tryz.func212 (ord:=O0) (N:=N0) (by kernel_rfl) ((Gc _ _ _ _).trans (ct g1 ?_));have hn:(gt 8 v []).length≤6:=by simpa using hl.2
 rw[bE,bm,bS (by omega),show(6:Int)-((gt 8 v []).length:Int)=((6-(gt 8 v []).length:Nat):Int) by omega];refine ct g2 ?_;rw[bE,bm,List.length_replicate,za2 (by omega),Bool.not_false,bh,dY];rw[zb5,Nat.add_zero] at hp;rw[hp];rfl
theorem DD(c:UInt8)(h:c.toNat<128):Utf8.encode (c.toNat:Int)=bs [c]:=by
 have hv:Utf8.valid (c.toNat:Int)=true:=by unfold Utf8.valid;simp;omega
 unfold Utf8.encode;rw[hv];dsimp only;rw[if_pos rfl,za3,if_pos h];simp[bs]
theorem MW:∀d:Nat,d<16→bB (ByteArray.mk #[48,49,50,51,52,53,54,55,56,57,97,98,99,100,101,102]) d=((hb d).toNat:Int)∧(hb d).toNat<128:=by
 have h:∀d:Fin 16,bB (ByteArray.mk #[48,49,50,51,52,53,54,55,56,57,97,98,99,100,101,102]) d.1=((hb d.1).toNat:Int)∧(hb d.1).toNat<128:=by decide+kernel
 exact fun d hd=>h ⟨d,hd⟩
theorem Pt{B:FuncId→List D→Option D}:∀(k v fuel:Nat) (acc:List UInt8),k≤6→acc.length+k=6→v<4611686018427387904→k<fuel→uf B LL C1 fuel (v:Int) (bs acc) ((6-k:Nat):Int)=some (SB (h6 k v acc)):=by
 intro k
 induction k with
 |zero=>
  intro v fuel acc _ _ _ hf;obtain⟨fuel,rfl⟩:∃n,fuel=n+1:=⟨fuel-1,by omega⟩;rw[sU,za2 (by omega),ba];rfl
 |succ k ih=>
  intro v fuel acc hk hl hv hf;obtain⟨fuel,rfl⟩:∃n,fuel=n+1:=⟨fuel-1,by omega⟩;obtain⟨b1,b2⟩:=MW (v%16) (by omega);have ht:Int.tmod (v:Int) 16=((v%16:Nat):Int):=by rw[Int.tmod_eq_emod_of_nonneg (by omega)];omega
  have hd:Int.tdiv (v:Int) 16=((v/16:Nat):Int):=by rw[Int.tdiv_eq_ediv_of_nonneg (by omega)];omega
  have ih:=ih (v/16) fuel (hb (v%16)::acc) (by omega) (by rw[za7];omega) (by omega) (by omega);rw[sU,za1 (show((6-(k+1):Nat):Int)<6 by omega),be,ht,za3,za1 (by omega),bh,b1,DD _ b2,bm,bm,za7,zb5,za2 (by omega),Bool.not_false,bh,hd,bS (by omega),bS (by omega),
   show((6-(k+1):Nat):Int)+1=((6-k:Nat):Int) by omega,dY]
  exact ih
theorem MX(v:Nat)(h:v<16^6):bR 79 [.int .i64 (v:Int)] (SB (eZ v)):=
 dG cp Tryz.func79 (ord:=O0) (N:=Ps) (by kernel_rfl) ((JJ _ _ _ _).trans (Pt 6 v LL [] (by omega) rfl (by omega) (by unfold LL;omega)))
def bV:Nat→List UInt8→Nat
 |s,[]=>s
 |s,c::r=>bV ((31*s+c.toNat+1)%16777213) r
theorem kD:∀(l:List UInt8) (s:Nat),s<16777213→bV s l<16777213
 |[],_,h=>h
 |_::r,_,_=>kD r _ (zd9 _ (by decide))
theorem wL(s c:Nat)(hs:s<16777213)(hc:c<256):Int.tmod (IntKind.wrap .i64 (IntKind.wrap .i64 (IntKind.wrap .i64 (31*(s:Int))+IntKind.wrap .i64 (c:Int))+1)) 16777213=(((31*s+c+1)%16777213:Nat):Int):=by
 rw[bS (y:=31*(s:Int)) (by omega),bS (y:=(c:Int)) (by omega),bS (y:=31*(s:Int)+(c:Int)) (by omega),bS (y:=31*(s:Int)+(c:Int)+1) (by omega),Int.tmod_eq_emod_of_nonneg (by omega)];omega
theorem Pu{B:FuncId→List D→Option D}:∀(r pre:List UInt8) (s fuel:Nat),s<16777213→(pre++r).length≤1000000→r.length<fuel→ue B LL C1 fuel (bs (pre++r)) (s:Int) (pre.length:Int)=some (.int .i64 (bV s r:Int)):=by
 intro r
 induction r with
 |nil=>
  intro pre s fuel hs hl hf;obtain⟨fuel,rfl⟩:∃n,fuel=n+1:=⟨fuel-1,by omega⟩;rw[sT,bm,zb6,za2 (by omega),ba];rfl
 |cons c r ih=>
  intro pre s fuel hs hl hf;obtain⟨fuel,rfl⟩:∃n,fuel=n+1:=⟨fuel-1,by omega⟩;have hlen:pre.length<(pre++c::r).length:=by simp
  have ih:=ih (pre++[c]) ((31*s+c.toNat+1)%16777213) fuel (zd9 _ (by decide)) (by simp at hl ⊢;omega) (by simp at hf;omega);rw[za8,List.singleton_append] at ih;have hat:bB (bs (pre++c::r)) pre.length=((c.toNat:Nat):Int):=lb (by simp);rw[sT,bm,za1 (show(pre.length:Int)<((pre++c::r).length:Int) by omega),be,za3,za1 ⟨by omega,hlen⟩,bh,hat,wL s _ hs c.toNat_lt,bS (by omega),show(pre.length:Int)+1=((pre++[c]).length:Int) by simp];exact ih
theorem MY(s:Nat)(l:List UInt8)(hs:s<16777213)(hl:l.length≤1000000):bR 62 [.int .i64 (s:Int),SB l] (.int .i64 (bV s l:Int)):=
 dG cp Tryz.func62 (ord:=O0) (N:=Pr) (by kernel_rfl) ((JH _ _ _ _ _).trans (Pu l [] s LL hs (by simpa using hl) (by unfold LL;omega)))
theorem MZ{B:FuncId→List D→Option D}:∀(r pre:List UInt8) (s fuel:Nat),s<16777213→(pre++r).length≤1000000→r.length<fuel→oO B LL C1 fuel (bs (pre++r)) (s:Int) ((pre++r).length:Int) (pre.length:Int)=some (.int .i64 (bV s r:Int)):=by
 intro r
 induction r with
 |nil=>
  intro pre s fuel hs hl hf;obtain⟨fuel,rfl⟩:∃n,fuel=n+1:=⟨fuel-1,by omega⟩;rw[qu,zb6,za2 (by omega),ba];rfl
 |cons c r ih=>
  intro pre s fuel hs hl hf;obtain⟨fuel,rfl⟩:∃n,fuel=n+1:=⟨fuel-1,by omega⟩;have hlen:pre.length<(pre++c::r).length:=by simp
  have ih:=ih (pre++[c]) ((31*s+c.toNat+1)%16777213) fuel (zd9 _ (by decide)) (by simp at hl ⊢;omega) (by simp at hf;omega);rw[za8,List.singleton_append] at ih;have hat:bB (bs (pre++c::r)) pre.length=((c.toNat:Nat):Int):=lb (by simp);rw[qu,bm,za1 (show(pre.length:Int)<((pre++c::r).length:Int) by omega),be,za3,za1 ⟨by omega,hlen⟩,bh,hat,wL s _ hs c.toNat_lt,bS (by omega),show(pre.length:Int)+1=((pre++[c]).length:Int) by simp];exact ih
theorem Hu(s:Nat)(l:List UInt8)(hs:s<16777213)(hl:l.length≤1000000):bR 211 [.int .i64 (s:Int),SB l] (.int .i64 (bV s l:Int)):=
 dG cp Tryz.func211 (ord:=O0) (N:=JI) (by kernel_rfl) ((Gb _ _ _ _ _).trans (by rw[bm];exact MZ l [] s LL hs (by simpa using hl) (by unfold LL;omega)))
section
variable (pre:List UInt8)(c:UInt8)(r:List UInt8)
theorem zO:decide ((pre.length:Int)<(((pre++c::r).length:Nat):Int))=true:=by simp;omega
theorem zP:decide (0≤(pre.length:Int)∧Int.toNat (pre.length:Int)<(pre++c::r).length)=true:=by simp
theorem wM:bB (bs (pre++c::r)) (Int.toNat (pre.length:Int))=(c.toNat:Int):=by rw[za3];exact lb (by simp)
theorem zQ(h:(pre++c::r).length≤1000000):IntKind.wrap .i64 ((pre.length:Int)+1)=((pre++[c]).length:Int):=by
 simp at h;rw[bS (by omega)];simp
theorem hU:pre++c::r=pre++[c]++r:=by simp
theorem ng:decide ((pre.length:Int)<((pre.length:Nat):Int))=false:=by simp
end
theorem bx{n k:Nat}(h:k<n):∃m,n=m+1:=⟨n-1,by omega⟩
theorem qx(c:UInt8)(r:List UInt8):∀pre:List UInt8,c∉pre→bj c (pre++r)=(pre++(bj c r).1,(bj c r).2.1,(bj c r).2.2)
 |[],_=>rfl
 |x::pre,h=>by
  have hx:(x==c)=false:=by
   rw[beq_eq_false_iff_ne];exact fun e=>h (e▸za4 ..)
  rw[List.cons_append,bj,hx,qx c r pre fun hm=>h (za5 _ hm)];rfl
abbrev jz(l:List UInt8):D:= .tup [SB (bj 32 l).1,SB (bj 32 l).2.1,.bool (bj 32 l).2.2]
theorem M1{B:FuncId→List D→Option D}:∀(r pre:List UInt8) (fuel:Nat),(32:UInt8)∉pre→(pre++r).length≤1000000→r.length<fuel→oL B LL C1 fuel (bs (pre++r)) (pre.length:Int)=some (jz (pre++r)):=by
 intro r
 induction r with
 |nil=>
  intro pre fuel hp hl hf;obtain⟨fuel,rfl⟩:=bx hf;have e1:=qx 32 [] pre hp;rw[zb6] at e1;rw[qp,bm,zb6,ng,ba];unfold jz;rw[e1];show _=some (D.tup [SB (pre++[]),SB [],.bool false]);rw[zb6];rfl
 |cons c r ih=>
  intro pre fuel hp hl hf;obtain⟨fuel,rfl⟩:=bx hf;rw[qp,bm,zO,be,zP,bh,wM,show(32:Int)=((32:UInt8).toNat:Int) from rfl,wF];have hl':=hl;simp only[za6,za7] at hl';by_cases hc:c=32
  ·subst hc;unfold jz;rw[za1 rfl,be,gZ,gZ,bS (by omega),qx 32 _ pre hp];refine fJ (za1 ⟨Int.le_refl _,by omega,by simp;omega⟩) (fJ (za1 ⟨by omega,by simp;omega,Int.le_refl _⟩) ?_);have e1:bj 32 (32::r)=([],r,true):=by rw[bj];rfl
   rw[e1,za3,za3,show Int.toNat ((pre.length:Int)+1)=pre.length+1 by omega,List.take_length,List.drop_zero,List.take_left,zb6,hU,show pre.length+1=(pre++[32]).length by simp,List.drop_left]
  ·have ih:=ih (pre++[c]) fuel (by simp only[za9,zd1,not_or];exact⟨hp,fun e=>hc e.symm⟩) (by rw[←hU];exact hl) (by simp at hf;omega);rw[←hU] at ih;rw[za2 hc,ba,zQ _ _ _ hl];exact ih
theorem Hv(l:List UInt8)(hl:l.length≤1000000):bR 188 [SB l] (jz l):=
 dG cp Tryz.func188 (ord:=O0) (N:=JD) (by kernel_rfl) ((F3 _ _ _ _).trans (M1 l [] LL (by simp) (by simpa using hl) (by unfold LL;omega)))
def nh(c:UInt8)(l:List UInt8):Nat→Int
 |0=> -1
 |k+1=>if l[k]?=some c then(k:Int) else nh c l k
theorem DE(c:UInt8)(l:List UInt8):∀k,0≤nh c l k→∃i:Nat,nh c l k=(i:Int)∧i<k∧l[i]?=some c
 |0,h=>by unfold nh at h;omega
 |k+1,h=>by
  unfold nh at h ⊢;split
  ·rename_i hk;exact⟨k,rfl,by omega,hk⟩
  ·rename_i hk;rw[if_neg hk] at h;obtain⟨i,h1,h2,h3⟩:=DE c l k h;exact⟨i,h1,by omega,h3⟩
theorem M2{B:FuncId→List D→Option D}{c:UInt8}{l:List UInt8}(hl:l.length≤1000000):∀(k fuel:Nat),k≤l.length→k<fuel→oK B LL C1 fuel (bs l) (c.toNat:Int) ((k:Int)-1)=some (.int .i64 (nh c l k)):=by
 intro k
 induction k with
 |zero=>
  intro fuel hk hf;obtain⟨fuel,rfl⟩:=bx hf;rw[qn,za2 (by omega),ba];rfl
 |succ k ih=>
  intro fuel hk hf;obtain⟨fuel,rfl⟩:=bx hf;have hat:bB (bs l) k=((l[k]'(by omega)).toNat:Int):=lb (zd2 (by omega));rw[show(((k+1:Nat):Int)-1)=(k:Int) by omega,qn,bm,za1 (show(k:Int)≥0 by omega),be,za3,za1 ⟨by omega,by omega⟩,bh,hat,wF];unfold nh;rw[zd2 (show k<l.length by omega)];by_cases hc:l[k]'(by omega)=c
  ·rw[za1 hc,be,if_pos (congrArg some hc)]
  ·rw[za2 hc,ba,if_neg (fun e=>hc (Option.some.inj e)),bS (by omega),ih fuel (by omega) (by omega)]
theorem M3(l:List UInt8)(c:UInt8)(hl:l.length≤1000000):bR 186 [SB l,.int .u8 (c.toNat:Int)] (.int .i64 (nh c l l.length)):=
 dG cp Tryz.func186 (ord:=O0) (N:=JB) (by kernel_rfl) ((F1 _ _ _ _ _).trans (by rw[bm,bS (by omega)];exact M2 hl _ LL (zb0 _) (by unfold LL;omega)))
theorem zR(c:UInt8)(l:List UInt8):∀k,k≤l.length→Lib.lastIdx (bs l) (c.toNat:Int) k=nh c l k
 |0,_=>rfl
 |k+1,h=>by
  unfold Lib.lastIdx nh;have e1:((bs l).data[k]!)=l[k]'(by omega):=by
   have hs:k<(bs l).data.size:=by simp[bs];omega
   rw[getElem!_pos (bs l).data k hs];simp[bs]
  rw[e1,zd2 (show k<l.length by omega),zR c l k (by omega)];by_cases hc:l[k]'(by omega)=c
  ·rw[if_pos (by rw[hc]),if_pos (by rw[hc])]
  ·rw[if_neg (fun e=>hc (UInt8.toNat_inj.1 (by omega))),if_neg (fun e=>hc (Option.some.inj e))]
theorem M4(l:List UInt8)(c:UInt8)(hl:l.length≤1000000):bR 324 [SB l,SB [c]] (.int .i64 (nh c l l.length)):=by
 refine⟨enters_of Tryz.func324 (by kernel_rfl) rfl,fun I w vs hI hgl hvl hr=> ?_⟩;obtain rfl:=mo hvl hr;refine(Any.strings_LastIndex_one (ρ:=Tryz.lays148_ren) Tryz.lays148 (bs l) (bs [c]) (by rw[bm];rfl) (by rw[bm];omega) w).mono ?_
 rintro e w' ⟨rfl,rfl⟩
 refine⟨_,rfl,?_,.refl _ _⟩;have e0:((bs [c])[0]'(by rw[bm];simp)).toNat=c.toNat:=rfl;rw[e0];show RelC _ _ _ (Value.int .i64 (Lib.lastIdx (bs l) (c.toNat:Int) (bs l).size));rw[bm,zR c l _ (zb0 _)];exact .int _ _
def n8(c:UInt8):Bool:=decide (48≤c.toNat∧c.toNat≤57)||decide (97≤c.toNat∧c.toNat≤102)
def hxs:List UInt8:=[48,49,50,51,52,53,54,55,56,57,97,98,99,100,101,102]
theorem uh(c:UInt8):hxs.contains c=n8 c:=by
 have h:∀n:Fin 256,hxs.contains (UInt8.ofNat n.1)=n8 (UInt8.ofNat n.1):=by decide+kernel
 have:=h ⟨c.toNat,c.toNat_lt⟩;simpa using this
def qy(l:List UInt8):Bool:=l.all n8&&decide (l.length=6)
theorem M5{B:FuncId→List D→Option D}:∀(r pre:List UInt8) (fuel:Nat),(pre++r).length≤1000000→r.length<fuel→kz B LL C1 fuel (bs (pre++r)) (pre.length:Int)=some (.bool (r.all n8&&decide ((pre++r).length=6))):=by
 intro r
 induction r with
 |nil=>
  intro pre fuel hl hf;obtain⟨fuel,rfl⟩:=bx hf;rw[qo,bm,zb6,ng,ba];show some (D.bool ((pre.length:Int)==6))=_
  congr 2
  rw[Bool.eq_iff_iff];simp;omega
 |cons c r ih=>
  intro pre fuel hl hf;obtain⟨fuel,rfl⟩:=bx hf;have ih:=ih (pre++[c]) fuel (by rw[←hU];exact hl) (by simp at hf;omega);rw[←hU] at ih;rw[qo,bm,zO,be,zP,bh,bh,bh,bh,wM,zQ _ _ _ hl,ih,List.all_cons];have e0:n8 c=(decide (48≤c.toNat∧c.toNat≤57)||decide (97≤c.toNat∧c.toNat≤102)):=rfl;by_cases h1:48≤c.toNat
  ·rw[za1 (show(c.toNat:Int)≥48 by omega),be];by_cases h2:c.toNat≤57
   ·rw[za1 (show(c.toNat:Int)≤57 by omega),be,show n8 c=true by rw[e0];simp;omega,Bool.true_and]
   ·rw[za2 (show¬(c.toNat:Int)≤57 by omega),ba];by_cases h3:97≤c.toNat
    ·rw[za1 (show(c.toNat:Int)≥97 by omega),be];by_cases h4:c.toNat≤102
     ·rw[za1 (show(c.toNat:Int)≤102 by omega),Bool.not_true,ba,show n8 c=true by rw[e0];simp;omega,Bool.true_and]
     ·rw[za2 (show¬(c.toNat:Int)≤102 by omega),Bool.not_false,be,show n8 c=false by rw[e0];simp;omega,Bool.false_and,Bool.false_and]
    ·rw[za2 (show¬(c.toNat:Int)≥97 by omega),ba,show n8 c=false by rw[e0];simp;omega,Bool.false_and,Bool.false_and]
  ·rw[za2 (show¬(c.toNat:Int)≥48 by omega),ba,za2 (show¬(c.toNat:Int)≥97 by omega),ba,show n8 c=false by rw[e0];simp;omega,Bool.false_and,Bool.false_and]
theorem M6(l:List UInt8)(hl:l.length≤1000000):bR 187 [SB l] (.bool (qy l)):=
 dG cp Tryz.func187 (ord:=O0) (N:=JC) (by kernel_rfl) ((F2 _ _ _ _).trans (M5 l [] LL (by simpa using hl) (by unfold LL;omega)))
theorem M7{call:CL}:∀(r pre:List UInt8) (fuel:Nat),(pre++r).length≤1000000→r.length<fuel→oM call LL C1 fuel (bs (pre++r)) (pre.length:Int)=some (.bool (r.all dZ)):=by
 intro r
 induction r with
 |nil=>
  intro pre fuel hl hf;obtain⟨fuel,rfl⟩:∃n,fuel=n+1:=⟨fuel-1,by omega⟩;rw[qq,bm,zb6,za2 (by omega),ba];rfl
 |cons c r ih=>
  intro pre fuel hl hf;obtain⟨fuel,rfl⟩:∃n,fuel=n+1:=⟨fuel-1,by omega⟩;have hlen:pre.length<(pre++c::r).length:=by simp
  have ih:=ih (pre++[c]) fuel (by simp at hl ⊢;omega) (by simp at hf;omega);rw[za8,List.singleton_append] at ih;have hat:bB (bs (pre++c::r)) (Int.toNat (pre.length:Int))=(c.toNat:Int):=by rw[za3];exact lb (by simp)
  rw[qq,bm,za1 (show(pre.length:Int)<((pre++c::r).length:Int) by omega),be,hat];refine fJ (za1 ⟨by omega,by rw[za3];exact hlen⟩) ?_;by_cases h1:48≤c.toNat
  ·rw[za2 (by omega),ba];refine fJ (za1 ⟨by omega,by rw[za3];exact hlen⟩) ?_;by_cases h2:c.toNat≤57
   ·rw[za2 (by omega),ba,bS (by simp at hl;omega),show((pre.length:Int)+1)=((pre++[c]).length:Int) by simp,ih,List.all_cons,show dZ c=true by unfold dZ;exact za1 ⟨h1,h2⟩,Bool.true_and]
   ·rw[za1 (by omega),be,List.all_cons,show dZ c=false by unfold dZ;exact za2 (fun h=>h2 h.2),Bool.false_and]
  ·rw[za1 (by omega),be,List.all_cons,show dZ c=false by unfold dZ;exact za2 (fun h=>h1 h.1),Bool.false_and]
theorem M8(l:List UInt8)(hl:l.length≤1000000):bR 302 [SB l] (.bool (l.all dZ)):=
 dG cp Tryz.func302 (ord:=O0) (N:=JE) (by kernel_rfl) ((F5 _ _ _ _).trans (M7 l [] LL (by simpa using hl) (by unfold LL;omega)))
theorem Hw(l:List UInt8)(hl:l.length≤1000000):bR 251 [SB l] (.bool (qV l)):=by
 obtain⟨B,hB,e1,_⟩:=eL [one 302 [SB l] (.bool (l.all dZ))] ⟨bg (M8 l hl),trivial⟩ rfl;have g1:B 302 [SB l]=some (.bool (l.all dZ)):=e1 ();refine dG hB Tryz.func251 (ord:=O0) (N:=N0) (by kernel_rfl) ((F4 _ _ _ _).trans ?_);unfold qV;cases l with
 |nil=>rfl
 |cons x r=>
  rw[bm,show(((x::r).length:Nat):Int)=((r.length+1:Nat):Int) from rfl,show((((r.length+1:Nat):Int))==0)=false by simp;omega,ba];cases r with
  |nil=>
   rw[za2 (by simp),ba,g1,bf,bD];simp
  |cons y r=>
   rw[za1 (by simp;omega),be];refine fJ (za1 ⟨Int.le_refl _,by simp⟩) ?_;rw[lb (i:=0) (b:=x) rfl,show(48:Int)=((48:UInt8).toNat:Int) from rfl,wF];by_cases hx:x=48
   ·rw[za1 hx,be];subst hx;simp
   ·rw[za2 hx,ba,g1,bf,bD];have:(some x==some (48:UInt8))=false:=by simpa using hx
    simp[this]
theorem M9{call:CL}:∀(r pre:List UInt8) (fuel a:Nat),(∀c∈r,A9 c)→(pre++r).length≤18→a<10^pre.length→r.length<fuel→oN call LL C1 fuel (bs (pre++r)) (a:Int) (pre.length:Int)=some (.int .i64 ((vN a r:Nat):Int)):=by
 intro r
 induction r with
 |nil=>
  intro pre fuel a hd hl ha hf;obtain⟨fuel,rfl⟩:∃n,fuel=n+1:=⟨fuel-1,by omega⟩;rw[qr,bm,zb6,za2 (by omega),ba];rfl
 |cons c r ih=>
  intro pre fuel a hd hl ha hf;obtain⟨fuel,rfl⟩:∃n,fuel=n+1:=⟨fuel-1,by omega⟩;have hlen:pre.length<(pre++c::r).length:=by simp
  have hc:=hd c (za4 ..);obtain⟨c1,c2⟩:=hc;have h18:pre.length≤17:=by simp at hl;omega
  have ha17:a<10^17:=zb2 ha (Nat.pow_le_pow_right (by omega) h18);have ih:=ih (pre++[c]) fuel (10*a+(c.toNat-48)) (fun x hx=>hd x (za5 _ hx)) (by simp at hl ⊢;omega) (by
   rw[za6,zb4,Nat.pow_succ];omega) (by simp at hf;omega)
  rw[za8,List.singleton_append] at ih;rw[qr,bm,za1 (show(pre.length:Int)<((pre++c::r).length:Int) by omega),be];refine fJ (za1 ⟨by omega,by rw[za3];exact hlen⟩) ?_;rw[za3,lb (b:=c) (by simp),show IntKind.wrap .i64 ((pre.length:Int)+1)=((pre++[c]).length:Int) from(bS (by omega)).trans (by simp),
   bS (y:=10*(a:Int)) (by omega),bS (y:=(c.toNat:Int)) (by omega),bS (y:=10*(a:Int)+(c.toNat:Int)) (by omega),bS (y:=10*(a:Int)+(c.toNat:Int)-48) (by omega),
   show 10*(a:Int)+(c.toNat:Int)-48=((10*a+(c.toNat-48):Nat):Int) by omega]
  exact ih
theorem Na(l:List UInt8)(hd:∀c∈l,A9 c)(hl:l.length≤18):bR 252 [.str (bs l)] (.int .i64 ((vN 0 l:Nat):Int)):=
 dG cp Tryz.func252 (ord:=O0) (N:=JF) (by kernel_rfl) ((F6 _ _ _ _).trans (M9 l [] LL 0 hd (by simpa using hl) (by simp) (by unfold LL;omega)))
theorem Hx(l:List UInt8)(hl:l.length≤1000000):bR 189 [SB l] (.tup [.int .i64 (ub l).1,.bool (ub l).2]):=by
 by_cases h9:l.length≤9
 ·by_cases hd:qV l=true
  ·have hdg:∀c∈l,A9 c:=fun c hc=>by
    unfold qV at hd;simp only[zc4] at hd;exact(wG c).1 (zd7.1 hd.2.1 c hc)
   obtain⟨B,hB,e1,e2,_⟩:=eL [one 251 [SB l] (.bool (qV l)),one 252 [SB l] (.int .i64 ((vN 0 l:Nat):Int))] ⟨bg (Hw l hl),bg (Na l hdg (by omega)),trivial⟩ rfl;have g1:B 251 [SB l]=some (.bool (qV l)):=e1 ();have g2:B 252 [SB l]=some (.int .i64 ((vN 0 l:Nat):Int)):=e2 ();refine dG hB Tryz.func189 (ord:=O0) (N:=N0) (by kernel_rfl) ((uc _ _ _ _).trans ?_);unfold ub;rw[za1 h9,bm,za2 (show¬((l.length:Int)>9) by omega),ba,g1,bf,bD,hd,show(!true)=false from rfl,ba,g2];rfl
  ·have hd:qV l=false:=by simpa using hd
   obtain⟨B,hB,e1,_⟩:=eL [one 251 [SB l] (.bool (qV l))] ⟨bg (Hw l hl),trivial⟩ rfl;have g1:B 251 [SB l]=some (.bool (qV l)):=e1 ();refine dG hB Tryz.func189 (ord:=O0) (N:=N0) (by kernel_rfl) ((uc _ _ _ _).trans ?_);unfold ub;rw[bm,za2 (show¬((l.length:Int)>9) by omega),ba,g1,bf,bD,hd];rfl
 ·refine dG cp Tryz.func189 (ord:=O0) (N:=N0) (by kernel_rfl) ((uc _ _ _ _).trans ?_);unfold ub;rw[bm,za1 (show((l.length:Int)>9) by omega),za2 h9,be,Bool.and_false];rfl
theorem iA{l:List UInt8}(h:qV l=true):l≠[]∧l.all dZ=true∧(l.head?=some 48→l.length≤1):=by
 unfold qV at h;simp only[zc4,Bool.not_eq_true',beq_eq_false_iff_ne,ne_eq,Bool.or_eq_true,zc7] at h;exact⟨h.1,h.2.1,fun e=>h.2.2.elim (fun q=>absurd e q) id⟩
theorem Gj{l:List UInt8}(h:qV l=true):Lib.atoi l=some ((vN 0 l:Nat):Int):=by
 obtain⟨h1,h2,_⟩:=iA h;cases l with
 |nil=>exact absurd rfl h1
 |cons x r=>
  have hd:48≤x.toNat∧x.toNat≤57:=by
   have:=zd7.1 h2 x (by simp);simpa [dZ] using this
  have hx:∀k:UInt8,k.toNat<48→¬(x==k)=true:=fun k hk e=>by
   have e:x=k:=by simpa using e
   subst e;omega
  unfold Lib.atoi;dsimp only;rw[if_neg (hx 45 (by decide)),if_neg (hx 43 (by decide))];unfold Lib.decNat;rw[if_neg (by simp),DA (x::r) 0 h2];rfl
abbrev w9(l:List UInt8):D:= .tup [.int .i64 (ub l).1,.bool (ub l).2]
theorem Hy(l:List UInt8)(hl:l.length≤1000000):bR 205 [SB l] (w9 l):=by
 unfold w9;have h261:=CR l dgsB hl (by decide) (by decide);have hall:(Lib.trimS l dgsB==[])=l.all dZ:=by
  rw[sS]
  congr 1
  funext c
  exact rv c
 by_cases hd:(qV l&&decide (l.length≤9))=true
 ·rw[Hr hd];rw[zc4,zc7] at hd;obtain⟨q1,q2,q3⟩:=iA hd.1;obtain⟨B,hB,e1,e2,_⟩:=eL [one 261 [SB l,SB dgsB] (SB (Lib.trimS l dgsB)),one 262 [SB l] (.tup [.int .i64 ((vN 0 l:Nat):Int),.nilif])] ⟨bg h261,bg (G7 l _ (by omega) (Gj hd.1)),trivial⟩ rfl;have g1:B 261 [.str (bs l),.str (ByteArray.mk #[48,49,50,51,52,53,54,55,56,57])]=some (SB (Lib.trimS l dgsB)):=e1 ();have g2:B 262 [.str (bs l)]=some (.tup [.int .i64 ((vN 0 l:Nat):Int),.nilif]):=e2 ();have hfin:qm B LL C1 (bs l)=some (.tup [.int .i64 ((vN 0 l:Nat):Int),.bool true]):=by
   rw[Ba (hC:=c1),g2,bf];rfl
  refine dG hB Tryz.func205 (ord:=O0) (N:=FZ) (by kernel_rfl) ((zH _ _ _ _).trans ?_);rw[j5,show(l==[])=false by simpa using q1,ba,bm,za2 (by omega),ba,g1,bf,bE,j5,hall,q2,Bool.not_true,ba];cases l with
  |nil=>exact absurd rfl q1
  |cons x r=>
   rw[za1 ⟨Int.le_refl _,by simp⟩,bh,lb (i:=0) (b:=x) rfl,show(48:Int)=((48:UInt8).toNat:Int) from rfl,wF];by_cases hx:x=48
   ·subst hx;have hr:r=[]:=by
     have:=q3 rfl;simp only[za7] at this;exact List.eq_nil_of_length_eq_zero (by omega)
    subst hr;rw[za1 rfl,be,show ByteArray.mk #[48]=bs [48] from rfl,ql,show(([48]:List UInt8)==[48])=true by decide,Bool.not_true,ba];exact hfin
   ·rw[za2 hx,ba];exact hfin
 ·have hd:(qV l&&decide (l.length≤9))=false:=by simpa using hd
  rw[Hs hd];obtain⟨B,hB,e1,_⟩:=eL [one 261 [SB l,SB dgsB] (SB (Lib.trimS l dgsB))] ⟨bg h261,trivial⟩ rfl;have g1:B 261 [.str (bs l),.str (ByteArray.mk #[48,49,50,51,52,53,54,55,56,57])]=some (SB (Lib.trimS l dgsB)):=e1 ();refine dG hB Tryz.func205 (ord:=O0) (N:=FZ) (by kernel_rfl) ((zH _ _ _ _).trans ?_);unfold qV at hd;rw[j5];cases h1:(l==[]) with
  |true=>rw[be]
  |false=>
   rw[h1] at hd;rw[ba,bm];by_cases h2:l.length≤9
   ·rw[za2 (by omega),ba,g1,bf,bE,j5,hall];rw[za1 h2] at hd;cases h3:l.all dZ with
    |false=>rw[Bool.not_false,be]
    |true=>
     rw[h3] at hd;rw[Bool.not_true,ba];cases l with
     |nil=>cases h1
     |cons x r=>
      have hd:(!((x::r).head?==some (48:UInt8))||decide ((x::r).length≤1))=false:=by simpa using hd
      rw[zc9] at hd;have hx:x=48:=by simpa using hd.1
      have hr:r≠[]:=fun e=>by subst e;simp at hd
      rw[za1 ⟨Int.le_refl _,by simp⟩,bh,lb (i:=0) (b:=x) rfl,show(48:Int)=((48:UInt8).toNat:Int) from rfl,wF,za1 hx,be,show ByteArray.mk #[48]=bs [48] from rfl,ql,
       show((x::r)==[48])=false by(rw[beq_eq_false_iff_ne];intro e;cases e;exact hr rfl),Bool.not_false,be]
   ·rw[za1 (by omega),be]
end Go.Pd
end
