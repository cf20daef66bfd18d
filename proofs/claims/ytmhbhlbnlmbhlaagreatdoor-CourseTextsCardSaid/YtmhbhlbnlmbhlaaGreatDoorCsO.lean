import Derived.Test.YtmhbhlbnlmbhlaaGreatDoorCsM
import Derived.Test.YtmhbhlbnlmbhlaaGreatDoorCsL
import Derived.Test.YtmhbhlbnlmbhlaaGreatDoorCrB
import Derived.Test.YtmhbhlbnlmbhlaaGreatDoorCsN
import Derived.Lib.ItoaNum
section
namespace Go.Pd
open Go Go.Proofs Go.RowKit Go.Sort
set_option maxRecDepth 100000
theorem Kg:Tryz.prog.globalNamed "internal/strconv.uint64pow10"=some 4:=by kernel_rfl
theorem DK:powL=Lib.pow10Tab.map fun z=>D.int .u64 z:=by simp[powL,Lib.pow10Tab]
theorem RelC.snap_cell{I:Nat→Prop}{w:World}{ds:List D}{g:Nat}(h:RelC I w (.snap ds 0) (.pointer (some ⟨g,0,none⟩))){j:Nat}{d:D}(hd:ds[j]?=some d):∃u,w.cell? ⟨g,j,none⟩=some u∧RelC I w d u:=by
 generalize hv:Value.pointer (some ⟨g,0,none⟩)=v at h;generalize ho:D.snap ds 0=x at h;cases h with
 |snap cs off a us hI hc hr=>
  cases ho;simp only[Value.pointer.injEq,za0] at hv;have ha:a.add 0=a:=by unfold Addr.add;simp
  rw[ha] at hv;subst hv;have:=hc j d hd;rw[show(⟨g,0,none⟩:Addr).add j=⟨g,j,none⟩ by simp[Addr.add];intro h;exact h.symm] at this;exact⟨_,this,hr j d hd⟩
 |_=>cases ho
theorem EP{I:Nat→Prop}{w:World}(h:Gl ig I w):Lib.TabIs Tryz.prog w "internal/strconv.uint64pow10" .u64 Lib.pow10Tab:=by
 obtain⟨h1,h2⟩:=h 4 (.snap powL 0) rfl;obtain⟨_,c,e,t,hb,hs⟩:=h2 powL rfl;unfold Lib.TabIs World.var?;rw[Kg];simp only[Option.bind_some,hb]
 congr 1
 have hl:powL.length=Lib.pow10Tab.length:=by rw[DK,zc2]
 apply Array.ext_getElem?;intro j;by_cases hj:j<Lib.pow10Tab.length
 ·have hd:powL[j]?=some (D.int .u64 Lib.pow10Tab[j]):=by
   rw[DK,zc3,zd5 hj];rfl
  obtain⟨u,hu,hr⟩:=h1.snap_cell hd;have hc0:=ep hb 0 j;rw[show((⟨4,0,none⟩:Addr).add j)=⟨4,j,none⟩ by simp[Addr.add];exact fun h=>h.symm,Nat.zero_add] at hc0;rw[hc0] at hu;rw[hu,List.getElem?_toArray,zc3,zd5 hj];have:=hr.toV (u:= .int .u64 Lib.pow10Tab[j]) rfl;rw[this];rfl
 ·rw[zd3 (by omega),List.getElem?_toArray,zd6 (by simp;omega)]
theorem zI(n:Nat):Lib.decDigits n=iq n:=by
 induction n using Nat.strongRecOn with
 |_ n ih=>
  rw[Lib.decDigits];by_cases h:n<10
  ·rw[dif_pos h];by_cases h0:n=0
   ·subst h0;rw[iV];rfl
   ·rw[gy h0,gx h0,Nat.div_eq_of_lt h,eV,Nat.mod_eq_of_lt h];rfl
  ·rw[dif_neg h,ih (n/10) (by omega),gy (by omega),gy (by omega),gx (n:=n) (by omega)];rfl
def VC(n:Int):ByteArray:=bs (rx n++iq n.natAbs)
theorem Kh(n:Int):(⟨(Lib.itoa n).toArray⟩:ByteArray)=VC n:=by
 unfold VC bs Lib.itoa rx;split
 ·rw[zI];rfl
 ·rw[zI,show n.toNat=n.natAbs by omega];rfl
theorem GP{w:World}(k:Nat)(os:Array Obj):Blw (·<w.heap.size) w (grow (w.drewN k) os):=
 ⟨rfl,rfl,rfl,by simp[grow,World.drewN],fun j hj=>heap_grow_old (w.drewN k) os hj⟩
theorem Sh(n:Int)(h:Rm n):OK2 125 [nD n] (.str (VC n)):=by
 have h: -9223372036854775808≤n∧n<9223372036854775808:=h;refine⟨enters_of Tryz.func125 (by kernel_rfl) rfl,fun I w vs hI hgl hl hr=> ?_⟩;obtain⟨v,rfl⟩:=rR hl;have hv:=rK (hr 0 _ v rfl rfl);subst hv;refine(Any.strconv_Itoa Tryz.lays171M n h.1 (by omega) w (EP hgl)).mono ?_
 rintro e w' ⟨rfl,k,os,rfl⟩
 refine⟨_,rfl,?_,GP k os⟩;rw[Kh];exact .str _
end Go.Pd
end
