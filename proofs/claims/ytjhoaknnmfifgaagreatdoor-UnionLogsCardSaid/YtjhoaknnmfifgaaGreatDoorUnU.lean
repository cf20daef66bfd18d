import Derived.Test.YtjhoaknnmfifgaaGreatDoorUnQ
import Derived.Test.YtjhoaknnmfifgaaGreatDoorUnT
import Derived.Test.YtjhoaknnmfifgaaGreatDoorUnA
import Derived.KernelRfl
section
namespace Go.Pd
open Go Go.Proofs Go.RowKit
abbrev Po(x y:List UInt8):Bool:=Go.Op.bytesLess x y
theorem zF:∀x:List UInt8,Po x x=false
 |[]=>rfl
 |a::x=>by
  show(decide (a<a)||(a==a&&Po x x))=false;rw[zF x];simp
def MJ(a b:ByteArray):Bool:=Po (ByteArray.toList a) (ByteArray.toList b)
abbrev MsgV:=ByteArray×Int×ByteArray×Int×rp
def nZ(m:MsgV):List D:=[.str m.1,.int .i64 m.2.1,.str m.2.2.1,.int .i64 m.2.2.2.1,.int .i64 m.2.2.2.2.1,.str m.2.2.2.2.2]
def FR(a b:MsgV):Bool:=MJ a.1 b.1||(qi a.1 b.1&&decide (a.2.1<b.2.1))
def Pp(a b:MsgV):Bool:=qi a.1 b.1&&a.2.1==b.2.1
abbrev Qv(l:List MsgV):Prop:=l.Pairwise fun a b=>FR a b=true
def Pq(a b:MsgV):Bool:=qi a.1 b.1&&(a.2.1==b.2.1&&(qi a.2.2.1 b.2.2.1&&(a.2.2.2.1==b.2.2.2.1&&(a.2.2.2.2.1==b.2.2.2.2.1&&(qi a.2.2.2.2.2 b.2.2.2.2.2&&true)))))
def MK(l:List MsgV)(x:MsgV):List MsgV:=l.takeWhile fun y=>FR y x
def ML(l:List MsgV)(x:MsgV):List MsgV:=l.dropWhile fun y=>FR y x
theorem bb(l:List MsgV)(x:MsgV):MK l x++ML l x=l:=List.takeWhile_append_dropWhile
def MM(l:List MsgV)(x:MsgV):Option (List MsgV):=match ML l x with
 |[]=>some (l++[x])
 |y::r=>(match Pp y x with
  |true=>(match Pq y x with
   |true=>some l
   |false=>none)
  |false=>some (MK l x++x::y::r))
def Dx:List MsgV→List MsgV→Option (List MsgV)
 |a,[]=>some a
 |a,x::b=>(match MM a x with
  |some a'=>Dx a' b
  |none=>none)
abbrev Jy:=ByteArray×Int
def Jz(last:Option Jy)(m:MsgV):Bool:=match last with
 |none=>true
 |some g=> !qi g.1 m.1
def After(p:Option MsgV)(l:List MsgV):Prop:=Qv l∧(∀m∈l,1≤m.2.1)∧match p with
 |none=>True
 |some y=>1≤y.2.1∧∀m∈l,FR y m=true
theorem After.tail{p:Option MsgV}{m:MsgV}{r:List MsgV}(h:After p (m::r)):After (some m) r:=by
 obtain⟨h1,h2,_⟩:=h;exact⟨(List.pairwise_cons.1 h1).2,fun x hx=>h2 x (za5 _ hx),h2 m (za4 ..),(List.pairwise_cons.1 h1).1⟩
theorem JA{a b:ByteArray}(h:MJ a b=true):qi a b=false:=by
 cases he:qi a b with
 |false=>rfl
 |true=>rw[sEq_iff.1 he,show MJ b b=false from zF _] at h;cases h
def Last(y:MsgV)(last:Option Jy):Prop:=match last with
 |none=>True
 |some g=>MJ g.1 y.1=true
theorem Last.new{y m:MsgV}{last:Option Jy}(h:Last y last)(hd:qi y.1 m.1=true):Jz last m=true∧Last m last:=by
 cases last with
 |none=>exact⟨rfl,trivial⟩
 |some g=>
  have hg:MJ g.1 y.1=true:=h;rw[sEq_iff.1 hd] at hg;exact⟨by show(!qi g.1 m.1)=true;rw[JA hg];rfl,hg⟩
end Go.Pd
end
section
namespace Go.Pd
open Go Go.Proofs Go.RowKit
set_option maxRecDepth 100000
section
variable {γ:Type}(c:D→Option γ)
theorem g0(pre:List MsgV)(x:MsgV)(r:List MsgV):bc ((pre++x::r).flatMap nZ) (Int.toNat (pre.length:Int)*6+0) c=c (.str x.1):=bX pre x r nZ 6 (fun _=>rfl) 0 (by omega) c
theorem g1(pre:List MsgV)(x:MsgV)(r:List MsgV):bc ((pre++x::r).flatMap nZ) (Int.toNat (pre.length:Int)*6+1) c=c (.int .i64 x.2.1):=bX pre x r nZ 6 (fun _=>rfl) 1 (by omega) c
theorem g2(pre:List MsgV)(x:MsgV)(r:List MsgV):bc ((pre++x::r).flatMap nZ) (Int.toNat (pre.length:Int)*6+2) c=c (.str x.2.2.1):=bX pre x r nZ 6 (fun _=>rfl) 2 (by omega) c
theorem g3(pre:List MsgV)(x:MsgV)(r:List MsgV):bc ((pre++x::r).flatMap nZ) (Int.toNat (pre.length:Int)*6+3) c=c (.int .i64 x.2.2.2.1):=bX pre x r nZ 6 (fun _=>rfl) 3 (by omega) c
theorem g4(pre:List MsgV)(x:MsgV)(r:List MsgV):bc ((pre++x::r).flatMap nZ) (Int.toNat (pre.length:Int)*6+4) c=c (.int .i64 x.2.2.2.2.1):=bX pre x r nZ 6 (fun _=>rfl) 4 (by omega) c
theorem g5(pre:List MsgV)(x:MsgV)(r:List MsgV):bc ((pre++x::r).flatMap nZ) (Int.toNat (pre.length:Int)*6+5) c=c (.str x.2.2.2.2.2):=bX pre x r nZ 6 (fun _=>rfl) 5 (by omega) c
end
theorem FS(x y:Int):fO [x,y]=bo (x !=0) x y:=by
 show bo (x !=0) x (bo (y !=0) y 0)=_
 congr 1
 cases h:y !=0 with
 |true=>rfl
 |false=>simp at h;rw[h];rfl
def MsgV.Fit(m:MsgV):Prop:=m.1.size≤1000∧m.2.2.1.size≤1000
end Go.Pd
end
section
namespace Go.Pd
open Go Go.Proofs
set_option maxRecDepth 100000
end Go.Pd
end
