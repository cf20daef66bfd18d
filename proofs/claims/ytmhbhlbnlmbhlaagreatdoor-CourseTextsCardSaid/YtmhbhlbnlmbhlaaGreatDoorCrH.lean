import Derived.Test.YtmhbhlbnlmbhlaaGreatDoorCrG
import Derived.Test.YtmhbhlbnlmbhlaaGreatDoorCrE
section
namespace Go.Pd
open Go Go.Proofs
set_option maxRecDepth 100000
theorem U5:OK2 (dw 2 45 false).1 (dw 2 45 false).2.1 (dw 2 45 false).2.2:=g6 (by kernel_rfl)
theorem U6:OK2 (dw 3 45 true).1 (dw 3 45 true).2.1 (dw 3 45 true).2.2:=g6 (by kernel_rfl)
theorem U7:OK2 (dw 2 70 false).1 (dw 2 70 false).2.1 (dw 2 70 false).2.2:=g6 (by kernel_rfl)
theorem Rf:OK2 (dw 3 70 false).1 (dw 3 70 false).2.1 (dw 3 70 false).2.2:=g6 (by kernel_rfl)
theorem Rg:OK2 (dw 1 70 true).1 (dw 1 70 true).2.1 (dw 1 70 true).2.2:=g6 (by kernel_rfl)
theorem Rh:OK2 (dw 2 95 true).1 (dw 2 95 true).2.1 (dw 2 95 true).2.2:=g6 (by kernel_rfl)
def Nx:List sR:=[dw 2 5 false,dw 3 5 false,dw 1 5 false,dw 0 5 true,dw 2 25 false,dw 3 25 false,dw 1 25 true,dw 2 45 false,dw 3 45 true,dw 2 70 false,dw 3 70 false,dw 1 70 true,dw 2 95 true]
theorem JJ:∀e∈Nx,OK2 e.1 e.2.1 e.2.2:=by
 intro e he;simp only[Nx,List.mem_cons,List.not_mem_nil,or_false] at he;rcases he with rfl|rfl|rfl|rfl|rfl|rfl|rfl|rfl|rfl|rfl|rfl|rfl|rfl
 ·exact UY
 ·exact UZ
 ·exact U0
 ·exact U1
 ·exact U2
 ·exact U3
 ·exact U4
 ·exact U5
 ·exact U6
 ·exact U7
 ·exact Rf
 ·exact Rg
 ·exact Rh
def U8:List D:=[.int .i64 0,.nils,.int .i64 1,.nils,.int .i64 1,.nils,.int .i64 10,.nils,S [114,111,117,103,104],
 .int .i64 1,.nils,.int .i64 10,.nils,.int .i64 2,.nils,.int .i64 5,.nils,S [102,97,105,114,119,97,121],
 .int .i64 2,.nils,.int .i64 5,.nils,.int .i64 1,.nils,.int .i64 2,.nils,S [119,97,116,101,114],
 .int .i64 1,.nils,.int .i64 2,.nils,.int .i64 9,.nils,.int .i64 10,.nils,S [102,97,105,114,119,97,121],
 .int .i64 9,.nils,.int .i64 10,.nils,.int .i64 1,.nils,.int .i64 1,.nils,S [103,114,101,101,110]]
def hA:Hl:=⟨ByteArray.mk #[111,110,101],(0,0),(100,0),true,[],true,[
 (ByteArray.mk #[114,111,117,103,104],true,[(-10,-20),(120,-20),(120,20),(-10,20)]),
 (ByteArray.mk #[102,97,105,114,119,97,121],true,[(10,-10),(90,-10),(90,10),(10,10)]),
 (ByteArray.mk #[103,114,101,101,110],true,[(90,-5),(110,-5),(110,5),(90,5)]),
 (ByteArray.mk #[119,97,116,101,114],true,[(40,-20),(50,-20),(50,20),(40,20)])]⟩
theorem DA:hA.Ok:=⟨by decide,by decide,by decide,by decide⟩
theorem U9:cv hA=0:=by kernel_rfl
theorem Ny:OK2 21 [fq] (.int .i64 0):=by
 have h:=Ge hA DA;rw[U9] at h;exact h
def fr(a b:Int):D:= .agg [.int .i64 a,.nils,.int .i64 b,.nils]
theorem eO{x:sR}{l:List sR}(h:Fy (RB []) 20 x.1 x.2.1=some x.2.2)(hl:∀e∈l,OK2 e.1 e.2.1 e.2.2):∀e∈x::l,OK2 e.1 e.2.1 e.2.2:=fun e he=>by
 rcases List.mem_cons.1 he with rfl|he
 ·exact iC ij h
 ·exact hl e he
theorem BZ{l m:List sR}(h:∀e∈l,OK2 e.1 e.2.1 e.2.2)(hm:∀e∈m,OK2 e.1 e.2.1 e.2.2):∀e∈l++m,OK2 e.1 e.2.1 e.2.2:=fun e he=>by
 rcases za9.1 he with he|he
 ·exact h e he
 ·exact hm e he
def Rk:List sR:=[(150,[fr 0 1,fr 1 10],fr 1 10),(151,[fr 1 10,fr 2 1],fr 1 20),(152,[fr 1 20,fr 100 1],fr 5 1),(150,[fr 0 1,fr 5 1],fr 5 1),(152,[fr 1 20,fr 0 1],fr 0 1),(150,[fr 0 1,fr 0 1],fr 0 1)]
theorem JK:∀e∈Rk,OK2 e.1 e.2.1 e.2.2:=eO (by kernel_rfl) (eO (by kernel_rfl) (eO (by kernel_rfl) (eO (by kernel_rfl) (eO (by kernel_rfl) (eO (by kernel_rfl) (ij))))))
def Ro:List sR:=[(150,[fr 1 10,fr 2 5],fr 1 2),(151,[fr 1 2,fr 2 1],fr 1 4),(152,[fr 1 4,fr 100 1],fr 25 1),(150,[fr 0 1,fr 25 1],fr 25 1),(152,[fr 1 4,fr 0 1],fr 0 1)]
theorem JL:∀e∈Ro,OK2 e.1 e.2.1 e.2.2:=eO (by kernel_rfl) (eO (by kernel_rfl) (eO (by kernel_rfl) (eO (by kernel_rfl) (eO (by kernel_rfl) (ij)))))
def Rp:List sR:=[(150,[fr 2 5,fr 1 2],fr 9 10),(151,[fr 9 10,fr 2 1],fr 9 20),(152,[fr 9 20,fr 100 1],fr 45 1),(150,[fr 0 1,fr 45 1],fr 45 1),(152,[fr 9 20,fr 0 1],fr 0 1)]
theorem JM:∀e∈Rp,OK2 e.1 e.2.1 e.2.2:=eO (by kernel_rfl) (eO (by kernel_rfl) (eO (by kernel_rfl) (eO (by kernel_rfl) (eO (by kernel_rfl) (ij)))))
def Rq:List sR:=[(150,[fr 1 2,fr 9 10],fr 7 5),(151,[fr 7 5,fr 2 1],fr 7 10),(152,[fr 7 10,fr 100 1],fr 70 1),(150,[fr 0 1,fr 70 1],fr 70 1),(152,[fr 7 10,fr 0 1],fr 0 1)]
theorem JN:∀e∈Rq,OK2 e.1 e.2.1 e.2.2:=eO (by kernel_rfl) (eO (by kernel_rfl) (eO (by kernel_rfl) (eO (by kernel_rfl) (eO (by kernel_rfl) (ij)))))
def Rr:List sR:=[(150,[fr 9 10,fr 1 1],fr 19 10),(151,[fr 19 10,fr 2 1],fr 19 20),(152,[fr 19 20,fr 100 1],fr 95 1),(150,[fr 0 1,fr 95 1],fr 95 1),(152,[fr 19 20,fr 0 1],fr 0 1)]
theorem JO:∀e∈Rr,OK2 e.1 e.2.1 e.2.2:=eO (by kernel_rfl) (eO (by kernel_rfl) (eO (by kernel_rfl) (eO (by kernel_rfl) (eO (by kernel_rfl) (ij)))))
def E0:List sR:=[(21,[fq],.int .i64 0)]++(Nv++(Nx++(Rk++(Ro++(Rp++(Rq++Rr))))))
theorem Rs:∀e∈E0,OK2 e.1 e.2.1 e.2.2:=BZ (fun e he=>by rw[zd4.1 he];exact Ny) (BZ JI (BZ JJ (BZ JK (BZ JL (BZ JM (BZ JN JO))))))
theorem V5:Fy (RB E0) 30 91 [fq,pl 0 0,pl 100 0]=some (.slc false 5 U8):=by kernel_rfl
theorem Va:OK2 91 [fq,pl 0 0,pl 100 0] (.slc false 5 U8):=iC Rs V5
end Go.Pd
end
