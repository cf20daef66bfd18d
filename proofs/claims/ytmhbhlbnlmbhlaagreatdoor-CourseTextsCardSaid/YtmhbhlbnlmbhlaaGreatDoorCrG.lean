import Derived.Test.YtmhbhlbnlmbhlaaGreatDoorCrC
section
namespace Go.Pd
open Go Go.Proofs
set_option maxRecDepth 100000
theorem UN:sQ Tryz.prog sP listA=true:=by kernel_rfl
theorem tA{f:FuncId}{od:fX}(h:sP f=some od):f∈listA:=by
 unfold sP at h;split at h
 ·cases h
 ·rename_i hc;simpa using hc
theorem iC{l:List sR}(hl:∀e∈l,OK2 e.1 e.2.1 e.2.2){n:Nat}{k:FuncId}{ds:List D}{r:D}(h:Fy (RB l) n k ds=some r):OK2 k ds r:=
 uS (R:=RB l) gd (F3 hl) xk BN (kS F2) kT (fun f od fn _ ho hf=>iT listA UN f (tA ho) od fn ho hf) n k ds r h
theorem ij:∀e∈([]:List sR),OK2 e.1 e.2.1 e.2.2:=fun e he=>by cases he
def VX(a b c d:Int):D:= .agg [.int .i64 a,.int .i64 b,.int .i64 c,.int .i64 d]
def cQ(a b c d:Int)(r:D):sR:=(145,[VX a b c d,pl 0 0,pl 100 0],r)
theorem fR{a b c d:Int}{r:D}(h:Fy (RB []) 20 145 [VX a b c d,pl 0 0,pl 100 0]=some r):OK2 (cQ a b c d r).1 (cQ a b c d r).2.1 (cQ a b c d r).2.2:=iC ij h
def t0:D:= .slc true 0 []
def tq(n d:Int):D:= .slc true 1 [.int .i64 n,.nils,.int .i64 d,.nils]
theorem UO:OK2 (cQ (-10) (-20) 120 (-20) t0).1 (cQ (-10) (-20) 120 (-20) t0).2.1 (cQ (-10) (-20) 120 (-20) t0).2.2:=fR (by kernel_rfl)
theorem UP:OK2 (cQ 120 (-20) 120 20 t0).1 (cQ 120 (-20) 120 20 t0).2.1 (cQ 120 (-20) 120 20 t0).2.2:=fR (by kernel_rfl)
theorem UQ:OK2 (cQ 120 20 (-10) 20 t0).1 (cQ 120 20 (-10) 20 t0).2.1 (cQ 120 20 (-10) 20 t0).2.2:=fR (by kernel_rfl)
theorem UR:OK2 (cQ (-10) 20 (-10) (-20) t0).1 (cQ (-10) 20 (-10) (-20) t0).2.1 (cQ (-10) 20 (-10) (-20) t0).2.2:=fR (by kernel_rfl)
theorem US:OK2 (cQ 10 (-10) 90 (-10) t0).1 (cQ 10 (-10) 90 (-10) t0).2.1 (cQ 10 (-10) 90 (-10) t0).2.2:=fR (by kernel_rfl)
theorem UT:OK2 (cQ 90 (-10) 90 10 (tq 9 10)).1 (cQ 90 (-10) 90 10 (tq 9 10)).2.1 (cQ 90 (-10) 90 10 (tq 9 10)).2.2:=fR (by kernel_rfl)
theorem UU:OK2 (cQ 90 10 10 10 t0).1 (cQ 90 10 10 10 t0).2.1 (cQ 90 10 10 10 t0).2.2:=fR (by kernel_rfl)
theorem UV:OK2 (cQ 10 10 10 (-10) (tq 1 10)).1 (cQ 10 10 10 (-10) (tq 1 10)).2.1 (cQ 10 10 10 (-10) (tq 1 10)).2.2:=fR (by kernel_rfl)
theorem UW:OK2 (cQ 90 (-5) 110 (-5) t0).1 (cQ 90 (-5) 110 (-5) t0).2.1 (cQ 90 (-5) 110 (-5) t0).2.2:=fR (by kernel_rfl)
theorem UX:OK2 (cQ 110 (-5) 110 5 t0).1 (cQ 110 (-5) 110 5 t0).2.1 (cQ 110 (-5) 110 5 t0).2.2:=fR (by kernel_rfl)
theorem Q7:OK2 (cQ 110 5 90 5 t0).1 (cQ 110 5 90 5 t0).2.1 (cQ 110 5 90 5 t0).2.2:=fR (by kernel_rfl)
theorem Q8:OK2 (cQ 90 5 90 (-5) (tq 9 10)).1 (cQ 90 5 90 (-5) (tq 9 10)).2.1 (cQ 90 5 90 (-5) (tq 9 10)).2.2:=fR (by kernel_rfl)
theorem Q9:OK2 (cQ 40 (-20) 50 (-20) t0).1 (cQ 40 (-20) 50 (-20) t0).2.1 (cQ 40 (-20) 50 (-20) t0).2.2:=fR (by kernel_rfl)
theorem Ra:OK2 (cQ 50 (-20) 50 20 (tq 1 2)).1 (cQ 50 (-20) 50 20 (tq 1 2)).2.1 (cQ 50 (-20) 50 20 (tq 1 2)).2.2:=fR (by kernel_rfl)
theorem Rc:OK2 (cQ 50 20 40 20 t0).1 (cQ 50 20 40 20 t0).2.1 (cQ 50 20 40 20 t0).2.2:=fR (by kernel_rfl)
theorem Re:OK2 (cQ 40 20 40 (-20) (tq 2 5)).1 (cQ 40 20 40 (-20) (tq 2 5)).2.1 (cQ 40 20 40 (-20) (tq 2 5)).2.2:=fR (by kernel_rfl)
def Nv:List sR:=[cQ (-10) (-20) 120 (-20) t0,cQ 120 (-20) 120 20 t0,cQ 120 20 (-10) 20 t0,cQ (-10) 20 (-10) (-20) t0,cQ 10 (-10) 90 (-10) t0,cQ 90 (-10) 90 10 (tq 9 10),cQ 90 10 10 10 t0,cQ 10 10 10 (-10) (tq 1 10),cQ 90 (-5) 110 (-5) t0,cQ 110 (-5) 110 5 t0,cQ 110 5 90 5 t0,cQ 90 5 90 (-5) (tq 9 10),cQ 40 (-20) 50 (-20) t0,cQ 50 (-20) 50 20 (tq 1 2),cQ 50 20 40 20 t0,cQ 40 20 40 (-20) (tq 2 5)]
theorem JI:∀e∈Nv,OK2 e.1 e.2.1 e.2.2:=by
 intro e he;simp only[Nv,List.mem_cons,List.not_mem_nil,or_false] at he;rcases he with rfl|rfl|rfl|rfl|rfl|rfl|rfl|rfl|rfl|rfl|rfl|rfl|rfl|rfl|rfl|rfl
 ·exact UO
 ·exact UP
 ·exact UQ
 ·exact UR
 ·exact US
 ·exact UT
 ·exact UU
 ·exact UV
 ·exact UW
 ·exact UX
 ·exact Q7
 ·exact Q8
 ·exact Q9
 ·exact Ra
 ·exact Rc
 ·exact Re
def Nw(k:Nat):List D:=match k with
 |0=>[.int .i64 (-10),.int .i64 (-20),.int .i64 120,.int .i64 (-20),.int .i64 120,.int .i64 20,.int .i64 (-10),.int .i64 20]
 |1=>[.int .i64 10,.int .i64 (-10),.int .i64 90,.int .i64 (-10),.int .i64 90,.int .i64 10,.int .i64 10,.int .i64 10]
 |2=>[.int .i64 90,.int .i64 (-5),.int .i64 110,.int .i64 (-5),.int .i64 110,.int .i64 5,.int .i64 90,.int .i64 5]
 |3=>[.int .i64 40,.int .i64 (-20),.int .i64 50,.int .i64 (-20),.int .i64 50,.int .i64 20,.int .i64 40,.int .i64 20]
 |_=>[]
def dw(k:Nat)(x:Int)(b:Bool):sR:=(154,[.slc true 4 (Nw k),.agg [.int .i64 x,.nils,.int .i64 1,.nils,.int .i64 0,.nils,.int .i64 1,.nils]],.bool b)
theorem g6{k:Nat}{x:Int}{b:Bool}(h:Fy (RB []) 20 154 [.slc true 4 (Nw k),.agg [.int .i64 x,.nils,.int .i64 1,.nils,.int .i64 0,.nils,.int .i64 1,.nils]]=some (.bool b)):OK2 (dw k x b).1 (dw k x b).2.1 (dw k x b).2.2:=iC ij h
theorem UY:OK2 (dw 2 5 false).1 (dw 2 5 false).2.1 (dw 2 5 false).2.2:=g6 (by kernel_rfl)
theorem UZ:OK2 (dw 3 5 false).1 (dw 3 5 false).2.1 (dw 3 5 false).2.2:=g6 (by kernel_rfl)
theorem U0:OK2 (dw 1 5 false).1 (dw 1 5 false).2.1 (dw 1 5 false).2.2:=g6 (by kernel_rfl)
theorem U1:OK2 (dw 0 5 true).1 (dw 0 5 true).2.1 (dw 0 5 true).2.2:=g6 (by kernel_rfl)
theorem U2:OK2 (dw 2 25 false).1 (dw 2 25 false).2.1 (dw 2 25 false).2.2:=g6 (by kernel_rfl)
theorem U3:OK2 (dw 3 25 false).1 (dw 3 25 false).2.1 (dw 3 25 false).2.2:=g6 (by kernel_rfl)
theorem U4:OK2 (dw 1 25 true).1 (dw 1 25 true).2.1 (dw 1 25 true).2.2:=g6 (by kernel_rfl)
end Go.Pd
end
