/-
  Chapter 2: the law of reliefs and the relief of the reference, as equations.
  CourseReliefs: the relief of the reference is that of the program.
  CourseReliefs: Relief returns the place or the error of the reference.
-/
import Derived.Test.YtmhbhlbnlmbhlaaGreatDoorCrA
import Derived.KernelRfl
import Derived.Test.YtmhbhlbnlmbhlaaGreatDoorCrF
import Derived.Test.YtmhbhlbnlmbhlaaGreatDoorCrK
section
namespace Go.Pd
open Go Go.Proofs
set_option maxRecDepth 100000
end Go.Pd
end
section
namespace Go.Pd
open Go Go.Proofs Go.RowKit
set_option maxRecDepth 100000
section
variable {call : CL} {h : Hl} {p : Pt} {kind : ByteArray} {reach : Int}
structure RelC35 (call : CL) (h : Hl) : Prop where
  h47 : ∀ a b : Pt, call 47 [ptD a, ptD b] = some (.int .i64 (sqW a b))
  h24 : ∀ a : Pt, call 24 [ptD a] = some (.int .i64 (ifK (outP a) 3 0))
  h25 : ∀ q : Pt, call 25 [holeD h, ptD q] = some (locD (locR h q))
end
end Go.Pd
end
section
namespace Go.Pd
open Go Go.Proofs Go.RowKit
set_option maxRecDepth 100000
structure Rel2 (S S' : Bool × Pt) : Prop where
  b : S.1 = S'.1
  q : S.1 = true → S.2 = S'.2 ∧ InP S.2
  z : S.1 = false → S.2 = (0, 0)
section
variable {h : Hl} {p : Pt} {kind : ByteArray} {reach : Int}
end
end Go.Pd
end
