/-
  Chapter 2: the rotation by the program, as equations.
  Chapter 2: the rotation of a hole by the program.
  Chapter 2: upkeep by the reference, as equations.
  Chapter 2: the errors of rotations and rounds by the reference.
  Chapter 2: the rotation by the reference.
  Chapter 2: the rotation of the program is that of the reference.
-/
import Derived.Test.YtmhbhlbnlmbhlaaGreatDoorCrA
import Derived.KernelRfl
import Derived.Test.YtmhbhlbnlmbhlaaGreatDoorCrF
import Derived.Test.YtmhbhlbnlmbhlaaGreatDoorCrL
section
namespace Go.Pd
open Go Go.Proofs
set_option maxRecDepth 100000
end Go.Pd
end
section
namespace Go.Pd
open Go Go.Proofs Go.RowKit
set_option maxRecDepth 100000
theorem getD_some {w : List Int} {i : Nat} (h : i < w.length) : w[i]? = some (w.getD i 0) := by
  rw [List.getD_eq_getElem?_getD, List.getElem?_eq_getElem h]
  rfl
section
variable {call : CL} {f : Bool} {l : List Pt} {radius days : Int} {w all : List Int}
end
end Go.Pd
end
section
namespace Go.Pd
open Go Go.Proofs
set_option maxRecDepth 100000
end Go.Pd
end
section
namespace Go.Pd
open Go Go.Proofs Go.RowKit
set_option maxRecDepth 100000
section
variable {call : CL} {f : Bool} {l : List Pt} {radius days : Int}
end
end Go.Pd
end
section
namespace Go.Pd
open Go Go.Proofs Go.RowKit
set_option maxRecDepth 100000
section
variable {call : CL} {f : Bool} {l : List Pt} {radius days : Int} {out : List Int}
end
end Go.Pd
end
section
namespace Go.Pd
open Go Go.Proofs Go.RowKit
set_option maxRecDepth 100000
end Go.Pd
end
