/-
  Chapter 2: the check of a hole, and Locate, by the reference; they say the same.
  Chapter 2: the law of areas, as equations.
  CourseAreas: the plain side.
  CourseAreas: CheckHole, Locate and Length return the results or the errors of the reference.
-/
import Derived.Test.YtmhbhlbnlmbhlaaGreatDoorCrE
import Derived.Test.YtmhbhlbnlmbhlaaGreatDoorCrA
import Derived.KernelRfl
import Derived.Test.YtmhbhlbnlmbhlaaGreatDoorCrI
section
namespace Go.Pd
open Go Go.Proofs Go.RowKit
set_option maxRecDepth 100000

def locR (h : Hl) (p : Pt) : ByteArray × Int := locV (hasR p) h.areas kinds6
end Go.Pd
end

section
namespace Go.Pd
open Go Go.Proofs
set_option maxRecDepth 100000
end Go.Pd
end

section
namespace Go.Pd
open Go Go.Proofs Go.RowKit
set_option maxRecDepth 100000

end Go.Pd
end

section
namespace Go.Pd
open Go Go.Proofs Go.RowKit
set_option maxRecDepth 100000

end Go.Pd
end
