/-
  A slice that is an argument is no longer than the row's reach.
-/
import Derived.Test.YtmhbhlbnlmbhlaaGreatDoorCrK
section
namespace Go.Pd
open Go.RowKit Go.ChangeShapes Go.WideShapes
theorem u8_in {y : Int} (h : (Lit.int .u8 y).wf = true) : 0 ≤ y ∧ y ≤ 255 := by
  have h : (decide (IntKind.min .u8 ≤ y) && decide (y ≤ IntKind.max .u8)) = true := h
  rw [show IntKind.min .u8 = 0 from rfl, show IntKind.max .u8 = 255 from rfl] at h
  simpa using h
end Go.Pd
end
