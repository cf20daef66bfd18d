/-
  Chapter 5: the fixed examples.
-/
import Derived.Test.YtanpmgfaieekhaaGreatDoorFmA
import Derived.KernelRfl
section
namespace Go.Pd
open Go Go.Proofs
theorem awake_ev : evA 16 [] = some (.bool true) := by kernel_rfl
end Go.Pd
end
