/-
  Chapter 5: what functions make of open arguments (printed by the desk's tool, each proved by the kernel): scores.
  Chapter 5: net strokes by the reference; scores of a player.
  Chapter 5: points and results against par; what the scores of a player are.
  Chapter 5: what is answered of a player.
-/
import Derived.Test.YtanpmgfaieekhaaGreatDoorFmA
import Derived.KernelRfl
import Derived.Test.YtanpmgfaieekhaaGreatDoorFmC1
import Derived.Test.YtanpmgfaieekhaaGreatDoorFmS
import Derived.Test.YtanpmgfaieekhaaGreatDoorFmT
section
namespace Go.Pd
open Go Go.Proofs
set_option maxRecDepth 100000
end Go.Pd
end
section
namespace Go.Pd
open Go Go.Proofs Go.RowKit
end Go.Pd
end
section
namespace Go.Pd
open Go Go.Proofs Go.RowKit
section
variable {f g : Bool} {n : Nat} {c : List D} {P S : Nat → Int}
end
end Go.Pd
end
section
namespace Go.Pd
open Go Go.Proofs Go.RowKit
section
variable {f g : Bool} {n : Nat} {c : List D} {P S : Nat → Int}
theorem callOf_b {b : FuncId → List D → Option D} {k : FuncId} {ds : List D} (h : cstG k ds = none) : callOf b k ds = b k ds := by
  unfold callOf
  rw [h]
end
end Go.Pd
end
