/-
  Chapter 5: what the cards of all its laws share: the world of the witness.
-/
import Derived.Test.YtanpmgfaieekhaaGreatDoorCards
import Derived.Test.YtanpmgfaieekhaaGreatDoorTie
import Derived.Test.YtanpmgfaieekhaaGreatDoorFmA
import Derived.WalkKit
import Derived.ProofKit
import Derived.OpenShut
import Derived.Deep.DeepHandedRow
import Derived.Lib.LaidTab
section
namespace Go.Proofs.YtanpmgfaieekhaaGreatDoor
open Go Go.ChangeShapes Go.WideShapes Go.ChangeAt Go.RowKit
theorem own : ownKnob Tryz.prog.godebug = none := by kernel_rfl
def numCells : DataW Unit → Array Value
  | .agg l => (l.map fun d => match d with
    | .lit (.int k x) => Value.int k x
    | _ => Value.bool false).toArray
  | _ => #[]
noncomputable def setCells (b : Nat) (d : DataW Unit) (w : World) : World := { w with heap := w.heap.modify b fun
  | .cells _ t frozen => .cells (numCells d) t frozen
  | o => o }
noncomputable def laidWorld (os : Os) : World := setCells 0 Rows.laid_internal_strconv_uint64pow10 (setCells 2 Rows.laid_math_bits_deBruijn64tab (setCells 1 Rows.laid_math_bits_deBruijn32tab (World.holding Tryz.prog os ⟨#[], #[], []⟩)))
theorem laid_met (os : Os) (args : Array Value) : laidMet Tryz.prog Rows.formatGivesRow.laid ((laidWorld os).forCall (fun _ _ => 0) ⟨#[], args, []⟩).memory :=
  laidMet_of_run' 8 (by kernel_rfl) (by kernel_rfl)
theorem laidOut : laidOutB Tryz.prog = true := by kernel_rfl
end Go.Proofs.YtanpmgfaieekhaaGreatDoor
end
