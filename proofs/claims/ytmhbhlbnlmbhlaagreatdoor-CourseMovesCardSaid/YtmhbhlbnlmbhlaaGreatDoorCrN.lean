/-
  Chapter 2: calls whose answer may be a nil slice.
  Chapter 2: stations put into rounds by the reference, as equations.
  Chapter 2: rounds of stations by the reference, as equations.
  Chapter 2: the law of upkeep, as equations.
  Chapter 2: a slice turned round, as equations.
  Chapter 2: rows of numbers, tables of numbers, a row turned round.
  Chapter 2: stations put into rounds by the reference; they are those of the program.
  CourseUpkeep: Rotation and Rounds return the results or the errors of the reference.
-/
import Derived.Test.YtmhbhlbnlmbhlaaGreatDoorCrB
import Derived.KernelRfl
import Derived.Test.YtmhbhlbnlmbhlaaGreatDoorCrA
import Derived.Test.YtmhbhlbnlmbhlaaGreatDoorCrF
import Derived.Test.YtmhbhlbnlmbhlaaGreatDoorCrM
import Derived.Test.YtmhbhlbnlmbhlaaGreatDoorCrI
section
namespace Go.Pd
open Go Go.Proofs
end Go.Pd
end
section
namespace Go.Pd
open Go Go.Proofs
set_option maxRecDepth 100000
end Go.Pd
end
section
namespace Go.Pd
open Go Go.Proofs
set_option maxRecDepth 100000
end Go.Pd
end
section
namespace Go.Pd
open Go Go.Proofs
set_option maxRecDepth 100000
end Go.Pd
end
section
namespace Go.Pd
open Go Go.Proofs
set_option maxRecDepth 100000
end Go.Pd
end
section
namespace Go.Pd
open Go Go.Proofs Go.RowKit
set_option maxRecDepth 100000
section
variable {call mu : FuncId → List D → Option D} {te : TypeId} {tn : Nat}
end
/-! ### Steps of printed equations -/
section
variable {α : Type} {r : Option α}
theorem int_step {kd : IntKind} {n : Int} {k : Int → Option α} (h2 : k n = r) : intK kd (.int kd n) k = r := by
  rw [intK_int]
  exact h2
theorem chk_step {b : Bool} {t : Option α} (h : b = true) (h2 : t = r) : chkK b t = r := by
  subst h
  exact h2
theorem opt_step {β : Type} {o : Option β} {x : β} {k : β → Option α} (h : o = some x) (h2 : k x = r) : optK o k = r := by
  subst h
  exact h2
end
end Go.Pd
end
section
namespace Go.Pd
open Go Go.Proofs Go.RowKit
set_option maxRecDepth 100000
/-! ### fill, told of the stations that are left -/
structure FQ (flows : List Int) (rest : List Int) where
  room : List Int
  l : List Int
  h1 : flows.drop l.length = rest
  h2 : l.length ≤ flows.length
  h3 : room.length ≤ 1000
  h4 : Fit 999999999 room
section
variable {call : CL} {ff : Bool} {flows : List Int} {n : Int} {rest room l : List Int} {lf gf : Bool}
end
end Go.Pd
end
section
namespace Go.Pd
open Go Go.Proofs Go.RowKit
set_option maxRecDepth 100000
section
variable {call : CL} {ff : Bool} {flows : List Int} {limit : Int}
end
def famT (k : FuncId) : Fam := ⟨k, {ds : List D // OK2 k ds (.bool true)}, fun x => x.1, fun _ => .bool true⟩
theorem famT_good {k : FuncId} (h : ∀ ds, cstG k ds = none) : (famT k).Good := ⟨fun x => x.2, fun _ _ _ => rfl, fun x => h x.1⟩
end Go.Pd
end
