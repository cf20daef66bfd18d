/-
  Chapter 2: a slice turned round, as equations.
  Chapter 2: rows of numbers, tables of numbers, a row turned round.
-/
import Derived.Test.YtmhbhlbnlmbhlaaGreatDoorCrA
import Derived.KernelRfl
import Derived.Test.YtmhbhlbnlmbhlaaGreatDoorCrF
section
namespace Go.Pd
open Go Go.Proofs
set_option maxRecDepth 100000
end Go.Pd
end
section
namespace Go.Pd
open Go Go.Proofs Go.RowKit
set_option maxRecDepth 100000
section
variable {call mu : FuncId → List D → Option D} {te : TypeId} {tn : Nat}
end
/-! ### Steps of printed equations -/
section
variable {α : Type} {r : Option α}
theorem cell_step {cs : List D} {i : Nat} {d : D} {k : D → Option α} (h : cs[i]? = some d) (h2 : k d = r) : cellK cs i k = r := (cellK_some h k).trans h2
theorem int_step {kd : IntKind} {n : Int} {k : Int → Option α} (h2 : k n = r) : intK kd (.int kd n) k = r := by
  rw [intK_int]
  exact h2
theorem chk_step {b : Bool} {t : Option α} (h : b = true) (h2 : t = r) : chkK b t = r := by
  subst h
  exact h2
theorem opt_step {β : Type} {o : Option β} {x : β} {k : β → Option α} (h : o = some x) (h2 : k x = r) : optK o k = r := by
  subst h
  exact h2
theorem slc_step {f : Bool} {n : Nat} {cs : List D} {k : Bool → Nat → List D → Option α} (h2 : k f n cs = r) : slcK (.slc f n cs) k = r := h2
end
end Go.Pd
end
