/-
  Chapter 5: what functions make of open arguments (printed by the desk's tool, each proved by the kernel): net strokes and states.
  Chapter 5: net strokes and states: their lists, checks, the match by the reference.
  Chapter 5: the match of two lists of net strokes, by the program and by the reference.
  Chapter 5: the reference's texts of small numbers, by the kernel.
  Chapter 5, FormatSides: Sides, the words of a state, the law.
-/
import Derived.Test.YtanpmgfaieekhaaGreatDoorFmA
import Derived.KernelRfl
import Derived.Test.YtanpmgfaieekhaaGreatDoorFmT
import Derived.Test.YtanpmgfaieekhaaGreatDoorFmB
import Derived.Test.YtanpmgfaieekhaaGreatDoorFmD
section
namespace Go.Pd
open Go Go.Proofs
set_option maxRecDepth 100000
end Go.Pd
end

section
namespace Go.Pd
open Go Go.Proofs Go.RowKit

/-- The net strokes of a hole: a number and a mark. -/
abbrev NetV := Int × ByteArray
def netD (x : NetV) : List D := [.int .i64 x.1, .str x.2]
/-- A state of a match: up, to play, over. -/
abbrev StV := Int × Int × Bool
def stD (s : StV) : List D := [.int .i64 s.1, .int .i64 s.2.1, .bool s.2.2]
theorem room24 {i : Nat} (h : i ≤ 1000000) : decide ((i + 1) * 24 ≤ limit ∧ i + 1 ≤ 9223372036854775807) = true := by
  simp only [decide_eq_true_eq]
  rw [show limit = 140737488355328 from rfl]
  omega
section
variable {γ : Type} (c : D → Option γ)
theorem n0 (pre : List NetV) (x : NetV) (r : List NetV) : cellK ((pre ++ x :: r).flatMap netD) (Int.toNat (pre.length : Int) * 2 + 0) c = c (.int .i64 x.1) := cell_row pre x r netD 2 (fun _ => rfl) 0 (by omega) c
theorem n1 (pre : List NetV) (x : NetV) (r : List NetV) : cellK ((pre ++ x :: r).flatMap netD) (Int.toNat (pre.length : Int) * 2 + 1) c = c (.str x.2) := cell_row pre x r netD 2 (fun _ => rfl) 1 (by omega) c
theorem s0 (pre : List StV) (x : StV) (r : List StV) : cellK ((pre ++ x :: r).flatMap stD) (Int.toNat (pre.length : Int) * 3 + 0) c = c (.int .i64 x.1) := cell_row pre x r stD 3 (fun _ => rfl) 0 (by omega) c
theorem s1 (pre : List StV) (x : StV) (r : List StV) : cellK ((pre ++ x :: r).flatMap stD) (Int.toNat (pre.length : Int) * 3 + 1) c = c (.int .i64 x.2.1) := cell_row pre x r stD 3 (fun _ => rfl) 1 (by omega) c
theorem s2 (pre : List StV) (x : StV) (r : List StV) : cellK ((pre ++ x :: r).flatMap stD) (Int.toNat (pre.length : Int) * 3 + 2) c = c (.bool x.2.2) := cell_row pre x r stD 3 (fun _ => rfl) 2 (by omega) c
end

/-- A list that grows from nil. -/
def owR {α : Type} (g : α → List D) : List α → Ow
  | [] => .nil
  | x :: l => .own (l.length + 1) ((x :: l).flatMap g)
/-- A list that is handed back: nil, if nothing came. -/
def slR {α : Type} (g : α → List D) (l : List α) : D := .slc l.isEmpty l.length (l.flatMap g)
/-! ### The check of net strokes -/
def markX (s : ByteArray) : Bool := ByteArray.toList s == ByteArray.toList (ByteArray.mk #[120])
section
variable (b : Bool) (e x y z : Int)
end
end Go.Pd
end

section
namespace Go.Pd
open Go Go.Proofs Go.RowKit

end Go.Pd
end

section
namespace Go.Pd
open Go Go.Proofs Go.RowKit
end Go.Pd
end

section
namespace Go.Pd
open Go Go.Proofs Go.RowKit

section
variable {f g : Bool} (l a b : List NetV)
end
section
variable (q : Bool) (e x y z : Int)
end
section
theorem z5 : (ByteArray.mk #[102, 105, 114, 115, 116]).size = 5 := rfl
theorem z1 : (ByteArray.mk #[32]).size = 1 := rfl
theorem z3 : (ByteArray.mk #[32, 117, 112]).size = 3 := rfl
end
end Go.Pd
end
