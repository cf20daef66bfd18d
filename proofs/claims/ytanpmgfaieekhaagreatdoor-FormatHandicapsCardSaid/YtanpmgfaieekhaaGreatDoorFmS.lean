/-
  Chapter 5: what functions make of open arguments (printed by the desk's tool, each proved by the kernel): net strokes and states.
  Chapter 5: net strokes and states: their lists, checks, the match by the reference.
  Chapter 5: the match of two lists of net strokes, by the program and by the reference.
  Chapter 5: the reference's texts of small numbers, by the kernel.
  Chapter 5, FormatSides: Sides, the words of a state, the law.
-/
import Derived.Test.YtanpmgfaieekhaaGreatDoorFmA
import Derived.KernelRfl
import Derived.Test.YtanpmgfaieekhaaGreatDoorFmT
import Derived.Test.YtanpmgfaieekhaaGreatDoorFmB
import Derived.Test.YtanpmgfaieekhaaGreatDoorFmD
section
namespace Go.Pd
open Go Go.Proofs
set_option maxRecDepth 100000
def N91 : NTab := fun p => match p with
  | 7 => some { keep := [2, 3], kl := [], ren := [(2, 2), (3, 3)] }
  | _ => none
noncomputable def F91_7 (call : CL) (L : Nat) (C : Nat → Nat) (e : Int) (h : ByteArray) (j : Int) (q : ByteArray) : Option D :=
 cutAt (TEf call L C) O0 N91 FinM.canon Tryz.f91 [true, true] []  (C 7) (St.mk (J :: J :: D.loc 2 0 0 :: D.loc 3 0 0 :: jn 31 []) (Z :: Z :: (1, some (Ob.box [D.int .i64 e, D.str h] false)) :: (1, some (Ob.box [D.int .i64 j, D.str q] false)) :: zn 31 []))
theorem F91_7_eq (call : CL) (L : Nat) (C : Nat → Nat) (e : Int) (h : ByteArray) (j : Int) (q : ByteArray) (hC : ∀ t, C t = 1) : F91_7 call L C  e h j q  =
 (ifK (ByteArray.toList q == ByteArray.toList (ByteArray.mk #[]))
 (ifK (!ByteArray.toList h == ByteArray.toList (ByteArray.mk #[]))
 (some (D.int .i64 (-1)))
 (ifK (decide (j < e))
 (some (D.int .i64 (-1)))
 (some (D.int .i64 0))))
 (some (D.int .i64 0))) := by
  unfold F91_7
  rw [hC]
  kernel_rfl
theorem F91_eq (call : CL) (L : Nat) (C : Nat → Nat) (e : Int) (h : ByteArray) (j : Int) (q : ByteArray) : evFnT (TEf call L C) O0 N91 FinM.canon Tryz.f91 [D.agg [D.int .i64 e, D.str h], D.agg [D.int .i64 j, D.str q]] =
 (ifK (ByteArray.toList h == ByteArray.toList (ByteArray.mk #[]))
 (ifK (!ByteArray.toList q == ByteArray.toList (ByteArray.mk #[]))
 (some (D.int .i64 1))
 (ifK (decide (e < j))
 (some (D.int .i64 1))
 (F91_7 call L C e h j q)))
 (F91_7 call L C e h j q)) := by kernel_rfl
end Go.Pd
end
section
namespace Go.Pd
open Go Go.Proofs Go.RowKit
abbrev NetV := Int × ByteArray
def netD (x : NetV) : List D := [.int .i64 x.1, .str x.2]
abbrev StV := Int × Int × Bool
def stD (s : StV) : List D := [.int .i64 s.1, .int .i64 s.2.1, .bool s.2.2]
section
variable {γ : Type} (c : D → Option γ)
theorem n0 (pre : List NetV) (x : NetV) (r : List NetV) : cellK ((pre ++ x :: r).flatMap netD) (Int.toNat (pre.length : Int) * 2 + 0) c = c (.int .i64 x.1) := cell_row pre x r netD 2 (fun _ => rfl) 0 (by omega) c
theorem n1 (pre : List NetV) (x : NetV) (r : List NetV) : cellK ((pre ++ x :: r).flatMap netD) (Int.toNat (pre.length : Int) * 2 + 1) c = c (.str x.2) := cell_row pre x r netD 2 (fun _ => rfl) 1 (by omega) c
theorem s0 (pre : List StV) (x : StV) (r : List StV) : cellK ((pre ++ x :: r).flatMap stD) (Int.toNat (pre.length : Int) * 3 + 0) c = c (.int .i64 x.1) := cell_row pre x r stD 3 (fun _ => rfl) 0 (by omega) c
theorem s1 (pre : List StV) (x : StV) (r : List StV) : cellK ((pre ++ x :: r).flatMap stD) (Int.toNat (pre.length : Int) * 3 + 1) c = c (.int .i64 x.2.1) := cell_row pre x r stD 3 (fun _ => rfl) 1 (by omega) c
theorem s2 (pre : List StV) (x : StV) (r : List StV) : cellK ((pre ++ x :: r).flatMap stD) (Int.toNat (pre.length : Int) * 3 + 2) c = c (.bool x.2.2) := cell_row pre x r stD 3 (fun _ => rfl) 2 (by omega) c
end
/-! ### The check of net strokes -/
def markX (s : ByteArray) : Bool := ByteArray.toList s == ByteArray.toList (ByteArray.mk #[120])
section
variable (b : Bool) (e x y z : Int)
end
end Go.Pd
end
section
namespace Go.Pd
open Go Go.Proofs Go.RowKit
theorem ok91 (a b : NetV) : OK5 91 [.agg [.int .i64 a.1, .str a.2], .agg [.int .i64 b.1, .str b.2]] (.int .i64 (holeV a.1 a.2 b.1 b.2)) := by
  refine fnT none_ok Tryz.func91 (ord := O0) (N := N91) (by kernel_rfl) ((F91_eq _ _ _ _ _ _ _).trans ?_)
  rw [F91_7_eq _ _ _ _ _ _ _ (fun _ => rfl : ∀ t, C1 t = 1)]
  unfold holeV cmpV emptyB
  have h1 : decide (b.1 > a.1) = decide (a.1 < b.1) := rfl
  rw [h1]
  by_cases hlt : a.1 < b.1
  · have h2 : decide (b.1 < a.1) = false := by simp; omega
    rw [h2, show decide (a.1 < b.1) = true by simpa using hlt]
    cases (ByteArray.toList a.2 == ByteArray.toList (ByteArray.mk #[])) <;> cases (ByteArray.toList b.2 == ByteArray.toList (ByteArray.mk #[])) <;> rfl
  · rw [show decide (a.1 < b.1) = false by simpa using hlt]
    cases decide (b.1 < a.1) <;> cases (ByteArray.toList a.2 == ByteArray.toList (ByteArray.mk #[])) <;> cases (ByteArray.toList b.2 == ByteArray.toList (ByteArray.mk #[])) <;> rfl
end Go.Pd
end
section
namespace Go.Pd
open Go Go.Proofs Go.RowKit
end Go.Pd
end
section
namespace Go.Pd
open Go Go.Proofs Go.RowKit
section
variable {f g : Bool} (l a b : List NetV)
end
section
variable (q : Bool) (e x y z : Int)
end
section
theorem z6 : (ByteArray.mk #[115, 101, 99, 111, 110, 100]).size = 6 := rfl
theorem z5 : (ByteArray.mk #[102, 105, 114, 115, 116]).size = 5 := rfl
theorem z7 : (ByteArray.mk #[115, 101, 99, 111, 110, 100, 32]).size = 7 := rfl
theorem z1 : (ByteArray.mk #[32]).size = 1 := rfl
theorem z3 : (ByteArray.mk #[32, 117, 112]).size = 3 := rfl
end
end Go.Pd
end
