/-
  Chapter 5: what functions make of open arguments (printed by the desk's tool, each proved by the kernel): FormatGives.
  Chapter 5, FormatGives: the small functions.
  Chapter 5, FormatGives: the holes of a course, checked.
  Chapter 5, FormatGives: the holes of a course, checked by the program, with a map of the indices seen.
  Chapter 5, FormatGives: the program's check of the holes.
  Chapter 5, FormatGives: what the program gives.
  Chapter 5, FormatGives: what the program gives, hole by hole.
  Chapter 5, FormatGives: what the reference gives, stroke by stroke.
  Chapter 5, FormatGives: the law.
-/
import Derived.Test.YtanpmgfaieekhaaGreatDoorFmA
import Derived.KernelRfl
import Derived.Test.YtanpmgfaieekhaaGreatDoorFmB
import Derived.Test.YtanpmgfaieekhaaGreatDoorPdFf
import Derived.Test.YtanpmgfaieekhaaGreatDoorFmD
section
namespace Go.Pd
open Go Go.Proofs
set_option maxRecDepth 100000
def N81 : NTab := fun p => match p with
  | 26 => some { keep := [5, 6, 7], kl := [], ren := [] }
  | _ => none
noncomputable def F81_26 (call : CL) (L : Nat) (C : Nat → Nat) (n : Nat) (q : Bool) (r : Nat) (j : List D) (e h : Int) : Option D :=
 loopAt (TEf call L C) O0 N81 FinM.canon Tryz.f81 [true, false, true, false] []  n (St.mk (jn 5 (D.slc q r j :: D.int .i64 e :: D.int .i64 h :: jn 7 [])) (zn 15 []))
theorem F81_26_eq (call : CL) (L : Nat) (C : Nat → Nat) (n : Nat) (r : Bool) (q : Nat) (j : List D) (h e : Int) : F81_26 call L C  (n + 1) r q j h e =
 (ifK (decide (e < h))
 (chkK (decide (0 ≤ e ∧ e < (q : Int)))
 (cellK j (Int.toNat e * 1) fun d =>
 (intK .i64 d fun x =>
 (ifK (x != 0)
 (some (D.int .i64 x))
 (F81_26 call L C n r q j h (IntKind.wrap .i64 (e + 1)))))))
 (some (D.int .i64 0))) := by kernel_rfl
theorem F81_eq (call : CL) (L : Nat) (C : Nat → Nat) (j : Bool) (e : Nat) (h : List D) : evFnT (TEf call L C) O0 N81 FinM.canon Tryz.f81 [D.slc j e h] =
 (F81_26 call L C L j e h ((e : Int)) 0) := by kernel_rfl
theorem F83_eq (call : CL) (L : Nat) (C : Nat → Nat) (h : Bool) (e : Int) : evFnT (TEf call L C) O0 N0 FinM.canon Tryz.f83 [D.bool h, D.int .i64 e] =
 (ifK h
 (some (D.int .i64 e))
 (some (D.int .i64 0))) := by kernel_rfl
theorem F84_eq (call : CL) (L : Nat) (C : Nat → Nat) (h e : Int) : evFnT (TEf call L C) O0 N0 FinM.canon Tryz.f84 [D.int .i64 h, D.int .i64 e] =
 (ifK (decide (h < IntKind.wrap .i64 (0 - e)))
 (some (D.bool true))
 (some (D.bool (decide (h > e))))) := by kernel_rfl
theorem F86_eq (call : CL) (L : Nat) (C : Nat → Nat) (e : Int) : evFnT (TEf call L C) O0 N0 FinM.canon Tryz.f86 [D.int .i64 e] =
 (ifK (decide (e < -99))
 (some (D.bool true))
 (some (D.bool (decide (e > 99))))) := by kernel_rfl
theorem F128_eq (call : CL) (L : Nat) (C : Nat → Nat) (h e : Int) : evFnT (TEf call L C) O0 N0 FinM.canon Tryz.f128 [D.int .i64 h, D.int .i64 e] =
 (chkK (!decide (e = 0))
 (chkK (!decide (e = 0))
 (ifK (decide (Int.tmod h e < 0))
 (some (D.int .i64 (IntKind.wrap .i64 (IntKind.wrap .i64 (Int.tdiv h e) - 1))))
 (some (D.int .i64 (IntKind.wrap .i64 (Int.tdiv h e))))))) := by kernel_rfl
end Go.Pd
end
section
namespace Go.Pd
open Go Go.Proofs Go.RowKit
abbrev OK5 (k : FuncId) (ds : List D) (r : D) : Prop := CallOK Tryz.prog (fun _ => none) k ds r
theorem fnT {base : FuncId → List D → Option D} (hb : CallsT base) {f : FuncId} {fn : Func} (hf : Tryz.prog.funcs[f]? = some fn) {ord : Ord} {N : NTab} (hok : okFn Tryz.prog ord fn = true) {ds : List D} {r : D}
    (he : evFnT (TEf (callOf base) LL C1) ord N .canon fn ds = some r) : OK5 f ds r := fnS hb sqT_ok hf hok he
theorem callOf_tab {l : List (FuncId × List D × D)} {k : FuncId} {ds : List D} (h : cstG k ds = none) : callOf (tabC l) k ds = tabC l k ds := by
  unfold callOf
  rw [h]
theorem wrap_id {x : Int} (h : -9223372036854775808 ≤ x ∧ x ≤ 9223372036854775807) : IntKind.wrap .i64 x = x := IntWalk.i64_in x h
theorem ok83 (b : Bool) (e : Int) : OK5 83 [.bool b, .int .i64 e] (.int .i64 (ifK b e 0)) :=
  fnT none_ok Tryz.func83 (ord := O0) (N := N0) (by kernel_rfl) ((F83_eq _ _ _ b e).trans (by cases b <;> rfl))
def fst2 (x y : Int) : Int := ifK (x != 0) x y
theorem ok81 (x y : Int) : OK5 81 [.slc true 2 [.int .i64 x, .int .i64 y]] (.int .i64 (fst2 x y)) := by
  refine fnT none_ok Tryz.func81 (ord := O0) (N := N81) (by kernel_rfl) ((F81_eq _ _ _ _ _ _).trans ?_)
  rw [show LL = (4611686018427387901 + 1) + 1 + 1 from rfl, F81_26_eq, F81_26_eq, F81_26_eq]
  have h1 : IntKind.wrap .i64 ((0 : Int) + 1) = 1 := wrap_id (by omega)
  have h2 : IntKind.wrap .i64 ((1 : Int) + 1) = 2 := wrap_id (by omega)
  simp only [h1, h2]
  unfold fst2
  cases hx : (x != 0) with
  | true => simp [cellK, hx]
  | false =>
    cases hy : (y != 0) with
    | true => simp [cellK, hx, hy]
    | false =>
      have : y = 0 := by simpa using hy
      simp [cellK, hx, this]
def outB (h : Int) : Bool := decide (h < -99) || decide (h > 99)
theorem ok86 (h : Int) : OK5 86 [.int .i64 h] (.bool (outB h)) := by
  refine fnT none_ok Tryz.func86 (ord := O0) (N := N0) (by kernel_rfl) ((F86_eq _ _ _ h).trans ?_)
  unfold outB
  cases decide (h < -99) <;> rfl
theorem ok84 (h : Int) : OK5 84 [.int .i64 h, .int .i64 99] (.bool (outB h)) := by
  refine fnT none_ok Tryz.func84 (ord := O0) (N := N0) (by kernel_rfl) ((F84_eq _ _ _ h 99).trans ?_)
  rw [wrap_id (by omega)]
  unfold outB
  rw [show (0 : Int) - 99 = -99 from rfl]
  cases decide (h < -99) <;> rfl
end Go.Pd
end
section
namespace Go.Pd
open Go Go.Proofs Go.RowKit
end Go.Pd
end
section
namespace Go.Pd
open Go Go.Proofs Go.RowKit
end Go.Pd
end
section
namespace Go.Pd
open Go Go.Proofs Go.RowKit
end Go.Pd
end
section
namespace Go.Pd
open Go Go.Proofs Go.RowKit
end Go.Pd
end
section
namespace Go.Pd
open Go Go.Proofs Go.RowKit
end Go.Pd
end
section
namespace Go.Pd
open Go Go.Proofs Go.RowKit
end Go.Pd
end
section
namespace Go.Pd
open Go Go.Proofs Go.RowKit
end Go.Pd
end
