/-
  Chapter 5: what functions make of open arguments (printed by the desk's tool, each proved by the kernel): FormatGives.
  Chapter 5, FormatGives: the small functions.
  Chapter 5, FormatGives: the holes of a course, checked.
  Chapter 5, FormatGives: the holes of a course, checked by the program, with a map of the indices seen.
  Chapter 5, FormatGives: the program's check of the holes.
  Chapter 5, FormatGives: what the program gives.
  Chapter 5, FormatGives: what the program gives, hole by hole.
  Chapter 5, FormatGives: what the reference gives, stroke by stroke.
  Chapter 5, FormatGives: the law.
-/
import Derived.Test.YtanpmgfaieekhaaGreatDoorFmA
import Derived.KernelRfl
import Derived.Test.YtanpmgfaieekhaaGreatDoorFmB
import Derived.Test.YtanpmgfaieekhaaGreatDoorPdFf
import Derived.Test.YtanpmgfaieekhaaGreatDoorFmD
section
namespace Go.Pd
open Go Go.Proofs
set_option maxRecDepth 100000
def N20 : NTab := fun p => match p with
  | 58 => nm [0,1,5] [] []
  | _ => none
noncomputable def F20_58 (call : CL) (L : Nat) (C : Nat → Nat) (n : Nat) (h : Bool) (i : Nat) (e : List D) (q : Bool) (r : Nat) (j : List D) (z : Int) : Option D :=
 loopAt (TEf call L C) O0 N20 FinM.canon Tryz.f20 (bt 5 11) []  n (St.mk (D.slc h i e :: D.slc q r j :: J :: J :: J :: D.int .i64 z :: jn 20 []) (zn 26 []))
theorem F20_58_eq (call : CL) (L : Nat) (C : Nat → Nat) (n : Nat) (r : Bool) (h : Nat) (i : List D) (z : Bool) (q : Nat) (j : List D) (e : Int) : F20_58 call L C  (n + 1) r h i z q j e =
 (ifK (decide (e < (h : Int)))
 (chkK (decide (0 ≤ e ∧ e < (h : Int)))
 (cellK i (Int.toNat e * 1) fun d => intK .i64 d fun x => chkK (decide (0 ≤ e ∧ e < (q : Int)))
 (cellK j (Int.toNat e * 1) fun B => intK .i64 B fun J => ifK (x != J)
 (some (D.bool false))
 (F20_58 call L C n r h i z q j (IntKind.wrap .i64 (e + 1))))))
 (some (D.bool true))) := by kernel_rfl
theorem F20_eq (call : CL) (L : Nat) (C : Nat → Nat) (j : Bool) (e : Nat) (i : List D) (r : Bool) (h : Nat) (q : List D) : evFnT (TEf call L C) O0 N20 FinM.canon Tryz.f20 [D.slc j e i, D.slc r h q] =
 (ifK ((e : Int) != (h : Int))
 (some (D.bool false))
 (F20_58 call L C L j e i r h q 0)) := by kernel_rfl
def N81 : NTab := fun p => match p with
  | 26 => nm [5,6,7] [] []
  | _ => none
noncomputable def F81_26 (call : CL) (L : Nat) (C : Nat → Nat) (n : Nat) (j : Bool) (q : Nat) (i : List D) (e h : Int) : Option D :=
 loopAt (TEf call L C) O0 N81 FinM.canon Tryz.f81 [true, false, true, false] []  n (St.mk (jn 5 (D.slc j q i :: D.int .i64 e :: D.int .i64 h :: jn 7 [])) (zn 15 []))
theorem F81_26_eq (call : CL) (L : Nat) (C : Nat → Nat) (n : Nat) (q : Bool) (j : Nat) (i : List D) (h e : Int) : F81_26 call L C  (n + 1) q j i h e =
 (ifK (decide (e < h))
 (chkK (decide (0 ≤ e ∧ e < (j : Int)))
 (cellK i (Int.toNat e * 1) fun d => intK .i64 d fun x => ifK (x != 0)
 (some (D.int .i64 x))
 (F81_26 call L C n q j i h (IntKind.wrap .i64 (e + 1)))))
 (some (D.int .i64 0))) := by kernel_rfl
theorem F81_eq (call : CL) (L : Nat) (C : Nat → Nat) (i : Bool) (e : Nat) (h : List D) : evFnT (TEf call L C) O0 N81 FinM.canon Tryz.f81 [D.slc i e h] =
 (F81_26 call L C L i e h ((e : Int)) 0) := by kernel_rfl
theorem F83_eq (call : CL) (L : Nat) (C : Nat → Nat) (h : Bool) (e : Int) : evFnT (TEf call L C) O0 N0 FinM.canon Tryz.f83 [D.bool h, D.int .i64 e] =
 (ifK h
 (some (D.int .i64 e))
 (some (D.int .i64 0))) := by kernel_rfl
theorem F84_eq (call : CL) (L : Nat) (C : Nat → Nat) (h e : Int) : evFnT (TEf call L C) O0 N0 FinM.canon Tryz.f84 [D.int .i64 h, D.int .i64 e] =
 (ifK (decide (h < IntKind.wrap .i64 (0 - e)))
 (some (D.bool true))
 (some (D.bool (decide (h > e))))) := by kernel_rfl
end Go.Pd
end
section
namespace Go.Pd
open Go Go.Proofs Go.RowKit
abbrev OK5 (k : FuncId) (ds : List D) (r : D) : Prop := CallOK Tryz.prog (fun _ => none) k ds r
theorem fnT {base : FuncId → List D → Option D} (hb : CallsT base) {f : FuncId} {fn : Func} (hf : Tryz.prog.funcs[f]? = some fn) {ord : Ord} {N : NTab} (hok : okFn Tryz.prog ord fn = true) {ds : List D} {r : D}
    (he : evFnT (TEf (callOf base) LL C1) ord N .canon fn ds = some r) : OK5 f ds r := fnS hb sqT_ok hf hok he
theorem callOf_tab {l : List (FuncId × List D × D)} {k : FuncId} {ds : List D} (h : cstG k ds = none) : callOf (tabC l) k ds = tabC l k ds := by
  unfold callOf
  rw [h]
theorem wrap_id {x : Int} (h : -9223372036854775808 ≤ x ∧ x ≤ 9223372036854775807) : IntKind.wrap .i64 x = x := IntWalk.i64_in x h
theorem ok83 (b : Bool) (e : Int) : OK5 83 [.bool b, .int .i64 e] (.int .i64 (ifK b e 0)) :=
  fnT none_ok Tryz.func83 (ord := O0) (N := N0) (by kernel_rfl) ((F83_eq _ _ _ b e).trans (by cases b <;> rfl))
def fst2 (x y : Int) : Int := ifK (x != 0) x y
theorem ok81 (x y : Int) : OK5 81 [.slc true 2 [.int .i64 x, .int .i64 y]] (.int .i64 (fst2 x y)) := by
  refine fnT none_ok Tryz.func81 (ord := O0) (N := N81) (by kernel_rfl) ((F81_eq _ _ _ _ _ _).trans ?_)
  rw [show LL = (4611686018427387901 + 1) + 1 + 1 from rfl, F81_26_eq, F81_26_eq, F81_26_eq]
  have h1 : IntKind.wrap .i64 ((0 : Int) + 1) = 1 := wrap_id (by omega)
  have h2 : IntKind.wrap .i64 ((1 : Int) + 1) = 2 := wrap_id (by omega)
  simp only [h1, h2]
  unfold fst2
  cases hx : (x != 0) with
  | true => simp [cellK, hx]
  | false =>
    cases hy : (y != 0) with
    | true => simp [cellK, hx, hy]
    | false =>
      have : y = 0 := by simpa using hy
      simp [cellK, hx, this]
end Go.Pd
end
section
namespace Go.Pd
open Go Go.Proofs Go.RowKit
end Go.Pd
end
section
namespace Go.Pd
open Go Go.Proofs Go.RowKit
end Go.Pd
end
section
namespace Go.Pd
open Go Go.Proofs Go.RowKit
end Go.Pd
end
section
namespace Go.Pd
open Go Go.Proofs Go.RowKit
def tabF (v : Nat → Int) : Nat → List D
  | 0 => []
  | i + 1 => tabF v i ++ [.int .i64 (v i)]
theorem tabF_len (v : Nat → Int) : ∀ n, (tabF v n).length = n
  | 0 => rfl
  | n + 1 => by simp [tabF, tabF_len v n]
theorem tabF_get (v : Nat → Int) : ∀ (n i : Nat), i < n → (tabF v n)[i]? = some (.int .i64 (v i))
  | n + 1, i, h => by
    unfold tabF
    by_cases hi : i < n
    · rw [List.getElem?_append_left (by rw [tabF_len]; exact hi)]
      exact tabF_get v n i hi
    · have : i = n := by omega
      subst this
      rw [List.getElem?_append_right (by rw [tabF_len]; omega), tabF_len]
      simp
end Go.Pd
end
section
namespace Go.Pd
open Go Go.Proofs Go.RowKit
end Go.Pd
end
section
namespace Go.Pd
open Go Go.Proofs Go.RowKit
end Go.Pd
end
section
namespace Go.Pd
open Go Go.Proofs Go.RowKit
theorem tup2 {γ : Type} (a b : D) (c : List D → Option γ) : tupK (.tup [a, b]) 2 c = c [a, b] := rfl
theorem go20 {call : CL} {f g : Bool} {n : Nat} (v : Nat → Int) (hn : n ≤ 1000) : ∀ (m i fuel : Nat), i + m = n → m < fuel → F20_58 call LL C1 fuel f n (tabF v n) g n (tabF v n) i = some (.bool true)
  | 0, i, fuel + 1, hi, _ => by
    rw [F20_58_eq]
    have h1 : decide ((i : Int) < n) = false := by simp; omega
    rw [h1, ifK_false]
  | m + 1, i, fuel + 1, hi, hf => by
    rw [F20_58_eq]
    have h1 : decide ((i : Int) < n) = true := by simp; omega
    have h2 : decide ((0 : Int) ≤ i ∧ (i : Int) < n) = true := by simp; omega
    have e1 : Int.toNat (i : Int) = i := by simp
    have hg : (tabF v n)[i * 1]? = some (.int .i64 (v i)) := by rw [Nat.mul_one]; exact tabF_get v n i (by omega)
    have hw : IntKind.wrap .i64 ((i : Int) + 1) = ((i + 1 : Nat) : Int) := by rw [wrap_id (by omega)]; rfl
    rw [h1, ifK_true, h2, chkK_true, e1, cellK_some hg, intK_int, chkK_true, cellK_some hg, intK_int, show (v i != v i) = false by simp, ifK_false, hw]
    exact go20 v hn m (i + 1) fuel (by omega) (by omega)
theorem ok20 {f g : Bool} {n : Nat} (v : Nat → Int) (hn : n ≤ 1000) : OK5 20 [.slc f n (tabF v n), .slc g n (tabF v n)] (.bool true) := by
  refine fnT none_ok Tryz.func20 (ord := O0) (N := N20) (by kernel_rfl) ((F20_eq _ _ _ _ _ _ _ _ _).trans ?_)
  rw [show ((n : Int) != n) = false by simp, ifK_false]
  exact go20 v hn n 0 LL (by omega) (by unfold LL; omega)
theorem ok20n : OK5 20 [.slc true 0 [], .nils] (.bool true) := CallOK.canon (ok20 (f := true) (g := true) (n := 0) (fun _ => 0) (by omega))
end Go.Pd
end
