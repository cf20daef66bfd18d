/-
  Chapter 2: conditions, checked, as equations.
  Chapter 2: the least days of jobs, or a contradiction, by the program.
  Chapter 2: what relax answers: the days, or a cycle that is a contradiction.
  Chapter 2: conditions and cycles, checked by the program and by the reference.
  Chapter 2: cycles of conditions, checked by the program and by the reference.
  Chapter 2: the least days by the reference.
  Chapter 2: days and cycles by the program, and the law of days, as equations.
  CourseDays: Earliest, Conflict and CheckConflict return the results or the errors of the reference.
  CourseDays: the law.
  Chapter 2: conditions, laid open.
-/
import Derived.Test.YtmhbhlbnlmbhlaaGreatDoorCrA
import Derived.KernelRfl
import Derived.Test.YtmhbhlbnlmbhlaaGreatDoorCrN
import Derived.Test.YtmhbhlbnlmbhlaaGreatDoorCrF
import Derived.Test.YtmhbhlbnlmbhlaaGreatDoorCrI
section
namespace Go.Pd
open Go Go.Proofs
set_option maxRecDepth 100000
def N57 : NTab := fun p => match p with
  | 7 => some { keep := [0, 1], kl := [], ren := [] }
  | 122 => some { keep := [0, 1, 5], kl := [], ren := [] }
  | 979 => some { keep := [0, 1, 5], kl := [], ren := [] }
  | 3913 => some { keep := [0, 1, 5], kl := [], ren := [] }
  | _ => none
noncomputable def F57_979 (call : FuncId → List D → Option D) (L : Nat) (C : Nat → Nat) (n_1 : Nat) (vjobs : Int) (vl_f : Bool) (vl_n : Nat) (vl_c : List D) (vi : Int) : Option D :=
  cutAt (TEf call L C) O0 N57 FinM.canon Tryz.f57 [true, true, true, false, true, false, false, true, true] [n_1]  (C 979) (St.mk [D.int IntKind.i64 vjobs, D.slc vl_f vl_n vl_c, J, J, J, D.int IntKind.i64 vi, J, J, J, J, J, J, J, J, J, J, J, J, J, J, J, J, J, J, J, J, J, J, J, J, J, J, J, J, J, J, J, J, J, J, J, J, J, J, J, J, J, J, J, J, J, J, J, J, J, J, J, J, J, J, J, J, J, J, J, J, J] [Z, Z, Z, Z, Z, Z, Z, Z, Z, Z, Z, Z, Z, Z, Z, Z, Z, Z, Z, Z, Z, Z, Z, Z, Z, Z, Z, Z, Z, Z, Z, Z, Z, Z, Z, Z, Z, Z, Z, Z, Z, Z, Z, Z, Z, Z, Z, Z, Z, Z, Z, Z, Z, Z, Z, Z, Z, Z, Z, Z, Z, Z, Z, Z, Z, Z, Z])
noncomputable def F57_3913 (call : FuncId → List D → Option D) (L : Nat) (C : Nat → Nat) (n_1 : Nat) (vjobs : Int) (vl_f : Bool) (vl_n : Nat) (vl_c : List D) (vi : Int) : Option D :=
  cutAt (TEf call L C) O0 N57 FinM.canon Tryz.f57 [true, true, true, false, true, false, false, true, false, false, true] [n_1]  (C 3913) (St.mk [D.int IntKind.i64 vjobs, D.slc vl_f vl_n vl_c, J, J, J, D.int IntKind.i64 vi, J, J, J, J, J, J, J, J, J, J, J, J, J, J, J, J, J, J, J, J, J, J, J, J, J, J, J, J, J, J, J, J, J, J, J, J, J, J, J, J, J, J, J, J, J, J, J, J, J, J, J, J, J, J, J, J, J, J, J, J, J] [Z, Z, Z, Z, Z, Z, Z, Z, Z, Z, Z, Z, Z, Z, Z, Z, Z, Z, Z, Z, Z, Z, Z, Z, Z, Z, Z, Z, Z, Z, Z, Z, Z, Z, Z, Z, Z, Z, Z, Z, Z, Z, Z, Z, Z, Z, Z, Z, Z, Z, Z, Z, Z, Z, Z, Z, Z, Z, Z, Z, Z, Z, Z, Z, Z, Z, Z])
noncomputable def F57_122 (call : FuncId → List D → Option D) (L : Nat) (C : Nat → Nat) (n_1 : Nat) (vjobs : Int) (vl_f : Bool) (vl_n : Nat) (vl_c : List D) (vi : Int) : Option D :=
  loopAt (TEf call L C) O0 N57 FinM.canon Tryz.f57 [true, true, true, false, true, false] []  n_1 (St.mk [D.int IntKind.i64 vjobs, D.slc vl_f vl_n vl_c, J, J, J, D.int IntKind.i64 vi, J, J, J, J, J, J, J, J, J, J, J, J, J, J, J, J, J, J, J, J, J, J, J, J, J, J, J, J, J, J, J, J, J, J, J, J, J, J, J, J, J, J, J, J, J, J, J, J, J, J, J, J, J, J, J, J, J, J, J, J, J] [Z, Z, Z, Z, Z, Z, Z, Z, Z, Z, Z, Z, Z, Z, Z, Z, Z, Z, Z, Z, Z, Z, Z, Z, Z, Z, Z, Z, Z, Z, Z, Z, Z, Z, Z, Z, Z, Z, Z, Z, Z, Z, Z, Z, Z, Z, Z, Z, Z, Z, Z, Z, Z, Z, Z, Z, Z, Z, Z, Z, Z, Z, Z, Z, Z, Z, Z])
noncomputable def F57_7 (call : FuncId → List D → Option D) (L : Nat) (C : Nat → Nat) (vjobs : Int) (vl_f : Bool) (vl_n : Nat) (vl_c : List D) : Option D :=
  cutAt (TEf call L C) O0 N57 FinM.canon Tryz.f57 [true, true] []  (C 7) (St.mk [D.int IntKind.i64 vjobs, D.slc vl_f vl_n vl_c, J, J, J, J, J, J, J, J, J, J, J, J, J, J, J, J, J, J, J, J, J, J, J, J, J, J, J, J, J, J, J, J, J, J, J, J, J, J, J, J, J, J, J, J, J, J, J, J, J, J, J, J, J, J, J, J, J, J, J, J, J, J, J, J, J] [Z, Z, Z, Z, Z, Z, Z, Z, Z, Z, Z, Z, Z, Z, Z, Z, Z, Z, Z, Z, Z, Z, Z, Z, Z, Z, Z, Z, Z, Z, Z, Z, Z, Z, Z, Z, Z, Z, Z, Z, Z, Z, Z, Z, Z, Z, Z, Z, Z, Z, Z, Z, Z, Z, Z, Z, Z, Z, Z, Z, Z, Z, Z, Z, Z, Z, Z])
theorem F57_979_eq (call : FuncId → List D → Option D) (L : Nat) (C : Nat → Nat) (n_1 : Nat) (vjobs : Int) (vl_f : Bool) (vl_n : Nat) (vl_c : List D) (vi : Int) (hC : ∀ t, C t = 1) : F57_979 call L C n_1 vjobs vl_f vl_n vl_c vi  =
  (F57_122 call L C n_1 vjobs vl_f vl_n vl_c (IntKind.wrap IntKind.i64 (vi + 1))) := by
  unfold F57_979
  rw [hC]
  kernel_rfl
theorem F57_3913_eq (call : FuncId → List D → Option D) (L : Nat) (C : Nat → Nat) (n_1 : Nat) (vjobs : Int) (vl_f : Bool) (vl_n : Nat) (vl_c : List D) (vi : Int) (hC : ∀ t, C t = 1) : F57_3913 call L C n_1 vjobs vl_f vl_n vl_c vi  =
  (chkK (decide (0 ≤ vi ∧ vi < (vl_n : Int)))
    (cellK (vl_c) (Int.toNat vi * 3 + 2) fun d_4 =>
    (intK IntKind.i64 (d_4) fun x_4 =>
    (ifK (decide (x_4 < -10000))
      (some (D.int IntKind.i64 3))
      (chkK (decide (0 ≤ vi ∧ vi < (vl_n : Int)))
        (cellK (vl_c) (Int.toNat vi * 3 + 2) fun d_5 =>
        (intK IntKind.i64 (d_5) fun x_5 =>
        (ifK (decide (x_5 > 10000))
          (some (D.int IntKind.i64 3))
          (F57_979 call L C n_1 vjobs vl_f vl_n vl_c vi))))))))) := by
  unfold F57_3913
  rw [hC]
  kernel_rfl
theorem F57_122_eq (call : FuncId → List D → Option D) (L : Nat) (C : Nat → Nat) (n_1 : Nat) (vjobs : Int) (vl_f : Bool) (vl_n : Nat) (vl_c : List D) (vi : Int) : F57_122 call L C  (n_1 + 1) vjobs vl_f vl_n vl_c (vi) =
  (ifK (decide (vi < (vl_n : Int)))
    (chkK (decide (0 ≤ vi ∧ vi < (vl_n : Int)))
      (cellK (vl_c) (Int.toNat vi * 3 + 0) fun d =>
      (intK IntKind.i64 (d) fun x =>
      (ifK (decide (x < 0))
        (some (D.int IntKind.i64 10))
        (chkK (decide (0 ≤ vi ∧ vi < (vl_n : Int)))
          (cellK (vl_c) (Int.toNat vi * 3 + 0) fun d_1 =>
          (intK IntKind.i64 (d_1) fun x_1 =>
          (ifK (decide (x_1 ≥ vjobs))
            (some (D.int IntKind.i64 10))
            (chkK (decide (0 ≤ vi ∧ vi < (vl_n : Int)))
              (cellK (vl_c) (Int.toNat vi * 3 + 1) fun d_2 =>
              (intK IntKind.i64 (d_2) fun x_2 =>
              (ifK (decide (x_2 < 0))
                (some (D.int IntKind.i64 10))
                (chkK (decide (0 ≤ vi ∧ vi < (vl_n : Int)))
                  (cellK (vl_c) (Int.toNat vi * 3 + 1) fun d_3 =>
                  (intK IntKind.i64 (d_3) fun x_3 =>
                  (ifK (decide (x_3 ≥ vjobs))
                    (some (D.int IntKind.i64 10))
                    (F57_3913 call L C n_1 vjobs vl_f vl_n vl_c vi)))))))))))))))))
    (some (D.int IntKind.i64 0))) := by kernel_rfl
theorem F57_7_eq (call : FuncId → List D → Option D) (L : Nat) (C : Nat → Nat) (vjobs : Int) (vl_f : Bool) (vl_n : Nat) (vl_c : List D) (hC : ∀ t, C t = 1) : F57_7 call L C  vjobs vl_f vl_n vl_c  =
  (ifK (decide ((vl_n : Int) > 256))
    (some (D.int IntKind.i64 5))
    (F57_122 call L C L vjobs vl_f vl_n vl_c (0))) := by
  unfold F57_7
  rw [hC]
  kernel_rfl
theorem F57_eq (call : FuncId → List D → Option D) (L : Nat) (C : Nat → Nat) (vjobs : Int) (vl_f : Bool) (vl_n : Nat) (vl_c : List D) : evFnT (TEf call L C) O0 N57 FinM.canon Tryz.f57 [D.int IntKind.i64 vjobs, D.slc vl_f vl_n vl_c] =
  (ifK (decide (vjobs < 1))
    (some (D.int IntKind.i64 3))
    (ifK (decide (vjobs > 24))
      (some (D.int IntKind.i64 3))
      (F57_7 call L C vjobs vl_f vl_n vl_c))) := by kernel_rfl

def N113 : NTab := fun p => match p with
  | 58 => some { keep := [0, 21, 22, 23], kl := [7], ren := [(7, 7)] }
  | _ => none
noncomputable def F113_58 (call : FuncId → List D → Option D) (L : Nat) (C : Nat → Nat) (n : Nat) (vjobs : Int) (vl_f : Bool) (vl_n : Nat) (vl_c : List D) (t22 : Int) (t23 : Int) : Option D :=
  loopAt (TEf call L C) O0 N113 FinM.canon Tryz.f113 [true, true, false, true, false] []  n (St.mk [D.int IntKind.i64 vjobs, J, J, J, J, J, J, J, J, J, J, J, J, J, J, J, J, J, J, J, J, D.slc vl_f vl_n vl_c, D.int IntKind.i64 t22, D.int IntKind.i64 t23, J, J, J, J, J, J, J, J, J, J, J, J, J, J, J, J, J, J, J, J, J, J, J, J, J, J] [Z, Z, Z, Z, Z, Z, Z, Z, Z, Z, Z, Z, Z, Z, Z, Z, Z, Z, Z, Z, Z, Z, Z, Z, Z, Z, Z, Z, Z, Z, Z, Z, Z, Z, Z, Z, Z, Z, Z, Z, Z, Z, Z, Z, Z, Z, Z, Z, Z, Z])
theorem F113_58_eq (call : FuncId → List D → Option D) (L : Nat) (C : Nat → Nat) (n : Nat) (vjobs : Int) (vl_f : Bool) (vl_n : Nat) (vl_c : List D) (t22 : Int) (t23 : Int) : F113_58 call L C  (n + 1) vjobs vl_f vl_n vl_c (t22) (t23) =
  (ifK (decide (t23 < t22))
    (chkK (decide (0 ≤ t23 ∧ t23 < (vl_n : Int)))
      (cellK (vl_c) (Int.toNat t23 * 3 + 0) fun d =>
      (intK IntKind.i64 (d) fun x_3 =>
      (cellK (vl_c) (Int.toNat t23 * 3 + 1) fun d_1 =>
      (intK IntKind.i64 (d_1) fun x_4 =>
      (cellK (vl_c) (Int.toNat t23 * 3 + 2) fun d_2 =>
      (intK IntKind.i64 (d_2) fun x_5 =>
      (optK (call 100 [D.int IntKind.i64 x_3, D.int IntKind.i64 0, D.int IntKind.i64 (IntKind.wrap IntKind.i64 (vjobs - 1))]) fun r_4 =>
        (boolK (r_4) fun b_1 =>
        (ifK (b_1)
          (optK (call 84 [D.bool true, D.int IntKind.i64 10]) fun r_5 =>
            (intK IntKind.i64 (r_5) fun x_6 =>
            (optK (call 100 [D.int IntKind.i64 x_5, D.int IntKind.i64 (-10000), D.int IntKind.i64 10000]) fun r_6 =>
              (boolK (r_6) fun b_2 =>
              (optK (call 84 [D.bool b_2, D.int IntKind.i64 3]) fun r_7 =>
                (intK IntKind.i64 (r_7) fun x_7 =>
                (optK (call 76 [D.slc true 2 [D.int IntKind.i64 x_6, D.int IntKind.i64 x_7]]) fun r_8 =>
                  (intK IntKind.i64 (r_8) fun x_8 =>
                  (ifK (x_8 != 0)
                    (some (D.int IntKind.i64 x_8))
                    (F113_58 call L C n vjobs vl_f vl_n vl_c (t22) (IntKind.wrap IntKind.i64 (t23 + 1))))))))))))
          (optK (call 100 [D.int IntKind.i64 x_4, D.int IntKind.i64 0, D.int IntKind.i64 (IntKind.wrap IntKind.i64 (vjobs - 1))]) fun r_9 =>
            (boolK (r_9) fun b_3 =>
            (optK (call 84 [D.bool b_3, D.int IntKind.i64 10]) fun r_10 =>
              (intK IntKind.i64 (r_10) fun x_9 =>
              (optK (call 100 [D.int IntKind.i64 x_5, D.int IntKind.i64 (-10000), D.int IntKind.i64 10000]) fun r_11 =>
                (boolK (r_11) fun b_4 =>
                (optK (call 84 [D.bool b_4, D.int IntKind.i64 3]) fun r_12 =>
                  (intK IntKind.i64 (r_12) fun x_10 =>
                  (optK (call 76 [D.slc true 2 [D.int IntKind.i64 x_9, D.int IntKind.i64 x_10]]) fun r_13 =>
                    (intK IntKind.i64 (r_13) fun x_11 =>
                    (ifK (x_11 != 0)
                      (some (D.int IntKind.i64 x_11))
                      (F113_58 call L C n vjobs vl_f vl_n vl_c (t22) (IntKind.wrap IntKind.i64 (t23 + 1))))))))))))))))))))))))
    (some (D.int IntKind.i64 0))) := by kernel_rfl
theorem F113_eq (call : FuncId → List D → Option D) (L : Nat) (C : Nat → Nat) (vjobs : Int) (vl_f : Bool) (vl_n : Nat) (vl_c : List D) : evFnT (TEf call L C) O0 N113 FinM.canon Tryz.f113 [D.int IntKind.i64 vjobs, D.slc vl_f vl_n vl_c] =
  (optK (call 100 [D.int IntKind.i64 vjobs, D.int IntKind.i64 1, D.int IntKind.i64 24]) fun r =>
    (boolK (r) fun b =>
    (optK (call 84 [D.bool b, D.int IntKind.i64 3]) fun r_1 =>
      (intK IntKind.i64 (r_1) fun x =>
      (optK (call 84 [D.bool (decide ((vl_n : Int) > 256)), D.int IntKind.i64 5]) fun r_2 =>
        (intK IntKind.i64 (r_2) fun x_1 =>
        (optK (call 76 [D.slc true 2 [D.int IntKind.i64 x, D.int IntKind.i64 x_1]]) fun r_3 =>
          (intK IntKind.i64 (r_3) fun x_2 =>
          (ifK (x_2 != 0)
            (some (D.int IntKind.i64 x_2))
            (F113_58 call L C L vjobs vl_f vl_n vl_c ((vl_n : Int)) (0))))))))))) := by kernel_rfl

def N60 : NTab := fun p => match p with
  | 250 => some { keep := [2, 4, 9, 10, 34, 35, 36], kl := [], ren := [(4, 4)] }
  | _ => none
noncomputable def F60_250 (call : FuncId → List D → Option D) (L : Nat) (C : Nat → Nat) (n : Nat) (vcycle_f : Bool) (vcycle_n : Nat) (vcycle_c : List D) (vl_f : Bool) (vl_n : Nat) (vl_c : List D) (vsum : Int) (vbroken : Bool) (t35 : Int) (t36 : Int) : Option D :=
  loopAt (TEf call L C) O0 N60 FinM.canon Tryz.f60 [true, true, true, true, false, true, false] []  n (St.mk [J, J, D.slc vcycle_f vcycle_n vcycle_c, J, D.loc 4 0 0, J, J, J, J, D.int IntKind.i64 vsum, D.bool vbroken, J, J, J, J, J, J, J, J, J, J, J, J, J, J, J, J, J, J, J, J, J, J, J, D.slc vcycle_f vcycle_n vcycle_c, D.int IntKind.i64 t35, D.int IntKind.i64 t36, J, J, J, J, J, J, J, J, J, J, J, J, J, J, J, J, J, J, J, J, J, J, J, J, J, J, J, J, J, J, J, J, J, J, J, J, J, J, J] [Z, Z, Z, Z, (1, some (Ob.box [D.slc vl_f vl_n vl_c] false)), Z, Z, Z, Z, Z, Z, Z, Z, Z, Z, Z, Z, Z, Z, Z, Z, Z, Z, Z, Z, Z, Z, Z, Z, Z, Z, Z, Z, Z, Z, Z, Z, Z, Z, Z, Z, Z, Z, Z, Z, Z, Z, Z, Z, Z, Z, Z, Z, Z, Z, Z, Z, Z, Z, Z, Z, Z, Z, Z, Z, Z, Z, Z, Z, Z, Z, Z, Z, Z, Z, Z])
theorem F60_250_eq (call : FuncId → List D → Option D) (L : Nat) (C : Nat → Nat) (n : Nat) (vcycle_f : Bool) (vcycle_n : Nat) (vcycle_c : List D) (vl_f : Bool) (vl_n : Nat) (vl_c : List D) (vsum : Int) (vbroken : Bool) (t35 : Int) (t36 : Int) : F60_250 call L C  (n + 1) vcycle_f vcycle_n vcycle_c vl_f vl_n vl_c (vsum) (vbroken) (t35) (t36) =
  (ifK (decide (t36 < t35))
    (chkK (decide (0 ≤ t36 ∧ t36 < (vcycle_n : Int)))
      (cellK (vcycle_c) (Int.toNat t36 * 1) fun d =>
      (intK IntKind.i64 (d) fun x_5 =>
      (chkK (decide (0 ≤ x_5 ∧ x_5 < (vl_n : Int)))
        (cellK (vl_c) (Int.toNat x_5 * 3 + 2) fun d_1 =>
        (intK IntKind.i64 (d_1) fun x_6 =>
        (ifK (vbroken)
          (F60_250 call L C n vcycle_f vcycle_n vcycle_c vl_f vl_n vl_c (IntKind.wrap IntKind.i64 (vsum + x_6)) (true) (t35) (IntKind.wrap IntKind.i64 (t36 + 1)))
          (chkK (decide (0 ≤ x_5 ∧ x_5 < (vl_n : Int)))
            (cellK (vl_c) (Int.toNat x_5 * 3 + 1) fun d_2 =>
            (intK IntKind.i64 (d_2) fun x_7 =>
            (chkK (!decide ((vcycle_n : Int) = 0))
              (chkK (decide (0 ≤ Int.tmod (IntKind.wrap IntKind.i64 (t36 + 1)) (vcycle_n : Int) ∧ Int.tmod (IntKind.wrap IntKind.i64 (t36 + 1)) (vcycle_n : Int) < (vcycle_n : Int)))
                (cellK (vcycle_c) (Int.toNat (Int.tmod (IntKind.wrap IntKind.i64 (t36 + 1)) (vcycle_n : Int)) * 1) fun d_3 =>
                (intK IntKind.i64 (d_3) fun x_8 =>
                (chkK (decide (0 ≤ x_8 ∧ x_8 < (vl_n : Int)))
                  (cellK (vl_c) (Int.toNat x_8 * 3 + 0) fun d_4 =>
                  (intK IntKind.i64 (d_4) fun x_9 =>
                  (F60_250 call L C n vcycle_f vcycle_n vcycle_c vl_f vl_n vl_c (IntKind.wrap IntKind.i64 (vsum + x_6)) (x_7 != x_9) (t35) (IntKind.wrap IntKind.i64 (t36 + 1))))))))))))))))))))
    (ifK (vbroken)
      (optK (call 84 [D.bool true, D.int IntKind.i64 21]) fun r_6 =>
        (intK IntKind.i64 (r_6) fun x_10 =>
        (some (D.int IntKind.i64 x_10))))
      (optK (call 84 [D.bool (decide (vsum ≤ 0)), D.int IntKind.i64 21]) fun r_7 =>
        (intK IntKind.i64 (r_7) fun x_11 =>
        (some (D.int IntKind.i64 x_11)))))) := by kernel_rfl
theorem F60_eq (call : FuncId → List D → Option D) (L : Nat) (C : Nat → Nat) (vjobs : Int) (vl_f : Bool) (vl_n : Nat) (vl_c : List D) (vcycle_f : Bool) (vcycle_n : Nat) (vcycle_c : List D) : evFnT (TEf call L C) O0 N60 FinM.canon Tryz.f60 [D.int IntKind.i64 vjobs, D.slc vl_f vl_n vl_c, D.slc vcycle_f vcycle_n vcycle_c] =
  (optK (call 102 [D.slc vcycle_f vcycle_n vcycle_c, D.fn (Fn.func 115) [] [D.snap [D.slc vl_f vl_n vl_c] 0]]) fun r =>
    (boolK (r) fun b =>
    (optK (call 113 [D.int IntKind.i64 vjobs, D.slc vl_f vl_n vl_c]) fun r_1 =>
      (intK IntKind.i64 (r_1) fun x =>
      (optK (call 84 [D.bool ((vcycle_n : Int) == 0), D.int IntKind.i64 12]) fun r_2 =>
        (intK IntKind.i64 (r_2) fun x_1 =>
        (optK (call 84 [D.bool (decide ((vcycle_n : Int) > 256)), D.int IntKind.i64 5]) fun r_3 =>
          (intK IntKind.i64 (r_3) fun x_2 =>
          (optK (call 84 [D.bool b, D.int IntKind.i64 10]) fun r_4 =>
            (intK IntKind.i64 (r_4) fun x_3 =>
            (optK (call 76 [D.slc true 4 [D.int IntKind.i64 x, D.int IntKind.i64 x_1, D.int IntKind.i64 x_2, D.int IntKind.i64 x_3]]) fun r_5 =>
              (intK IntKind.i64 (r_5) fun x_4 =>
              (ifK (x_4 != 0)
                (some (D.int IntKind.i64 x_4))
                (F60_250 call L C L vcycle_f vcycle_n vcycle_c vl_f vl_n vl_c (0) (false) ((vcycle_n : Int)) (0))))))))))))))) := by kernel_rfl

def N61 : NTab := fun p => match p with
  | 122 => some { keep := [0, 1, 5], kl := [], ren := [] }
  | 506 => some { keep := [0, 1, 6, 7], kl := [], ren := [] }
  | _ => none
noncomputable def F61_506 (call : FuncId → List D → Option D) (L : Nat) (C : Nat → Nat) (n_1 : Nat) (vl_f : Bool) (vl_n : Nat) (vl_c : List D) (vcycle_f : Bool) (vcycle_n : Nat) (vcycle_c : List D) (vsum : Int) (vi_1 : Int) : Option D :=
  loopAt (TEf call L C) O0 N61 FinM.canon Tryz.f61 [true, true, true, true, true, false, true, false] []  n_1 (St.mk [D.slc vl_f vl_n vl_c, D.slc vcycle_f vcycle_n vcycle_c, J, J, J, J, D.int IntKind.i64 vsum, D.int IntKind.i64 vi_1, J, J, J, J, J, J, J, J, J, J, J, J, J, J, J, J, J, J, J, J, J, J, J, J, J, J, J, J, J, J, J, J, J, J, J, J, J, J, J, J, J, J, J, J, J, J, J, J, J, J, J, J, J, J, J, J, J, J, J, J, J, J, J, J, J] [Z, Z, Z, Z, Z, Z, Z, Z, Z, Z, Z, Z, Z, Z, Z, Z, Z, Z, Z, Z, Z, Z, Z, Z, Z, Z, Z, Z, Z, Z, Z, Z, Z, Z, Z, Z, Z, Z, Z, Z, Z, Z, Z, Z, Z, Z, Z, Z, Z, Z, Z, Z, Z, Z, Z, Z, Z, Z, Z, Z, Z, Z, Z, Z, Z, Z, Z, Z, Z, Z, Z, Z, Z])
noncomputable def F61_122 (call : FuncId → List D → Option D) (L : Nat) (C : Nat → Nat) (n : Nat) (vl_f : Bool) (vl_n : Nat) (vl_c : List D) (vcycle_f : Bool) (vcycle_n : Nat) (vcycle_c : List D) (vi : Int) : Option D :=
  loopAt (TEf call L C) O0 N61 FinM.canon Tryz.f61 [true, true, true, false, true, false] []  n (St.mk [D.slc vl_f vl_n vl_c, D.slc vcycle_f vcycle_n vcycle_c, J, J, J, D.int IntKind.i64 vi, J, J, J, J, J, J, J, J, J, J, J, J, J, J, J, J, J, J, J, J, J, J, J, J, J, J, J, J, J, J, J, J, J, J, J, J, J, J, J, J, J, J, J, J, J, J, J, J, J, J, J, J, J, J, J, J, J, J, J, J, J, J, J, J, J, J, J] [Z, Z, Z, Z, Z, Z, Z, Z, Z, Z, Z, Z, Z, Z, Z, Z, Z, Z, Z, Z, Z, Z, Z, Z, Z, Z, Z, Z, Z, Z, Z, Z, Z, Z, Z, Z, Z, Z, Z, Z, Z, Z, Z, Z, Z, Z, Z, Z, Z, Z, Z, Z, Z, Z, Z, Z, Z, Z, Z, Z, Z, Z, Z, Z, Z, Z, Z, Z, Z, Z, Z, Z, Z])
theorem F61_506_eq (call : FuncId → List D → Option D) (L : Nat) (C : Nat → Nat) (n_1 : Nat) (vl_f : Bool) (vl_n : Nat) (vl_c : List D) (vcycle_f : Bool) (vcycle_n : Nat) (vcycle_c : List D) (vsum : Int) (vi_1 : Int) : F61_506 call L C  (n_1 + 1) vl_f vl_n vl_c vcycle_f vcycle_n vcycle_c (vsum) (vi_1) =
  (ifK (decide (vi_1 < (vcycle_n : Int)))
    (chkK (decide (0 ≤ vi_1 ∧ vi_1 < (vcycle_n : Int)))
      (cellK (vcycle_c) (Int.toNat vi_1 * 1) fun d_2 =>
      (intK IntKind.i64 (d_2) fun x_2 =>
      (chkK (decide (0 ≤ x_2 ∧ x_2 < (vl_n : Int)))
        (cellK (vl_c) (Int.toNat x_2 * 3 + 2) fun d_3 =>
        (intK IntKind.i64 (d_3) fun x_3 =>
        (chkK (decide (0 ≤ vi_1 ∧ vi_1 < (vcycle_n : Int)))
          (cellK (vcycle_c) (Int.toNat vi_1 * 1) fun d_4 =>
          (intK IntKind.i64 (d_4) fun x_4 =>
          (chkK (decide (0 ≤ x_4 ∧ x_4 < (vl_n : Int)))
            (cellK (vl_c) (Int.toNat x_4 * 3 + 1) fun d_5 =>
            (intK IntKind.i64 (d_5) fun x_5 =>
            (chkK (!decide ((vcycle_n : Int) = 0))
              (chkK (decide (0 ≤ Int.tmod (IntKind.wrap IntKind.i64 (vi_1 + 1)) (vcycle_n : Int) ∧ Int.tmod (IntKind.wrap IntKind.i64 (vi_1 + 1)) (vcycle_n : Int) < (vcycle_n : Int)))
                (cellK (vcycle_c) (Int.toNat (Int.tmod (IntKind.wrap IntKind.i64 (vi_1 + 1)) (vcycle_n : Int)) * 1) fun d_6 =>
                (intK IntKind.i64 (d_6) fun x_6 =>
                (chkK (decide (0 ≤ x_6 ∧ x_6 < (vl_n : Int)))
                  (cellK (vl_c) (Int.toNat x_6 * 3 + 0) fun d_7 =>
                  (intK IntKind.i64 (d_7) fun x_7 =>
                  (ifK (x_5 != x_7)
                    (some (D.int IntKind.i64 21))
                    (F61_506 call L C n_1 vl_f vl_n vl_c vcycle_f vcycle_n vcycle_c (IntKind.wrap IntKind.i64 (vsum + x_3)) (IntKind.wrap IntKind.i64 (vi_1 + 1)))))))))))))))))))))))
    (ifK (decide (vsum ≤ 0))
      (some (D.int IntKind.i64 21))
      (some (D.int IntKind.i64 0)))) := by kernel_rfl
theorem F61_122_eq (call : FuncId → List D → Option D) (L : Nat) (C : Nat → Nat) (n : Nat) (vl_f : Bool) (vl_n : Nat) (vl_c : List D) (vcycle_f : Bool) (vcycle_n : Nat) (vcycle_c : List D) (vi : Int) : F61_122 call L C  (n + 1) vl_f vl_n vl_c vcycle_f vcycle_n vcycle_c (vi) =
  (ifK (decide (vi < (vcycle_n : Int)))
    (chkK (decide (0 ≤ vi ∧ vi < (vcycle_n : Int)))
      (cellK (vcycle_c) (Int.toNat vi * 1) fun d =>
      (intK IntKind.i64 (d) fun x =>
      (ifK (decide (x < 0))
        (some (D.int IntKind.i64 10))
        (chkK (decide (0 ≤ vi ∧ vi < (vcycle_n : Int)))
          (cellK (vcycle_c) (Int.toNat vi * 1) fun d_1 =>
          (intK IntKind.i64 (d_1) fun x_1 =>
          (ifK (decide (x_1 ≥ (vl_n : Int)))
            (some (D.int IntKind.i64 10))
            (F61_122 call L C n vl_f vl_n vl_c vcycle_f vcycle_n vcycle_c (IntKind.wrap IntKind.i64 (vi + 1)))))))))))
    (F61_506 call L C L vl_f vl_n vl_c vcycle_f vcycle_n vcycle_c (0) (0))) := by kernel_rfl
theorem F61_eq (call : FuncId → List D → Option D) (L : Nat) (C : Nat → Nat) (vl_f : Bool) (vl_n : Nat) (vl_c : List D) (vcycle_f : Bool) (vcycle_n : Nat) (vcycle_c : List D) : evFnT (TEf call L C) O0 N61 FinM.canon Tryz.f61 [D.slc vl_f vl_n vl_c, D.slc vcycle_f vcycle_n vcycle_c] =
  (ifK ((vcycle_n : Int) == 0)
    (some (D.int IntKind.i64 12))
    (ifK (decide ((vcycle_n : Int) > 256))
      (some (D.int IntKind.i64 5))
      (F61_122 call L C L vl_f vl_n vl_c vcycle_f vcycle_n vcycle_c (0)))) := by kernel_rfl

def N62 : NTab := fun p => match p with
  | 58 => some { keep := [0, 1, 6, 7], kl := [], ren := [(12, 12)] }
  | 14922 => some { keep := [0, 1, 6, 7, 8, 9], kl := [], ren := [(12, 12)] }
  | _ => none
noncomputable def F62_14922 (call : FuncId → List D → Option D) (L : Nat) (C : Nat → Nat) (n : Nat) (n_1 : Nat) (vjobs : Int) (vl_f : Bool) (vl_n : Nat) (vl_c : List D) (vdays_n : Nat) (vround : Int) (vstill : Bool) (vi : Int) (t12_c_1 : List D) : Option D :=
  loopAt (TEf call L C) O0 N62 FinM.canon Tryz.f62 [true, true, false, true, false, false, true, false, false, true, false, true, false] [n]  n_1 (St.mk [D.int IntKind.i64 vjobs, D.slc vl_f vl_n vl_c, J, J, J, J, D.own 12 0 vdays_n, D.int IntKind.i64 vround, D.bool vstill, D.int IntKind.i64 vi, J, J, J, J, J, J, J, J, J, J, J, J, J, J, J, J, J, J, J, J, J, J, J, J, J, J, J, J, J, J, J, J, J, J, J, J, J, J, J, J, J, J, J, J, J, J, J, J] [Z, Z, Z, Z, Z, Z, Z, Z, Z, Z, Z, Z, (1, some (Ob.arr 3 1 t12_c_1 false)), Z, Z, Z, Z, Z, Z, Z, Z, Z, Z, Z, Z, Z, Z, Z, Z, Z, Z, Z, Z, Z, Z, Z, Z, Z, Z, Z, Z, Z, Z, Z, Z, Z, Z, Z, Z, Z, Z, Z, Z, Z, Z, Z, Z, Z])
noncomputable def F62_58 (call : FuncId → List D → Option D) (L : Nat) (C : Nat → Nat) (n : Nat) (vjobs : Int) (vl_f : Bool) (vl_n : Nat) (vl_c : List D) (vdays_n : Nat) (vround : Int) (t12_c : List D) : Option D :=
  loopAt (TEf call L C) O0 N62 FinM.canon Tryz.f62 [true, true, false, true, false] []  n (St.mk [D.int IntKind.i64 vjobs, D.slc vl_f vl_n vl_c, J, J, J, J, D.own 12 0 vdays_n, D.int IntKind.i64 vround, J, J, J, J, J, J, J, J, J, J, J, J, J, J, J, J, J, J, J, J, J, J, J, J, J, J, J, J, J, J, J, J, J, J, J, J, J, J, J, J, J, J, J, J, J, J, J, J, J, J] [Z, Z, Z, Z, Z, Z, Z, Z, Z, Z, Z, Z, (1, some (Ob.arr 3 1 t12_c false)), Z, Z, Z, Z, Z, Z, Z, Z, Z, Z, Z, Z, Z, Z, Z, Z, Z, Z, Z, Z, Z, Z, Z, Z, Z, Z, Z, Z, Z, Z, Z, Z, Z, Z, Z, Z, Z, Z, Z, Z, Z, Z, Z, Z, Z])
theorem F62_14922_eq (call : FuncId → List D → Option D) (L : Nat) (C : Nat → Nat) (n : Nat) (n_1 : Nat) (vjobs : Int) (vl_f : Bool) (vl_n : Nat) (vl_c : List D) (vdays_n : Nat) (vround : Int) (vstill : Bool) (vi : Int) (t12_c_1 : List D) : F62_14922 call L C n (n_1 + 1) vjobs vl_f vl_n vl_c vdays_n vround (vstill) (vi) (t12_c_1) =
  (ifK (decide (vi < (vl_n : Int)))
    (chkK (decide (0 ≤ vi ∧ vi < (vl_n : Int)))
      (cellK (vl_c) (Int.toNat vi * 3 + 0) fun d =>
      (intK IntKind.i64 (d) fun x =>
      (chkK (decide (0 ≤ x ∧ x < (vdays_n : Int)))
        (cellK (t12_c_1) (Int.toNat x * 1) fun d_1 =>
        (intK IntKind.i64 (d_1) fun x_1 =>
        (chkK (decide (0 ≤ vi ∧ vi < (vl_n : Int)))
          (cellK (vl_c) (Int.toNat vi * 3 + 2) fun d_2 =>
          (intK IntKind.i64 (d_2) fun x_2 =>
          (chkK (decide (0 ≤ vi ∧ vi < (vl_n : Int)))
            (cellK (vl_c) (Int.toNat vi * 3 + 1) fun d_3 =>
            (intK IntKind.i64 (d_3) fun x_3 =>
            (chkK (decide (0 ≤ x_3 ∧ x_3 < (vdays_n : Int)))
              (cellK (t12_c_1) (Int.toNat x_3 * 1) fun d_4 =>
              (intK IntKind.i64 (d_4) fun x_4 =>
              (ifK (decide (x_4 < IntKind.wrap IntKind.i64 (x_1 + x_2)))
                (chkK (decide (0 ≤ vi ∧ vi < (vl_n : Int)))
                  (cellK (vl_c) (Int.toNat vi * 3 + 1) fun d_5 =>
                  (intK IntKind.i64 (d_5) fun x_5 =>
                  (chkK (decide (0 ≤ x_5 ∧ x_5 < (vdays_n : Int)))
                    (chkK (decide (Int.toNat x_5 * 1 + 1 ≤ List.length t12_c_1))
                      (F62_14922 call L C n n_1 vjobs vl_f vl_n vl_c vdays_n vround (false) (IntKind.wrap IntKind.i64 (vi + 1)) (writeAt t12_c_1 (Int.toNat x_5 * 1) [D.int IntKind.i64 (IntKind.wrap IntKind.i64 (x_1 + x_2))])))))))
                (F62_14922 call L C n n_1 vjobs vl_f vl_n vl_c vdays_n vround (vstill) (IntKind.wrap IntKind.i64 (vi + 1)) (t12_c_1))))))))))))))))))
    (ifK (vstill)
      (some (D.tup [D.slc false vdays_n t12_c_1, D.bool true]))
      (F62_58 call L C n vjobs vl_f vl_n vl_c (vdays_n) (IntKind.wrap IntKind.i64 (vround + 1)) (t12_c_1)))) := by kernel_rfl
theorem F62_58_eq (call : FuncId → List D → Option D) (L : Nat) (C : Nat → Nat) (n : Nat) (vjobs : Int) (vl_f : Bool) (vl_n : Nat) (vl_c : List D) (vdays_n : Nat) (vround : Int) (t12_c : List D) : F62_58 call L C  (n + 1) vjobs vl_f vl_n vl_c (vdays_n) (vround) (t12_c) =
  (ifK (decide (vround ≤ vjobs))
    (F62_14922 call L C n L vjobs vl_f vl_n vl_c vdays_n vround (true) (0) (t12_c))
    (some (D.tup [D.slc true 0 [], D.bool false]))) := by kernel_rfl
theorem F62_eq (call : FuncId → List D → Option D) (L : Nat) (C : Nat → Nat) (vjobs : Int) (vl_f : Bool) (vl_n : Nat) (vl_c : List D) : evFnT (TEf call L C) O0 N62 FinM.canon Tryz.f62 [D.int IntKind.i64 vjobs, D.slc vl_f vl_n vl_c] =
  (chkK (decide (0 ≤ vjobs ∧ vjobs ≤ vjobs ∧ vjobs * (8 : Int) ≤ 140737488355328 ∧ vjobs ≤ 9223372036854775807))
    (F62_58 call L C L vjobs vl_f vl_n vl_c (Int.toNat vjobs) (0) (repD (Int.toNat vjobs) [D.int IntKind.i64 0]))) := by kernel_rfl

end Go.Pd
end

section
namespace Go.Pd
open Go Go.Proofs Go.RowKit
set_option maxRecDepth 100000

/-! ### Conditions as cells -/
def rlC : List Rl → List D
  | [] => []
  | r :: l => .int .i64 (r.1 : Int) :: .int .i64 (r.2.1 : Int) :: .int .i64 r.2.2 :: rlC l
theorem rlC_get : ∀ (R : List Rl) (i : Nat) (r : Rl), R[i]? = some r → (rlC R)[i * 3 + 0]? = some (.int .i64 (r.1 : Int)) ∧ (rlC R)[i * 3 + 1]? = some (.int .i64 (r.2.1 : Int)) ∧ (rlC R)[i * 3 + 2]? = some (.int .i64 r.2.2)
  | [], _, _, h => by simp at h
  | x :: l, 0, r, h => by simp at h; subst h; exact ⟨rfl, rfl, rfl⟩
  | x :: l, i + 1, r, h => by
    have ih := rlC_get l i r (by simpa using h)
    rw [show (i + 1) * 3 + 0 = (i * 3 + 0) + 3 by omega, show (i + 1) * 3 + 1 = (i * 3 + 1) + 3 by omega, show (i + 1) * 3 + 2 = (i * 3 + 2) + 3 by omega]
    exact ih
theorem rl0 {γ : Type} {R : List Rl} {i : Nat} {r : Rl} (h : R[i]? = some r) (k : D → Option γ) : cellK (rlC R) (Int.toNat (i : Int) * 3 + 0) k = k (.int .i64 (r.1 : Int)) := cellK_some (rlC_get R i r h).1 k
theorem rl1 {γ : Type} {R : List Rl} {i : Nat} {r : Rl} (h : R[i]? = some r) (k : D → Option γ) : cellK (rlC R) (Int.toNat (i : Int) * 3 + 1) k = k (.int .i64 (r.2.1 : Int)) := cellK_some (rlC_get R i r h).2.1 k
theorem rl2 {γ : Type} {R : List Rl} {i : Nat} {r : Rl} (h : R[i]? = some r) (k : D → Option γ) : cellK (rlC R) (Int.toNat (i : Int) * 3 + 2) k = k (.int .i64 r.2.2) := cellK_some (rlC_get R i r h).2.2 k
structure Rok (J : Nat) (R : List Rl) : Prop where
  f : ∀ x ∈ R, x.1 < J
  t : ∀ x ∈ R, x.2.1 < J
  l : ∀ x ∈ R, -10000 ≤ x.2.2 ∧ x.2.2 ≤ 10000
  n : R.length ≤ 1000
  j : J ≤ 1000
def Bd (now : Nat) (S : BF) : Prop := ∀ v, 0 ≤ S.d v ∧ S.d v ≤ 10000 * (now : Int)
theorem bd_step {now i : Nat} {r : Rl} {S : BF} (h : Bd now S) (hl : r.2.2 ≤ 10000) : Bd (now + 1) (bfStep i now r S) := by
  intro v
  unfold bfStep
  have h0 := h v
  have h1 := h r.1
  have h2 := h r.2.1
  split
  · rename_i hc
    show 0 ≤ updF S.d r.2.1 (S.d r.1 + r.2.2) v ∧ updF S.d r.2.1 (S.d r.1 + r.2.2) v ≤ _
    unfold updF
    split <;> omega
  · omega
theorem bd_go {R : List Rl} (hR : ∀ x ∈ R, x.2.2 ≤ 10000) : ∀ (r : List Rl) (i now : Nat) (S : BF), (∀ x ∈ r, x ∈ R) → Bd now S → Bd (now + r.length) (bfGo r i now S)
  | [], _, _, _, _, h => h
  | x :: r, i, now, S, hs, h => by
    have := bd_go hR r (i + 1) (now + 1) (bfStep i now x S) (fun y hy => hs y (List.mem_cons_of_mem _ hy)) (bd_step h (hR x (hs x (List.mem_cons_self ..))))
    rw [List.length_cons, show now + (r.length + 1) = now + 1 + r.length by omega]
    exact this
def lastI : Option Nat → Int
  | none => -1
  | some v => (v : Int)
section
variable {call mu : FuncId → List D → Option D} {f : Bool} {R : List Rl} {J : Nat}
theorem go114i (hR : Rok J R) {n : Nat} {t16 t17 : Int} : ∀ (r : List Rl) (i now : Nat) (S : BF) (M : List (Nat × Nat)) (fuel : Nat), R.drop i = r → i ≤ R.length → now + r.length ≤ 10000000 → Bd now S → (∀ v, asN v M = S.b v) → r.length < fuel →
    ∃ M', (∀ v, asN v M' = (bfGo r i now S).b v) ∧ F114_128202 call mu LL C1 n fuel (J : Int) f R.length (rlC R) J t16 t17 (lastI S.last) (R.length : Int) (i : Int) (ints (rowF J S.d)) (kysC M) (vlsC M) =
      ifK (decide (lastI (bfGo r i now S).last < 0)) (some (D.tup [D.slc false J (ints (rowF J (bfGo r i now S).d)), D.nils]))
        (F114_250 call mu LL C1 n (J : Int) f R.length (rlC R) J (lastI (bfGo r i now S).last) t16 (IntKind.wrap .i64 (t17 + 1)) (ints (rowF J (bfGo r i now S).d)) (kysC M') (vlsC M')) := by
  intro r
  induction r with
  | nil =>
    intro i now S M fuel hd hi _ _ hM hf
    obtain ⟨fuel, rfl⟩ : ∃ n, fuel = n + 1 := ⟨fuel - 1, by omega⟩
    have hi' : i = R.length := by
      have := congrArg List.length hd
      simp at this
      omega
    refine ⟨M, hM, ?_⟩
    rw [F114_128202_eq, show decide ((i : Int) < (R.length : Int)) = false by simp; omega, ifK_false]
    rfl
  | cons x r ih =>
    intro i now S M fuel hd hi hnow hb hM hf
    obtain ⟨fuel, rfl⟩ : ∃ n, fuel = n + 1 := ⟨fuel - 1, by omega⟩
    have hlt : i < R.length := by
      have := congrArg List.length hd
      simp at this
      omega
    have hx : R[i]? = some x := by
      have := congrArg (fun l : List Rl => l[0]?) hd
      simpa using this
    have hxm := List.mem_of_getElem? hx
    have hd' : R.drop (i + 1) = r := by rw [← List.drop_drop, hd]; rfl
    have b1 := hR.f x hxm
    have b2 := hR.t x hxm
    have b3 := hR.l x hxm
    have hn := hR.n
    simp only [List.length_cons] at hnow hf
    have c1 := hb x.1
    have c2 := hb x.2.1
    have e1 : decide ((0 : Int) ≤ (i : Int) ∧ (i : Int) < (R.length : Int)) = true := decide_eq_true ⟨by omega, by omega⟩
    have e2 : decide ((0 : Int) ≤ (x.1 : Int) ∧ (x.1 : Int) < (J : Int)) = true := decide_eq_true ⟨by omega, by omega⟩
    have e3 : decide ((0 : Int) ≤ (x.2.1 : Int) ∧ (x.2.1 : Int) < (J : Int)) = true := decide_eq_true ⟨by omega, by omega⟩
    have e4 : IntKind.wrap .i64 (S.d x.1 + x.2.2) = S.d x.1 + x.2.2 := wrap_in (by omega)
    have e5 : IntKind.wrap .i64 ((i : Int) + 1) = ((i + 1 : Nat) : Int) := (wrap_in (by omega)).trans (by omega)
    rw [F114_128202_eq, show decide ((i : Int) < (R.length : Int)) = true by simp; omega, ifK_true, e1, chkK_true, rl0 hx, intK_int, rl1 hx, intK_int, rl2 hx, intK_int, e2, chkK_true, cell_at (rowF_get S.d b1), intK_int, e3, chkK_true, cell_at (rowF_get S.d b2), intK_int, e4, e5]
    by_cases hc : S.d x.2.1 < S.d x.1 + x.2.2
    · obtain ⟨M', hM', he⟩ := ih (i + 1) (now + 1) (bfStep i now x S) (upN x.2.1 i M) fuel hd' (by omega) (by omega) (bd_step hb b3.2) (fun v => by
        unfold bfStep
        rw [if_pos hc, as_up]
        show updF (fun k => asN k M) x.2.1 (some i) v = updF S.b x.2.1 (some i) v
        rw [show (fun k => asN k M) = S.b from funext hM]) (by omega)
      refine ⟨M', hM', ?_⟩
      rw [decide_eq_true (show S.d x.1 + x.2.2 > S.d x.2.1 from hc), ifK_true, chkK_true, ints_len, rowF_len, Int.toNat_natCast, decide_eq_true (show x.2.1 * 1 + 1 ≤ J by omega), chkK_true, upd_N, ints_set, rowF_set]
      refine Eq.trans ?_ he
      unfold bfStep
      rw [if_pos hc]
      rfl
    · obtain ⟨M', hM', he⟩ := ih (i + 1) (now + 1) (bfStep i now x S) M fuel hd' (by omega) (by omega) (bd_step hb b3.2) (fun v => by
        unfold bfStep
        rw [if_neg hc]
        exact hM v) (by omega)
      refine ⟨M', hM', ?_⟩
      rw [decide_eq_false (show ¬ S.d x.1 + x.2.2 > S.d x.2.1 from hc), ifK_false]
      refine Eq.trans ?_ he
      unfold bfStep
      rw [if_neg hc]
/-! ### Back along the conditions -/
theorem back_at {now : Nat} {S : BF} (hI : BInv R now S) {M : List (Nat × Nat)} (hM : ∀ v, asN v M = S.b v) {v : Nat} (hv : S.b v ≠ none) : ∃ j i w, S.b v = some i ∧ R[i]? = some (parOf R S v, v, w) ∧ wOf R S v = w ∧ findD (.int .i64 (v : Int)) (kysC M) 0 = some (some j) ∧ (vlsC M)[j]? = some (.int .i64 (i : Int)) ∧ j < M.length := by
  cases hb : S.b v with
  | none => exact absurd hb hv
  | some i =>
    obtain ⟨u, w, h1, _⟩ := hI.par v i hb
    rcases ix_as (v := v) (M := M) (i := 0) with ⟨h2, _⟩ | ⟨j, x, h2, h3, h4, h5⟩
    · rw [hM, hb] at h2; cases h2
    · rw [hM, hb] at h2
      cases h2
      rw [Nat.zero_add] at h3
      refine ⟨j, i, w, rfl, ?_, ?_, by rw [findD_ix, h3], h4, h5⟩
      · unfold parOf; rw [hb]; simp only [h1]
      · unfold wOf; rw [hb]; simp only [h1]
theorem go506 (hR : Rok J R) {now : Nat} {S : BF} (hI : BInv R now S) {M : List (Nat × Nat)} (hM : ∀ v, asN v M = S.b v) : ∀ (k t v fuel : Nat), t + k = J → (∀ m, S.b (walk R S m v) ≠ none) → k < fuel →
    F114_506 call mu LL C1 fuel f R.length (rlC R) (J : Int) (kysC M) (vlsC M) (v : Int) (t : Int) = F114_1018 call mu LL C1 LL f R.length (rlC R) (walk R S k v : Int) (kysC M) (vlsC M) .nil (walk R S k v : Int)
  | 0, t, v, fuel, ht, _, hf => by
    obtain ⟨fuel, rfl⟩ : ∃ n, fuel = n + 1 := ⟨fuel - 1, by omega⟩
    rw [F114_506_eq, show decide ((t : Int) < (J : Int)) = false by simp; omega, ifK_false]
    rfl
  | k + 1, t, v, fuel, ht, hv, hf => by
    obtain ⟨fuel, rfl⟩ : ∃ n, fuel = n + 1 := ⟨fuel - 1, by omega⟩
    have ih := go506 hR hI hM k (t + 1) (parOf R S v) fuel (by omega) (fun m => hv (m + 1)) (by omega)
    obtain ⟨j, i, w, _, h2, _, h4, h5, _⟩ := back_at hI hM (hv 0)
    have hlt : i < R.length := (List.getElem?_eq_some_iff.1 h2).1
    have hj := hR.j
    rw [F114_506_eq, show decide ((t : Int) < (J : Int)) = true by simp; omega, ifK_true]
    rw [show findD (.int .i64 (v : Int)) (kysC M) 0 = some (some j) from h4]
    rw [findK_some, cellK_some h5, intK_int, show decide ((0 : Int) ≤ (i : Int) ∧ (i : Int) < (R.length : Int)) = true from decide_eq_true ⟨by omega, by omega⟩, chkK_true, rl0 h2, intK_int, show IntKind.wrap .i64 ((t : Int) + 1) = ((t + 1 : Nat) : Int) from (wrap_in (by omega)).trans (by omega)]
    exact ih
def bI (S : BF) (v : Nat) : Int := match S.b v with
  | some i => (i : Int)
  | none => 0
def owC (l : List Int) : Ow := match l with
  | [] => .nil
  | x :: l => .own (x :: l).length (ints (x :: l))
theorem owC_pos {n : Nat} {g : Nat → Int} : owC (rowF (n + 1) g) = .own (n + 1) (ints (rowF (n + 1) g)) := by
  have h := rowF_len (n + 1) g
  cases hl : rowF (n + 1) g with
  | nil => rw [hl] at h; cases h
  | cons x l =>
    rw [hl] at h
    show Ow.own (x :: l).length (ints (x :: l)) = _
    rw [h]
theorem go1018 (hR : Rok J R) {now : Nat} {S : BF} (hI : BInv R now S) {M : List (Nat × Nat)} (hM : ∀ v, asN v M = S.b v) (hmu : ∀ l : List Int, l.length ≤ 1000 → mu 177 [.slc false l.length (ints l)] = some (.slc false l.length (ints l.reverse)))
    {v q : Nat} (hq : q ≤ 1000) (hwq : walk R S q v = v) (hne : ∀ k, 1 ≤ k → k < q → walk R S k v ≠ v) (hv : ∀ m, S.b (walk R S m v) ≠ none) : ∀ (k m fuel : Nat), m + k = q → 1 ≤ k → k < fuel →
    F114_1018 call mu LL C1 fuel f R.length (rlC R) (v : Int) (kysC M) (vlsC M) (owC (rowF m fun i => bI S (walk R S i v))) (walk R S m v : Int) = some (.tup [.nils, .slc false q (ints (rowF q fun i => bI S (walk R S i v)).reverse)])
  | 0, _, _, _, h, _ => by omega
  | k + 1, m, fuel, hm, _, hf => by
    obtain ⟨fuel, rfl⟩ : ∃ n, fuel = n + 1 := ⟨fuel - 1, by omega⟩
    have ih := go1018 hR hI hM hmu hq hwq hne hv k (m + 1) fuel (by omega)
    obtain ⟨j, i, w, h1, h2, _, h4, h5, _⟩ := back_at hI hM (hv m)
    have hlt : i < R.length := (List.getElem?_eq_some_iff.1 h2).1
    have hchk : decide ((0 : Int) ≤ (i : Int) ∧ (i : Int) < (R.length : Int)) = true := decide_eq_true ⟨by omega, by omega⟩
    have hb : bI S (walk R S m v) = (i : Int) := by unfold bI; rw [h1]
    have hsn : (rowF m fun i => bI S (walk R S i v)) ++ [(i : Int)] = rowF (m + 1) fun i => bI S (walk R S i v) := by
      unfold rowF
      rw [List.range_succ, List.map_append, ← hb]
      rfl
    have hpar : parOf R S (walk R S m v) = walk R S (m + 1) v := by rw [walk_add]; rfl
    rw [hpar] at h2
    have hiff : ((walk R S (m + 1) v : Int) == (v : Int)) = decide (k = 0) := by
      by_cases hk : k = 0
      · subst hk
        rw [show m + 1 = q by omega, hwq]
        simp
      · rw [decide_eq_false hk]
        have := hne (m + 1) (by omega) (by omega)
        simp
        omega
    have hlen : ((rowF (m + 1) fun i => bI S (walk R S i v))).length = m + 1 := rowF_len _ _
    have hmu' := hmu (rowF (m + 1) fun i => bI S (walk R S i v)) (by rw [hlen]; omega)
    rw [hlen] at hmu'
    have fin : ∀ Z : Option D, Z = F114_1018 call mu LL C1 fuel f R.length (rlC R) (v : Int) (kysC M) (vlsC M) (owC (rowF (m + 1) fun i => bI S (walk R S i v))) (walk R S (m + 1) v : Int) →
        ifK (decide (k = 0)) (some (D.tup [D.nils, D.slc false (m + 1) (ints (rowF (m + 1) fun i => bI S (walk R S i v)).reverse)])) Z = some (.tup [.nils, .slc false q (ints (rowF q fun i => bI S (walk R S i v)).reverse)]) := by
      intro Z hZ
      by_cases hk : k = 0
      · rw [decide_eq_true hk, ifK_true, show m + 1 = q by omega]
      · rw [decide_eq_false hk, ifK_false, hZ]
        exact ih (by omega) (by omega)
    cases m with
    | zero =>
      show F114_1018 call mu LL C1 (fuel + 1) f R.length (rlC R) (v : Int) (kysC M) (vlsC M) .nil (walk R S 0 v : Int) = _
      have hm1 : mu 177 [.slc false 1 [.int .i64 (i : Int)]] = some (.slc false 1 (ints (rowF (0 + 1) fun i => bI S (walk R S i v)).reverse)) := by
        rw [show [D.int .i64 (i : Int)] = ints (rowF (0 + 1) fun i => bI S (walk R S i v)) by rw [← hsn]; rfl]
        exact hmu'
      rw [F114_1018_eqn]
      refine find_step h4 (cell_step h5 (int_step (find_step h4 (cell_step h5 (int_step (chk_step hchk (cell_step (rlC_get R i _ h2).1 (int_step ?_))))))))
      refine Eq.trans (if_step hiff (fun _ => opt_step hm1 (slc_step (chk_step (decide_eq_true (by rw [ints_len, List.length_reverse, hlen])) (chk_step (ints_plain _) rfl)))) fun _ => rfl) (fin _ ?_)
      rw [show [D.int .i64 (i : Int)] = ints (rowF (0 + 1) fun i => bI S (walk R S i v)) by rw [← hsn]; rfl, owC_pos]
    | succ m =>
      have hm1 : mu 177 [.slc false (m + 1 + 1) (ints (rowF (m + 1) fun i => bI S (walk R S i v)) ++ [.int .i64 (i : Int)])] = some (.slc false (m + 1 + 1) (ints (rowF (m + 1 + 1) fun i => bI S (walk R S i v)).reverse)) := by
        rw [ints_app1, hsn]
        exact hmu'
      rw [owC_pos, F114_1018_eqo]
      refine find_step h4 (cell_step h5 (int_step (chk_step (decide_eq_true (show (m + 1 + 1) * 8 ≤ limit ∧ m + 1 + 1 ≤ 9223372036854775807 from ⟨by unfold limit; omega, by omega⟩)) (find_step h4 (cell_step h5 (int_step (chk_step hchk (cell_step (rlC_get R i _ h2).1 (int_step ?_)))))))))
      refine Eq.trans (if_step hiff (fun _ => chk_step (by rw [ints_app1]; exact ints_plain _) (opt_step hm1 (slc_step (chk_step (decide_eq_true (by rw [ints_app1, hsn, ints_len, ints_len, List.length_reverse])) (chk_step (ints_plain _) rfl))))) fun _ => rfl) (fin _ ?_)
      rw [ints_app1, hsn]
      rw [owC_pos]
end
end Go.Pd
end

section
namespace Go.Pd
open Go Go.Proofs Go.RowKit
set_option maxRecDepth 100000

/-! ### Sums -/
def sumF : Nat → (Nat → Int) → Int
  | 0, _ => 0
  | n + 1, f => sumF n f + f n
theorem sumF_front : ∀ (n : Nat) (f : Nat → Int), sumF (n + 1) f = f 0 + sumF n fun k => f (k + 1)
  | 0, f => by simp [sumF]
  | n + 1, f => by
    have ih := sumF_front n f
    show sumF (n + 1) f + f (n + 1) = f 0 + (sumF n (fun k => f (k + 1)) + f (n + 1))
    rw [ih]; omega
theorem sumF_rev : ∀ (n : Nat) (f : Nat → Int), (sumF n fun k => f (n - 1 - k)) = sumF n f
  | 0, _ => rfl
  | n + 1, f => by
    rw [sumF_front]
    show f (n + 1 - 1 - 0) + sumF n (fun k => f (n + 1 - 1 - (k + 1))) = sumF n f + f n
    have : (fun k => f (n + 1 - 1 - (k + 1))) = fun k => f (n - 1 - k) := funext fun k => by congr 1; omega
    rw [this, sumF_rev n f]
    simp
    omega
theorem sumF_congr : ∀ {n : Nat} {f g : Nat → Int}, (∀ k, k < n → f k = g k) → sumF n f = sumF n g
  | 0, _, _, _ => rfl
  | n + 1, f, g, h => by
    show sumF n f + f n = sumF n g + g n
    rw [sumF_congr fun k hk => h k (by omega), h n (by omega)]
theorem wSum_sumF (R : List Rl) (S : BF) : ∀ (n v : Nat), wSum R S n v = sumF n fun k => wOf R S (walk R S k v)
  | 0, _ => rfl
  | n + 1, v => by
    rw [sumF_front]
    show wOf R S v + wSum R S n (parOf R S v) = _
    rw [wSum_sumF R S n]
    rfl
def rlAt (R : List Rl) (i : Int) : Rl := R.getD i.toNat (0, 0, 0)
theorem rlAt_some {R : List Rl} {i : Nat} {r : Rl} (h : R[i]? = some r) : rlAt R (i : Int) = r := by
  unfold rlAt
  rw [Int.toNat_natCast, List.getD_eq_getElem?_getD, h]
  rfl
structure Conf (R : List Rl) (q : Nat) (g : Nat → Int) : Prop where
  p : 1 ≤ q
  r : ∀ k, k < q → 0 ≤ g k ∧ g k < R.length
  e : ∀ k, k < q → (rlAt R (g k)).2.1 = (rlAt R (g ((k + 1) % q))).1
  s : 0 < sumF q fun k => (rlAt R (g k)).2.2
def fwd (R : List Rl) (S : BF) (q v k : Nat) : Int := bI S (walk R S (q - 1 - k) v)
theorem conf_of {R : List Rl} {now : Nat} {S : BF} (hI : BInv R now S) {v q : Nat} (hq : 1 ≤ q) (hwq : walk R S q v = v) (hv : ∀ m, S.b (walk R S m v) ≠ none) (hs : 0 < wSum R S q v) : Conf R q (fwd R S q v) := by
  have at_ : ∀ m, ∃ (i : Nat) (w : Int), bI S (walk R S m v) = (i : Int) ∧ R[i]? = some (walk R S (m + 1) v, walk R S m v, w) ∧ wOf R S (walk R S m v) = w := fun m => by
    cases hb : S.b (walk R S m v) with
    | none => exact absurd hb (hv m)
    | some i =>
      obtain ⟨u, w, h1, _⟩ := hI.par _ i hb
      have hp : parOf R S (walk R S m v) = u := by unfold parOf; rw [hb]; simp only [h1]
      have hp2 : parOf R S (walk R S m v) = walk R S (m + 1) v := by rw [walk_add]; rfl
      refine ⟨i, w, by unfold bI; rw [hb], by rw [← hp2, hp]; exact h1, ?_⟩
      unfold wOf; rw [hb]; simp only [h1]
  refine ⟨hq, fun k hk => ?_, fun k hk => ?_, ?_⟩
  · obtain ⟨i, w, h1, h2, _⟩ := at_ (q - 1 - k)
    have := (List.getElem?_eq_some_iff.1 h2).1
    unfold fwd
    rw [h1]
    omega
  · obtain ⟨i, w, h1, h2, _⟩ := at_ (q - 1 - k)
    obtain ⟨i', w', h1', h2', _⟩ := at_ (q - 1 - (k + 1) % q)
    unfold fwd
    rw [h1, h1', rlAt_some h2, rlAt_some h2']
    show walk R S (q - 1 - k) v = walk R S (q - 1 - (k + 1) % q + 1) v
    by_cases hk1 : k + 1 = q
    · rw [hk1, Nat.mod_self, show q - 1 - 0 + 1 = q by omega, hwq, show q - 1 - k = 0 by omega]
      rfl
    · rw [Nat.mod_eq_of_lt (by omega), show q - 1 - (k + 1) + 1 = q - 1 - k by omega]
  · rw [wSum_sumF, ← sumF_rev] at hs
    rw [show (sumF q fun k => (rlAt R (fwd R S q v k)).2.2) = sumF q fun k => wOf R S (walk R S (q - 1 - k) v) from sumF_congr fun k _ => by
      obtain ⟨i, w, h1, h2, h3⟩ := at_ (q - 1 - k)
      unfold fwd
      rw [h1, rlAt_some h2, h3]]
    exact hs
theorem rev_fwd (R : List Rl) (S : BF) (q v : Nat) : (rowF q fun i => bI S (walk R S i v)).reverse = rowF q (fwd R S q v) := by
  apply List.ext_getElem?
  intro k
  by_cases hk : k < q
  · rw [rowF_get _ hk, List.getElem?_reverse (by rw [rowF_len]; exact hk), rowF_len, rowF_get _ (by omega)]
    rfl
  · rw [List.getElem?_eq_none (by rw [List.length_reverse, rowF_len]; omega), List.getElem?_eq_none (by rw [rowF_len]; omega)]

/-! ### The rounds -/
def rlxGo (R : List Rl) : Nat → Nat → BF → BF
  | 0, _, S => S
  | k + 1, ρ, S => match (bfRound R ρ S).last with
    | none => bfRound R ρ S
    | some _ => rlxGo R k (ρ + 1) (bfRound R ρ S)
def bf0 : BF := ⟨fun _ => 0, fun _ => none, fun _ => 0, none⟩
def rlxF (R : List Rl) (J : Nat) : BF := rlxGo R (J + 1) 0 bf0
section
variable {call mu : FuncId → List D → Option D} {f : Bool} {R : List Rl} {J : Nat}
theorem go114o (hR : Rok J R) (hmu : ∀ l : List Int, l.length ≤ 1000 → mu 177 [.slc false l.length (ints l)] = some (.slc false l.length (ints l.reverse))) : ∀ (k ρ : Nat) (S : BF) (M : List (Nat × Nat)) (fuel : Nat), ρ + k = J + 1 → BInv R (ρ * R.length) S → Bd (ρ * R.length) S → (∀ v, asN v M = S.b v) → (k = 0 → ∃ v, S.last = some v ∧ v < J ∧ J * R.length < S.t v) → k < fuel →
    ((rlxGo R k ρ S).last = none → F114_250 call mu LL C1 fuel (J : Int) f R.length (rlC R) J (lastI S.last) ((J + 1 : Nat) : Int) (ρ : Int) (ints (rowF J S.d)) (kysC M) (vlsC M) = some (.tup [.slc false J (ints (rowF J (rlxGo R k ρ S).d)), .nils])) ∧
    (∀ v, (rlxGo R k ρ S).last = some v → ∃ q g, q ≤ J ∧ Conf R q g ∧ F114_250 call mu LL C1 fuel (J : Int) f R.length (rlC R) J (lastI S.last) ((J + 1 : Nat) : Int) (ρ : Int) (ints (rowF J S.d)) (kysC M) (vlsC M) = some (.tup [.nils, .slc false q (ints (rowF q g))]))
  | 0, ρ, S, M, fuel, hk, hI, hb, hM, h0, hf => by
    obtain ⟨fuel, rfl⟩ : ∃ n, fuel = n + 1 := ⟨fuel - 1, by omega⟩
    obtain ⟨v, hv, hvJ, ht⟩ := h0 rfl
    refine ⟨fun h => ?_, fun v' hv' => ?_⟩
    · rw [show rlxGo R 0 ρ S = S from rfl, hv] at h; cases h
    · rw [show rlxGo R 0 ρ S = S from rfl, hv] at hv'
      cases hv'
      have hj := hR.j
      obtain ⟨q, q1, q2, q3, q4, q5, q6⟩ := cycle_at hI hR.f hvJ ht
      have h506 := go506 (call := call) (mu := mu) (f := f) hR hI hM J 0 v LL (by omega) q5 (by unfold LL; omega)
      have hw : ∀ m, S.b (walk R S m (walk R S J v)) ≠ none := fun m => by rw [← walk_add]; exact q5 _
      have h1018 := go1018 (call := call) (f := f) hR hI hM hmu (by omega) q3 q4 hw q 0 LL (by omega) q1 (by unfold LL; omega)
      refine ⟨q, fwd R S q (walk R S J v), q2, conf_of hI q1 q3 hw q6, ?_⟩
      rw [← rev_fwd, F114_250_eq, show decide ((ρ : Int) < ((J + 1 : Nat) : Int)) = false by simp; omega, ifK_false, hv]
      exact h506.trans h1018
  | k + 1, ρ, S, M, fuel, hk, hI, hb, hM, _, hf => by
    obtain ⟨fuel, rfl⟩ : ∃ n, fuel = n + 1 := ⟨fuel - 1, by omega⟩
    have hj := hR.j
    have hn := hR.n
    have hmul : ρ * R.length ≤ 1000 * 1000 := Nat.mul_le_mul (by omega) hn
    obtain ⟨M', hM', he⟩ := go114i (call := call) (mu := mu) (f := f) hR (n := fuel) (t16 := ((J + 1 : Nat) : Int)) (t17 := (ρ : Int)) R 0 (ρ * R.length) { S with last := none } M LL rfl (by omega) (by omega) hb hM (by unfold LL; omega)
    have hI' := binv_round (ρ := ρ) hI
    have hb' : Bd ((ρ + 1) * R.length) (bfRound R ρ S) := by
      have := bd_go (fun x hx => (hR.l x hx).2) R 0 (ρ * R.length) { S with last := none } (fun _ h => h) hb
      rw [show ρ * R.length + R.length = (ρ + 1) * R.length by rw [Nat.succ_mul]] at this
      exact this
    have he : F114_250 call mu LL C1 (fuel + 1) (J : Int) f R.length (rlC R) J (lastI S.last) ((J + 1 : Nat) : Int) (ρ : Int) (ints (rowF J S.d)) (kysC M) (vlsC M) = ifK (decide (lastI (bfRound R ρ S).last < 0)) (some (D.tup [D.slc false J (ints (rowF J (bfRound R ρ S).d)), D.nils]))
        (F114_250 call mu LL C1 fuel (J : Int) f R.length (rlC R) J (lastI (bfRound R ρ S).last) ((J + 1 : Nat) : Int) (IntKind.wrap .i64 ((ρ : Int) + 1)) (ints (rowF J (bfRound R ρ S).d)) (kysC M') (vlsC M')) := by
      rw [F114_250_eq, show decide ((ρ : Int) < ((J + 1 : Nat) : Int)) = true by simp; omega, ifK_true]
      exact he
    rw [he]
    cases hl : (bfRound R ρ S).last with
    | none =>
      rw [show rlxGo R (k + 1) ρ S = bfRound R ρ S by unfold rlxGo; rw [hl]]
      rw [hl]
      exact ⟨fun _ => rfl, fun v h => by cases h⟩
    | some v =>
      rw [show rlxGo R (k + 1) ρ S = rlxGo R k (ρ + 1) (bfRound R ρ S) by rw [rlxGo, hl]]
      have hlast := last_round hl
      have ih := go114o hR hmu k (ρ + 1) (bfRound R ρ S) M' fuel (by omega) hI' hb' hM' (fun hk0 => ⟨v, hl, by
        obtain ⟨x, hx, hxv⟩ := hlast.2
        rw [← hxv]
        exact hR.t x hx, by rw [show J = ρ by omega]; exact hlast.1⟩) (by omega)
      rw [hl] at ih
      rw [show decide (lastI (some v) < 0) = false from decide_eq_false (by show ¬ ((v : Int) < 0); omega), ifK_false, show IntKind.wrap .i64 ((ρ : Int) + 1) = ((ρ + 1 : Nat) : Int) from (wrap_in (by omega)).trans (by omega)]
      exact ih
end
theorem okR114 : okFn Tryz.prog O114 Tryz.f114 = true := by kernel_rfl
theorem ok114 {f : Bool} {R : List Rl} {J : Nat} (hR : Rok J R) :
    ((rlxF R J).last = none → OK2 114 [.int .i64 (J : Int), .slc f R.length (rlC R)] (.tup [.slc false J (ints (rowF J (rlxF R J).d)), .nils])) ∧
    (∀ v, (rlxF R J).last = some v → ∃ q g, q ≤ J ∧ Conf R q g ∧ OK2 114 [.int .i64 (J : Int), .slc f R.length (rlC R)] (.tup [.nils, .slc false q (ints (rowF q g))])) := by
  have hj := hR.j
  have hz : BInv R (0 * R.length) bf0 := by rw [Nat.zero_mul]; exact binv_start R
  have hmain := go114o (call := callOf fun _ _ => none) (f := f) hR muR_at (J + 1) 0 bf0 [] LL (by omega) hz (fun v => ⟨Int.le_refl 0, by show (0 : Int) ≤ _; omega⟩) (fun _ => rfl) (fun h => by omega) (by unfold LL; omega)
  have head : ∀ X, F114_250 (callOf fun _ _ => none) muR LL C1 LL (J : Int) f R.length (rlC R) J (lastI bf0.last) ((J + 1 : Nat) : Int) ((0 : Nat) : Int) (ints (rowF J bf0.d)) (kysC []) (vlsC []) = some X → evFnT (TEm (callOf fun _ _ => none) muR LL C1) O114 N114 FinM.raw Tryz.f114 [D.int IntKind.i64 (J : Int), D.slc f R.length (rlC R)] = some X := fun X h => by
    rw [F114_eq, show decide (0 ≤ (J : Int) ∧ (J : Int) ≤ (J : Int) ∧ (J : Int) * (8 : Int) ≤ 140737488355328 ∧ (J : Int) ≤ 9223372036854775807) = true from decide_eq_true ⟨by omega, by omega, by omega, by omega⟩, chkK_true, Int.toNat_natCast, rep_rowI, show IntKind.wrap .i64 ((J : Int) + 1) = ((J + 1 : Nat) : Int) from (wrap_in (by omega)).trans (by omega)]
    exact h
  refine ⟨fun h => ?_, fun v h => ?_⟩
  · exact fnU none_ok muR_ok Tryz.func114 (ord := O114) (N := N114) (.inr rfl) okR114 (head _ (hmain.1 h))
  · obtain ⟨q, g, h1, h2, h3⟩ := hmain.2 v h
    exact ⟨q, g, h1, h2, fnU none_ok muR_ok Tryz.func114 (ord := O114) (N := N114) (.inr rfl) okR114 (head _ h3)⟩
end Go.Pd
end

section
namespace Go.Pd
open Go Go.Proofs Go.RowKit
set_option maxRecDepth 100000

/-! ### Conditions as they come -/
abbrev Rz := Int × Int × Int
def rzC : List Rz → List D
  | [] => []
  | r :: l => .int .i64 r.1 :: .int .i64 r.2.1 :: .int .i64 r.2.2 :: rzC l
theorem rzC_app : ∀ a b : List Rz, rzC (a ++ b) = rzC a ++ rzC b
  | [], _ => rfl
  | x :: a, b => by
    show _ :: _ :: _ :: rzC (a ++ b) = _
    rw [rzC_app a b]; rfl
theorem rzC_get : ∀ (R : List Rz) (i : Nat) (r : Rz), R[i]? = some r → (rzC R)[i * 3 + 0]? = some (.int .i64 r.1) ∧ (rzC R)[i * 3 + 1]? = some (.int .i64 r.2.1) ∧ (rzC R)[i * 3 + 2]? = some (.int .i64 r.2.2)
  | [], _, _, h => by simp at h
  | x :: l, 0, r, h => by simp at h; subst h; exact ⟨rfl, rfl, rfl⟩
  | x :: l, i + 1, r, h => by
    have ih := rzC_get l i r (by simpa using h)
    rw [show (i + 1) * 3 + 0 = (i * 3 + 0) + 3 by omega, show (i + 1) * 3 + 1 = (i * 3 + 1) + 3 by omega, show (i + 1) * 3 + 2 = (i * 3 + 2) + 3 by omega]
    exact ih
theorem rz0 {γ : Type} {R : List Rz} {i : Nat} {r : Rz} (h : R[i]? = some r) (k : D → Option γ) : cellK (rzC R) (Int.toNat (i : Int) * 3 + 0) k = k (.int .i64 r.1) := cellK_some (rzC_get R i r h).1 k
theorem rz1 {γ : Type} {R : List Rz} {i : Nat} {r : Rz} (h : R[i]? = some r) (k : D → Option γ) : cellK (rzC R) (Int.toNat (i : Int) * 3 + 1) k = k (.int .i64 r.2.1) := cellK_some (rzC_get R i r h).2.1 k
theorem rz2 {γ : Type} {R : List Rz} {i : Nat} {r : Rz} (h : R[i]? = some r) (k : D → Option γ) : cellK (rzC R) (Int.toNat (i : Int) * 3 + 2) k = k (.int .i64 r.2.2) := cellK_some (rzC_get R i r h).2.2 k

/-! ### The error of conditions -/
def ruG (J : Int) : List Rz → Int
  | [] => 0
  | x :: r => ifK (decide (x.1 < 0)) 10 (ifK (decide (x.1 ≥ J)) 10 (ifK (decide (x.2.1 < 0)) 10 (ifK (decide (x.2.1 ≥ J)) 10 (ifK (decide (x.2.2 < -10000)) 3 (ifK (decide (x.2.2 > 10000)) 3 (ruG J r))))))
def ruE (J : Int) (L : List Rz) : Int := ifK (decide (J < 1)) 3 (ifK (decide (J > 24)) 3 (ifK (decide ((L.length : Int) > 256)) 5 (ruG J L)))
section
variable {call : FuncId → List D → Option D} {f : Bool} {L : List Rz} {J : Int}
theorem go57 (hl : L.length ≤ 1000) : ∀ (r : List Rz) (i fuel : Nat), L.drop i = r → i ≤ L.length → r.length < fuel → F57_122 call LL C1 fuel J f L.length (rzC L) (i : Int) = some (.int .i64 (ruG J r)) := by
  intro r
  induction r with
  | nil =>
    intro i fuel hd hi hf
    obtain ⟨fuel, rfl⟩ : ∃ n, fuel = n + 1 := ⟨fuel - 1, by omega⟩
    have hi' : i = L.length := by
      have := congrArg List.length hd
      simp at this
      omega
    rw [F57_122_eq, show decide ((i : Int) < (L.length : Int)) = false by simp; omega, ifK_false]
    rfl
  | cons x r ih =>
    intro i fuel hd hi hf
    obtain ⟨fuel, rfl⟩ : ∃ n, fuel = n + 1 := ⟨fuel - 1, by omega⟩
    have hlt : i < L.length := by
      have := congrArg List.length hd
      simp at this
      omega
    have hx : L[i]? = some x := by
      have := congrArg (fun l : List Rz => l[0]?) hd
      simpa using this
    have ih := ih (i + 1) fuel (by rw [← List.drop_drop, hd]; rfl) (by omega) (by simp at hf; omega)
    have e1 : decide ((0 : Int) ≤ (i : Int) ∧ (i : Int) < (L.length : Int)) = true := decide_eq_true ⟨by omega, by omega⟩
    have e5 : IntKind.wrap .i64 ((i : Int) + 1) = ((i + 1 : Nat) : Int) := (wrap_in (by omega)).trans (by omega)
    rw [F57_122_eq, show decide ((i : Int) < (L.length : Int)) = true by simp; omega, ifK_true, e1]
    simp only [chkK_true, rz0 hx, rz1 hx, intK_int, F57_3913_eq (C := C1) (hC := fun _ => rfl), F57_979_eq (C := C1) (hC := fun _ => rfl), e1, rz2 hx, e5, ih]
    rw [show ruG J (x :: r) = ifK (decide (x.1 < 0)) 10 (ifK (decide (x.1 ≥ J)) 10 (ifK (decide (x.2.1 < 0)) 10 (ifK (decide (x.2.1 ≥ J)) 10 (ifK (decide (x.2.2 < -10000)) 3 (ifK (decide (x.2.2 > 10000)) 3 (ruG J r)))))) from rfl]
    cases decide (x.1 < 0) <;> cases decide (x.1 ≥ J) <;> cases decide (x.2.1 < 0) <;> cases decide (x.2.1 ≥ J) <;> cases decide (x.2.2 < -10000) <;> cases decide (x.2.2 > 10000) <;> rfl
end
theorem okf57 : okFn Tryz.prog O0 Tryz.f57 = true := by kernel_rfl
theorem ok57 {f : Bool} (J : Int) (L : List Rz) (hl : L.length ≤ 1000) : OK2 57 [.int .i64 J, .slc f L.length (rzC L)] (.int .i64 (ruE J L)) := by
  refine fnT none_ok Tryz.func57 (ord := O0) (N := N57) okf57 ((F57_eq _ _ _ _ _ _ _).trans ?_)
  have h : F57_122 (callOf fun _ _ => none) LL C1 LL J f L.length (rzC L) (0 : Int) = some (.int .i64 (ruG J L)) := go57 (call := callOf fun _ _ => none) (f := f) (J := J) hl L 0 LL rfl (Nat.zero_le _) (by unfold LL; omega)
  rw [F57_7_eq (C := C1) (hC := fun _ => rfl), h]
  unfold ruE
  cases decide (J < 1) <;> cases decide (J > 24) <;> cases decide ((L.length : Int) > 256) <;> rfl

/-! .. by the program. -/
section
variable {call : FuncId → List D → Option D} {f : Bool} {L : List Rz} {J : Int}
theorem go113 (hl : L.length ≤ 1000) (hJ : 1 ≤ J ∧ J ≤ 24) (h100 : ∀ n a b : Int, call 100 [.int .i64 n, .int .i64 a, .int .i64 b] = some (.bool (outLM (n, a, b)))) (h84 : ∀ b e, call 84 [.bool b, .int .i64 e] = some (.int .i64 (ifK b e 0)))
    (h76 : ∀ a b : Int, call 76 [.slc true 2 [.int .i64 a, .int .i64 b]] = some (.int .i64 (firstZ [a, b]))) : ∀ (r : List Rz) (i fuel : Nat), L.drop i = r → i ≤ L.length → r.length < fuel → F113_58 call LL C1 fuel J f L.length (rzC L) (L.length : Int) (i : Int) = some (.int .i64 (ruG J r)) := by
  intro r
  induction r with
  | nil =>
    intro i fuel hd hi hf
    obtain ⟨fuel, rfl⟩ : ∃ n, fuel = n + 1 := ⟨fuel - 1, by omega⟩
    have hi' : i = L.length := by
      have := congrArg List.length hd
      simp at this
      omega
    rw [F113_58_eq, show decide ((i : Int) < (L.length : Int)) = false by simp; omega, ifK_false]
    rfl
  | cons x r ih =>
    intro i fuel hd hi hf
    obtain ⟨fuel, rfl⟩ : ∃ n, fuel = n + 1 := ⟨fuel - 1, by omega⟩
    have hlt : i < L.length := by
      have := congrArg List.length hd
      simp at this
      omega
    have hx : L[i]? = some x := by
      have := congrArg (fun l : List Rz => l[0]?) hd
      simpa using this
    have ih := ih (i + 1) fuel (by rw [← List.drop_drop, hd]; rfl) (by omega) (by simp at hf; omega)
    have e1 : decide ((0 : Int) ≤ (i : Int) ∧ (i : Int) < (L.length : Int)) = true := decide_eq_true ⟨by omega, by omega⟩
    have e5 : IntKind.wrap .i64 ((i : Int) + 1) = ((i + 1 : Nat) : Int) := (wrap_in (by omega)).trans (by omega)
    have e6 : IntKind.wrap .i64 (J - 1) = J - 1 := wrap_in (by omega)
    have o1 : ∀ y : Int, outLM (y, 0, J - 1) = ifK (decide (y < 0)) true (decide (y ≥ J)) := fun y => by
      unfold outLM
      show ifK (decide (y < 0)) true (decide (y > J - 1)) = _
      rw [show decide (y > J - 1) = decide (y ≥ J) from decide_eq_decide.2 (by omega)]
    have o2 : outLM (x.2.2, -10000, 10000) = ifK (decide (x.2.2 < -10000)) true (decide (x.2.2 > 10000)) := rfl
    rw [F113_58_eq, show decide ((i : Int) < (L.length : Int)) = true by simp; omega, ifK_true, e1]
    simp only [chkK_true, rz0 hx, rz1 hx, rz2 hx, intK_int, e5, e6, h100, h84, h76, optK_some, boolK_bool, ih, o1, o2]
    rw [show ruG J (x :: r) = ifK (decide (x.1 < 0)) 10 (ifK (decide (x.1 ≥ J)) 10 (ifK (decide (x.2.1 < 0)) 10 (ifK (decide (x.2.1 ≥ J)) 10 (ifK (decide (x.2.2 < -10000)) 3 (ifK (decide (x.2.2 > 10000)) 3 (ruG J r)))))) from rfl]
    cases decide (x.1 < 0) <;> cases decide (x.1 ≥ J) <;> cases decide (x.2.1 < 0) <;> cases decide (x.2.1 ≥ J) <;> cases decide (x.2.2 < -10000) <;> cases decide (x.2.2 > 10000) <;> rfl
end
theorem okf113 : okFn Tryz.prog O0 Tryz.f113 = true := by kernel_rfl
theorem ok113 {f : Bool} (J : Int) (L : List Rz) (hl : L.length ≤ 1000) : OK2 113 [.int .i64 J, .slc f L.length (rzC L)] (.int .i64 (ruE J L)) := by
  obtain ⟨B, hb, e84, e100, e76, _⟩ := exF [famBE 84, fam100, famFi 76] ⟨famBE_good ok84 (fun _ _ => rfl), fam100_good, famFi_good (fun l hl => ok76 l hl) (fun _ _ => rfl), trivial⟩ rfl
  have f84 : ∀ b e, callOf B 84 [.bool b, .int .i64 e] = some (.int .i64 (ifK b e 0)) := fun b e => e84 (b, e)
  have f100 : ∀ n a b : Int, callOf B 100 [.int .i64 n, .int .i64 a, .int .i64 b] = some (.bool (outLM (n, a, b))) := fun n a b => e100 (n, a, b)
  have f76 : ∀ a b : Int, callOf B 76 [.slc true 2 [.int .i64 a, .int .i64 b]] = some (.int .i64 (firstZ [a, b])) := fun a b => e76 ⟨[a, b], by simp⟩
  refine fnT hb Tryz.func113 (ord := O0) (N := N113) okf113 ((F113_eq _ _ _ _ _ _ _).trans ?_)
  rw [f100, optK_some, boolK_bool, f84, optK_some, intK_int, f84, optK_some, intK_int, f76, optK_some, intK_int]
  have hX : 1 ≤ J ∧ J ≤ 24 → F113_58 (callOf B) LL C1 LL J f L.length (rzC L) (L.length : Int) (0 : Int) = some (.int .i64 (ruG J L)) := fun hJ => go113 hl hJ f100 f84 f76 L 0 LL rfl (Nat.zero_le _) (by unfold LL; omega)
  generalize F113_58 (callOf B) LL C1 LL J f L.length (rzC L) (L.length : Int) (0 : Int) = X at hX ⊢
  unfold ruE
  have o : outLM (J, 1, 24) = ifK (decide (J < 1)) true (decide (J > 24)) := rfl
  rw [o]
  cases h1 : decide (J < 1)
  · cases h2 : decide (J > 24)
    · cases h3 : decide ((L.length : Int) > 256)
      · exact hX (by simp at h1 h2; omega)
      · rfl
    · rfl
  · rfl
def toR (L : List Rz) : List Rl := L.map fun x => (x.1.toNat, x.2.1.toNat, x.2.2)
theorem ruG_zero {J : Int} : ∀ {L : List Rz}, ruG J L = 0 → ∀ x ∈ L, (0 ≤ x.1 ∧ x.1 < J) ∧ (0 ≤ x.2.1 ∧ x.2.1 < J) ∧ (-10000 ≤ x.2.2 ∧ x.2.2 ≤ 10000)
  | [], _, x, hx => by cases hx
  | y :: r, h, x, hx => by
    rw [show ruG J (y :: r) = ifK (decide (y.1 < 0)) 10 (ifK (decide (y.1 ≥ J)) 10 (ifK (decide (y.2.1 < 0)) 10 (ifK (decide (y.2.1 ≥ J)) 10 (ifK (decide (y.2.2 < -10000)) 3 (ifK (decide (y.2.2 > 10000)) 3 (ruG J r)))))) from rfl] at h
    cases h1 : decide (y.1 < 0) <;> cases h2 : decide (y.1 ≥ J) <;> cases h3 : decide (y.2.1 < 0) <;> cases h4 : decide (y.2.1 ≥ J) <;> cases h5 : decide (y.2.2 < -10000) <;> cases h6 : decide (y.2.2 > 10000) <;> rw [h1, h2, h3, h4, h5, h6] at h <;> first
      | (cases h; done)
      | (rcases List.mem_cons.1 hx with rfl | hx
         · simp at h1 h2 h3 h4 h5 h6; omega
         · exact ruG_zero h x hx)
theorem ruE_zero {J : Int} {L : List Rz} (h : ruE J L = 0) : (1 ≤ J ∧ J ≤ 24) ∧ L.length ≤ 256 ∧ ruG J L = 0 := by
  unfold ruE at h
  cases h1 : decide (J < 1) <;> cases h2 : decide (J > 24) <;> cases h3 : decide ((L.length : Int) > 256) <;> rw [h1, h2, h3] at h <;> first
    | (cases h; done)
    | (simp at h1 h2 h3; exact ⟨by omega, by omega, h⟩)
theorem rok_of {J : Int} {L : List Rz} (h : ruE J L = 0) : Rok J.toNat (toR L) := by
  obtain ⟨h1, h2, h3⟩ := ruE_zero h
  have key : ∀ x ∈ toR L, ∃ y ∈ L, x = (y.1.toNat, y.2.1.toNat, y.2.2) := fun x hx => by
    obtain ⟨y, hy, rfl⟩ := List.mem_map.1 hx
    exact ⟨y, hy, rfl⟩
  refine ⟨fun x hx => ?_, fun x hx => ?_, fun x hx => ?_, by simp [toR]; omega, by omega⟩ <;>
  · obtain ⟨y, hy, rfl⟩ := key x hx
    have := ruG_zero h3 y hy
    first | (show y.1.toNat < J.toNat; omega) | (show y.2.1.toNat < J.toNat; omega) | exact this.2.2
theorem rlC_of : ∀ {L : List Rz}, (∀ x ∈ L, 0 ≤ x.1 ∧ 0 ≤ x.2.1) → rlC (toR L) = rzC L
  | [], _ => rfl
  | x :: L, h => by
    have h0 := h x (List.mem_cons_self ..)
    show D.int .i64 ((x.1.toNat : Nat) : Int) :: D.int .i64 ((x.2.1.toNat : Nat) : Int) :: D.int .i64 x.2.2 :: rlC (toR L) = _
    rw [rlC_of fun y hy => h y (List.mem_cons_of_mem _ hy), Int.toNat_of_nonneg h0.1, Int.toNat_of_nonneg h0.2]
    rfl
theorem rlC_rz {J : Int} {L : List Rz} (h : ruE J L = 0) : rlC (toR L) = rzC L := rlC_of fun x hx => by
  have := ruG_zero (ruE_zero h).2.2 x hx
  omega
end Go.Pd
end

section
namespace Go.Pd
open Go Go.Proofs Go.RowKit
set_option maxRecDepth 100000

def rzAt (L : List Rz) (x : Int) : Rz := L.getD x.toNat (0, 0, 0)
def brk (L : List Rz) (c : List Int) (i : Nat) : Bool := (rzAt L (c.getD i 0)).2.1 != (rzAt L (c.getD ((i + 1) % c.length) 0)).1
def cfGo (L : List Rz) (c : List Int) : Nat → Nat → Int → Bool → Int
  | 0, _, s, b => ifK b 21 (ifK (decide (s ≤ 0)) 21 0)
  | k + 1, i, s, b => cfGo L c k (i + 1) (s + (rzAt L (c.getD i 0)).2.2) (ifK b true (brk L c i))
def cfR (L : List Rz) (c : List Int) : Nat → Nat → Int → Int
  | 0, _, s => ifK (decide (s ≤ 0)) 21 0
  | k + 1, i, s => ifK (brk L c i) 21 (cfR L c k (i + 1) (s + (rzAt L (c.getD i 0)).2.2))
theorem cf_true (L : List Rz) (c : List Int) : ∀ (k i : Nat) (s : Int), cfGo L c k i s true = 21
  | 0, _, _ => rfl
  | k + 1, i, s => cf_true L c k (i + 1) _
theorem cf_same (L : List Rz) (c : List Int) : ∀ (k i : Nat) (s : Int), cfGo L c k i s false = cfR L c k i s
  | 0, _, _ => rfl
  | k + 1, i, s => by
    show cfGo L c k (i + 1) (s + (rzAt L (c.getD i 0)).2.2) (brk L c i) = ifK (brk L c i) 21 (cfR L c k (i + 1) (s + (rzAt L (c.getD i 0)).2.2))
    cases brk L c i
    · exact cf_same L c k (i + 1) _
    · exact cf_true L c k (i + 1) _
def cyB (L : List Rz) (c : List Int) : Bool := c.any fun x => ifK (decide (x < 0)) true (decide (x ≥ (L.length : Int)))
def cyE (L : List Rz) (c : List Int) : Int := ifK ((c.length : Int) == 0) 12 (ifK (decide ((c.length : Int) > 256)) 5 (ifK (cyB L c) 10 (cfR L c c.length 0 0)))
def Rin (L : List Rz) : Prop := ∀ x ∈ L, -10000 ≤ x.2.2 ∧ x.2.2 ≤ 10000
theorem rz_at {L : List Rz} {x : Int} (h : 0 ≤ x ∧ x < (L.length : Int)) : ∃ i : Nat, x = (i : Int) ∧ L[i]? = some (rzAt L x) := by
  refine ⟨x.toNat, by omega, ?_⟩
  unfold rzAt
  rw [List.getD_eq_getElem?_getD, List.getElem?_eq_getElem (by omega)]
  rfl
theorem get_D {c : List Int} {i : Nat} (h : i < c.length) : c[i]? = some (c.getD i 0) := by
  rw [List.getD_eq_getElem?_getD, List.getElem?_eq_getElem h]
  rfl
theorem cy_in {L : List Rz} {c : List Int} (h : cyB L c = false) {i : Nat} (hi : i < c.length) : 0 ≤ c.getD i 0 ∧ c.getD i 0 < (L.length : Int) := by
  have := List.any_eq_false.1 h (c.getD i 0) (List.mem_of_getElem? (get_D hi))
  cases h1 : decide (c.getD i 0 < 0) <;> cases h2 : decide (c.getD i 0 ≥ (L.length : Int)) <;> rw [h1, h2] at this <;> first
    | (simp [ifK] at this; done)
    | (simp only [decide_eq_false_iff_not] at h1 h2; omega)
section
variable {call : FuncId → List D → Option D} {f g : Bool} {L : List Rz} {c : List Int}
theorem rzA0 {γ : Type} {x : Int} (h : 0 ≤ x ∧ x < (L.length : Int)) (k : D → Option γ) : cellK (rzC L) (Int.toNat x * 3 + 0) k = k (.int .i64 (rzAt L x).1) := by
  obtain ⟨j, hj, h2⟩ := rz_at h
  have := rz0 h2 k
  rw [← hj] at this
  exact this
theorem rzA1 {γ : Type} {x : Int} (h : 0 ≤ x ∧ x < (L.length : Int)) (k : D → Option γ) : cellK (rzC L) (Int.toNat x * 3 + 1) k = k (.int .i64 (rzAt L x).2.1) := by
  obtain ⟨j, hj, h2⟩ := rz_at h
  have := rz1 h2 k
  rw [← hj] at this
  exact this
theorem rzA2 {γ : Type} {x : Int} (h : 0 ≤ x ∧ x < (L.length : Int)) (k : D → Option γ) : cellK (rzC L) (Int.toNat x * 3 + 2) k = k (.int .i64 (rzAt L x).2.2) := by
  obtain ⟨j, hj, h2⟩ := rz_at h
  have := rz2 h2 k
  rw [← hj] at this
  exact this
theorem rz_in (hL : Rin L) {x : Int} (h : 0 ≤ x ∧ x < (L.length : Int)) : -10000 ≤ (rzAt L x).2.2 ∧ (rzAt L x).2.2 ≤ 10000 := by
  obtain ⟨j, _, h2⟩ := rz_at h
  exact hL _ (List.mem_of_getElem? h2)
theorem go61b (hL : Rin L) (hcl : c.length ≤ 1000) (hin : cyB L c = false) : ∀ (k i fuel : Nat) (s : Int), i + k = c.length → -10000 * (i : Int) ≤ s → s ≤ 10000 * (i : Int) → k < fuel →
    F61_506 call LL C1 fuel f L.length (rzC L) g c.length (ints c) s (i : Int) = some (.int .i64 (cfR L c k i s))
  | 0, i, fuel, s, hi, _, _, hf => by
    obtain ⟨fuel, rfl⟩ : ∃ n, fuel = n + 1 := ⟨fuel - 1, by omega⟩
    rw [F61_506_eq, show decide ((i : Int) < (c.length : Int)) = false by simp; omega, ifK_false]
    show _ = some (D.int .i64 (ifK (decide (s ≤ 0)) 21 0))
    cases decide (s ≤ 0) <;> rfl
  | k + 1, i, fuel, s, hi, h1, h2, hf => by
    obtain ⟨fuel, rfl⟩ : ∃ n, fuel = n + 1 := ⟨fuel - 1, by omega⟩
    have hlt : i < c.length := by omega
    have hm : (i + 1) % c.length < c.length := Nat.mod_lt _ (by omega)
    have i1 := cy_in hin hlt
    have i2 := cy_in hin hm
    have hb := rz_in hL i1
    have ih := go61b hL hcl hin k (i + 1) fuel (s + (rzAt L (c.getD i 0)).2.2) (by omega) (by omega) (by omega) (by omega)
    have e1 : decide ((0 : Int) ≤ (i : Int) ∧ (i : Int) < (c.length : Int)) = true := decide_eq_true ⟨by omega, by omega⟩
    have e4 : decide ((0 : Int) ≤ (((i + 1) % c.length : Nat) : Int) ∧ (((i + 1) % c.length : Nat) : Int) < (c.length : Int)) = true := decide_eq_true ⟨by omega, by omega⟩
    have e5 : IntKind.wrap .i64 ((i : Int) + 1) = ((i + 1 : Nat) : Int) := (wrap_in (by omega)).trans (by omega)
    have e6 : IntKind.wrap .i64 (s + (rzAt L (c.getD i 0)).2.2) = s + (rzAt L (c.getD i 0)).2.2 := wrap_in (by omega)
    have e7 : Int.tmod ((i + 1 : Nat) : Int) (c.length : Int) = (((i + 1) % c.length : Nat) : Int) := rfl
    have e8 : (!decide ((c.length : Int) = 0)) = true := by rw [decide_eq_false (by omega)]; rfl
    rw [F61_506_eq, show decide ((i : Int) < (c.length : Int)) = true by simp; omega, ifK_true]
    simp only [e1, chkK_true, cell_at (get_D hlt), intK_int, decide_eq_true i1, rzA2 i1, rzA1 i1, e5, e7, e8, e4, cell_at (get_D hm), decide_eq_true i2, rzA0 i2, e6, ih]
    show ifK (brk L c i) _ _ = some (D.int .i64 (ifK (brk L c i) 21 (cfR L c k (i + 1) (s + (rzAt L (c.getD i 0)).2.2))))
    cases brk L c i <;> rfl
theorem go61a (hcl : c.length ≤ 1000) : ∀ (r : List Int) (i fuel : Nat), c.drop i = r → i ≤ c.length → r.length < fuel →
    F61_122 call LL C1 fuel f L.length (rzC L) g c.length (ints c) (i : Int) = ifK (cyB L r) (some (.int .i64 10)) (F61_506 call LL C1 LL f L.length (rzC L) g c.length (ints c) 0 0) := by
  intro r
  induction r with
  | nil =>
    intro i fuel hd hi hf
    obtain ⟨fuel, rfl⟩ : ∃ n, fuel = n + 1 := ⟨fuel - 1, by omega⟩
    have hi' : i = c.length := by
      have := congrArg List.length hd
      simp at this
      omega
    rw [F61_122_eq, show decide ((i : Int) < (c.length : Int)) = false by simp; omega, ifK_false]
    rfl
  | cons x r ih =>
    intro i fuel hd hi hf
    obtain ⟨fuel, rfl⟩ : ∃ n, fuel = n + 1 := ⟨fuel - 1, by omega⟩
    have hlt : i < c.length := by
      have := congrArg List.length hd
      simp at this
      omega
    have hx : c[i]? = some x := by
      have := congrArg (fun l : List Int => l[0]?) hd
      simpa using this
    have ih := ih (i + 1) fuel (by rw [← List.drop_drop, hd]; rfl) (by omega) (by simp at hf; omega)
    have e1 : decide ((0 : Int) ≤ (i : Int) ∧ (i : Int) < (c.length : Int)) = true := decide_eq_true ⟨by omega, by omega⟩
    have e5 : IntKind.wrap .i64 ((i : Int) + 1) = ((i + 1 : Nat) : Int) := (wrap_in (by omega)).trans (by omega)
    rw [F61_122_eq, show decide ((i : Int) < (c.length : Int)) = true by simp; omega, ifK_true]
    simp only [e1, chkK_true, cell_at hx, intK_int, e5, ih]
    unfold cyB
    rw [List.any_cons]
    cases decide (x < 0) <;> cases decide (x ≥ (L.length : Int)) <;> rfl
end
theorem okf61 : okFn Tryz.prog O0 Tryz.f61 = true := by kernel_rfl
theorem ok61 {f g : Bool} {L : List Rz} (hL : Rin L) (c : List Int) (hcl : c.length ≤ 1000) : OK2 61 [.slc f L.length (rzC L), .slc g c.length (ints c)] (.int .i64 (cyE L c)) := by
  refine fnT none_ok Tryz.func61 (ord := O0) (N := N61) okf61 ((F61_eq _ _ _ _ _ _ _ _ _).trans ?_)
  have h1 : F61_122 (callOf fun _ _ => none) LL C1 LL f L.length (rzC L) g c.length (ints c) (0 : Int) = ifK (cyB L c) (some (.int .i64 10)) (F61_506 (callOf fun _ _ => none) LL C1 LL f L.length (rzC L) g c.length (ints c) 0 0) := go61a hcl c 0 LL rfl (Nat.zero_le _) (by unfold LL; omega)
  have h2 : cyB L c = false → F61_506 (callOf fun _ _ => none) LL C1 LL f L.length (rzC L) g c.length (ints c) (0 : Int) (0 : Int) = some (.int .i64 (cfR L c c.length 0 0)) := fun hc => go61b hL hcl hc c.length 0 LL 0 (Nat.zero_add _) (by omega) (by omega) (by unfold LL; omega)
  rw [h1]
  generalize F61_506 (callOf fun _ _ => none) LL C1 LL f L.length (rzC L) g c.length (ints c) (0 : Int) (0 : Int) = X at h2 ⊢
  unfold cyE
  cases ((c.length : Int) == 0)
  · cases decide ((c.length : Int) > 256)
    · cases hc : cyB L c
      · exact h2 hc
      · rfl
    · rfl
  · rfl

/-! ### By the program -/
section
variable {call : FuncId → List D → Option D} {f g : Bool} {L : List Rz} {c : List Int}
theorem go60 (hL : Rin L) (hcl : c.length ≤ 1000) (hin : cyB L c = false) (h84 : ∀ b e, call 84 [.bool b, .int .i64 e] = some (.int .i64 (ifK b e 0))) : ∀ (k i fuel : Nat) (s : Int) (b : Bool), i + k = c.length → -10000 * (i : Int) ≤ s → s ≤ 10000 * (i : Int) → k < fuel →
    F60_250 call LL C1 fuel g c.length (ints c) f L.length (rzC L) s b (c.length : Int) (i : Int) = some (.int .i64 (cfGo L c k i s b))
  | 0, i, fuel, s, b, hi, _, _, hf => by
    obtain ⟨fuel, rfl⟩ : ∃ n, fuel = n + 1 := ⟨fuel - 1, by omega⟩
    rw [F60_250_eq, show decide ((i : Int) < (c.length : Int)) = false by simp; omega, ifK_false]
    simp only [h84, optK_some, intK_int]
    show _ = some (D.int .i64 (ifK b 21 (ifK (decide (s ≤ 0)) 21 0)))
    cases b <;> cases decide (s ≤ 0) <;> rfl
  | k + 1, i, fuel, s, b, hi, h1, h2, hf => by
    obtain ⟨fuel, rfl⟩ : ∃ n, fuel = n + 1 := ⟨fuel - 1, by omega⟩
    have hlt : i < c.length := by omega
    have hm : (i + 1) % c.length < c.length := Nat.mod_lt _ (by omega)
    have i1 := cy_in hin hlt
    have i2 := cy_in hin hm
    have hb := rz_in hL i1
    have ih := fun b => go60 hL hcl hin h84 k (i + 1) fuel (s + (rzAt L (c.getD i 0)).2.2) b (by omega) (by omega) (by omega) (by omega)
    have e1 : decide ((0 : Int) ≤ (i : Int) ∧ (i : Int) < (c.length : Int)) = true := decide_eq_true ⟨by omega, by omega⟩
    have e4 : decide ((0 : Int) ≤ (((i + 1) % c.length : Nat) : Int) ∧ (((i + 1) % c.length : Nat) : Int) < (c.length : Int)) = true := decide_eq_true ⟨by omega, by omega⟩
    have e5 : IntKind.wrap .i64 ((i : Int) + 1) = ((i + 1 : Nat) : Int) := (wrap_in (by omega)).trans (by omega)
    have e6 : IntKind.wrap .i64 (s + (rzAt L (c.getD i 0)).2.2) = s + (rzAt L (c.getD i 0)).2.2 := wrap_in (by omega)
    have e7 : Int.tmod ((i + 1 : Nat) : Int) (c.length : Int) = (((i + 1) % c.length : Nat) : Int) := rfl
    have e8 : (!decide ((c.length : Int) = 0)) = true := by rw [decide_eq_false (by omega)]; rfl
    rw [F60_250_eq, show decide ((i : Int) < (c.length : Int)) = true by simp; omega, ifK_true]
    simp only [e1, chkK_true, cell_at (get_D hlt), intK_int, decide_eq_true i1, rzA2 i1, rzA1 i1, e5, e7, e8, e4, cell_at (get_D hm), decide_eq_true i2, rzA0 i2, e6, ih]
    show _ = some (D.int .i64 (cfGo L c k (i + 1) (s + (rzAt L (c.getD i 0)).2.2) (ifK b true (brk L c i))))
    cases b <;> rfl
end
/-! Is a number outside of the conditions? -/
def outI (L : List Rz) (x : Int) : Bool := outLM (x, 0, (L.length : Int) - 1)
theorem outI_eq (L : List Rz) (x : Int) : outI L x = ifK (decide (x < 0)) true (decide (x ≥ (L.length : Int))) := by
  unfold outI outLM
  show ifK (decide (x < 0)) true (decide (x > (L.length : Int) - 1)) = _
  rw [show decide (x > (L.length : Int) - 1) = decide (x ≥ (L.length : Int)) from decide_eq_decide.2 (by omega)]
end Go.Pd
end

section
namespace Go.Pd
open Go Go.Proofs Go.RowKit
set_option maxRecDepth 100000

section
variable {call : FuncId → List D → Option D} {f : Bool} {R : List Rl} {J : Nat}
theorem go62i (hR : Rok J R) {n : Nat} {ρ : Int} : ∀ (r : List Rl) (i now : Nat) (S : BF) (fuel : Nat), R.drop i = r → i ≤ R.length → now + r.length ≤ 10000000 → Bd now S → r.length < fuel →
    F62_14922 call LL C1 n fuel (J : Int) f R.length (rlC R) J ρ S.last.isNone (i : Int) (ints (rowF J S.d)) =
      ifK (bfGo r i now S).last.isNone (some (D.tup [D.slc false J (ints (rowF J (bfGo r i now S).d)), D.bool true])) (F62_58 call LL C1 n (J : Int) f R.length (rlC R) J (IntKind.wrap .i64 (ρ + 1)) (ints (rowF J (bfGo r i now S).d))) := by
  intro r
  induction r with
  | nil =>
    intro i now S fuel hd hi _ _ hf
    obtain ⟨fuel, rfl⟩ : ∃ n, fuel = n + 1 := ⟨fuel - 1, by omega⟩
    have hi' : i = R.length := by
      have := congrArg List.length hd
      simp at this
      omega
    rw [F62_14922_eq, show decide ((i : Int) < (R.length : Int)) = false by simp; omega, ifK_false]
    rfl
  | cons x r ih =>
    intro i now S fuel hd hi hnow hb hf
    obtain ⟨fuel, rfl⟩ : ∃ n, fuel = n + 1 := ⟨fuel - 1, by omega⟩
    have hlt : i < R.length := by
      have := congrArg List.length hd
      simp at this
      omega
    have hx : R[i]? = some x := by
      have := congrArg (fun l : List Rl => l[0]?) hd
      simpa using this
    have hxm := List.mem_of_getElem? hx
    have b1 := hR.f x hxm
    have b2 := hR.t x hxm
    have b3 := hR.l x hxm
    have hn := hR.n
    simp only [List.length_cons] at hnow hf
    have c1 := hb x.1
    have c2 := hb x.2.1
    have ih := ih (i + 1) (now + 1) (bfStep i now x S) fuel (by rw [← List.drop_drop, hd]; rfl) (by omega) (by omega) (bd_step hb b3.2) (by omega)
    have e1 : decide ((0 : Int) ≤ (i : Int) ∧ (i : Int) < (R.length : Int)) = true := decide_eq_true ⟨by omega, by omega⟩
    have e2 : decide ((0 : Int) ≤ (x.1 : Int) ∧ (x.1 : Int) < (J : Int)) = true := decide_eq_true ⟨by omega, by omega⟩
    have e3 : decide ((0 : Int) ≤ (x.2.1 : Int) ∧ (x.2.1 : Int) < (J : Int)) = true := decide_eq_true ⟨by omega, by omega⟩
    have e4 : IntKind.wrap .i64 (S.d x.1 + x.2.2) = S.d x.1 + x.2.2 := wrap_in (by omega)
    have e5 : IntKind.wrap .i64 ((i : Int) + 1) = ((i + 1 : Nat) : Int) := (wrap_in (by omega)).trans (by omega)
    have e6 : decide (Int.toNat (x.2.1 : Int) * 1 + 1 ≤ (ints (rowF J S.d)).length) = true := decide_eq_true (by rw [ints_len, rowF_len]; simp; omega)
    rw [F62_14922_eq, show decide ((i : Int) < (R.length : Int)) = true by simp; omega, ifK_true]
    simp only [e1, chkK_true, rl0 hx, intK_int, e2, cell_at (rowF_get S.d b1), rl2 hx, rl1 hx, e3, cell_at (rowF_get S.d b2), e4, e5, e6]
    rw [show bfGo (x :: r) i now S = bfGo r (i + 1) (now + 1) (bfStep i now x S) from rfl, ← ih]
    unfold bfStep
    by_cases hc : S.d x.2.1 < S.d x.1 + x.2.2
    · rw [decide_eq_true hc, ifK_true, if_pos hc, Int.toNat_natCast, ints_set, rowF_set]
      rfl
    · rw [decide_eq_false hc, ifK_false, if_neg hc]
theorem go62o (hR : Rok J R) : ∀ (k ρ : Nat) (S : BF) (fuel : Nat), ρ + k = J + 1 → Bd (ρ * R.length) S → (k = 0 → S.last ≠ none) → k < fuel →
    F62_58 call LL C1 fuel (J : Int) f R.length (rlC R) J (ρ : Int) (ints (rowF J S.d)) = some (ifK (rlxGo R k ρ S).last.isNone (.tup [.slc false J (ints (rowF J (rlxGo R k ρ S).d)), .bool true]) (.tup [.slc true 0 [], .bool false]))
  | 0, ρ, S, fuel, hk, _, h0, hf => by
    obtain ⟨fuel, rfl⟩ : ∃ n, fuel = n + 1 := ⟨fuel - 1, by omega⟩
    rw [F62_58_eq, show decide ((ρ : Int) ≤ (J : Int)) = false by simp; omega, ifK_false]
    show _ = some (ifK S.last.isNone _ _)
    cases hl : S.last with
    | none => exact absurd hl (h0 rfl)
    | some v => rfl
  | k + 1, ρ, S, fuel, hk, hb, _, hf => by
    obtain ⟨fuel, rfl⟩ : ∃ n, fuel = n + 1 := ⟨fuel - 1, by omega⟩
    have hj := hR.j
    have hn := hR.n
    have hmul : ρ * R.length ≤ 1000 * 1000 := Nat.mul_le_mul (by omega) hn
    have hi := go62i (call := call) (f := f) hR (n := fuel) (ρ := (ρ : Int)) R 0 (ρ * R.length) { S with last := none } LL rfl (by omega) (by omega) hb (by unfold LL; omega)
    have hb' : Bd ((ρ + 1) * R.length) (bfRound R ρ S) := by
      have := bd_go (fun x hx => (hR.l x hx).2) R 0 (ρ * R.length) { S with last := none } (fun _ h => h) hb
      rw [show ρ * R.length + R.length = (ρ + 1) * R.length by rw [Nat.succ_mul]] at this
      exact this
    have hi : F62_58 call LL C1 (fuel + 1) (J : Int) f R.length (rlC R) J (ρ : Int) (ints (rowF J S.d)) = ifK (bfRound R ρ S).last.isNone (some (D.tup [D.slc false J (ints (rowF J (bfRound R ρ S).d)), D.bool true])) (F62_58 call LL C1 fuel (J : Int) f R.length (rlC R) J (IntKind.wrap .i64 ((ρ : Int) + 1)) (ints (rowF J (bfRound R ρ S).d))) := by
      rw [F62_58_eq, show decide ((ρ : Int) ≤ (J : Int)) = true by simp; omega, ifK_true]
      exact hi
    rw [hi]
    cases hl : (bfRound R ρ S).last with
    | none =>
      rw [show rlxGo R (k + 1) ρ S = bfRound R ρ S by unfold rlxGo; rw [hl]]
      rw [hl]
      rfl
    | some v =>
      rw [show rlxGo R (k + 1) ρ S = rlxGo R k (ρ + 1) (bfRound R ρ S) by rw [rlxGo, hl]]
      have ih := go62o hR k (ρ + 1) (bfRound R ρ S) fuel (by omega) hb' (fun _ h => by rw [hl] at h; cases h) (by omega)
      rw [show IntKind.wrap .i64 ((ρ : Int) + 1) = ((ρ + 1 : Nat) : Int) from (wrap_in (by omega)).trans (by omega), ih]
      rfl
end
theorem okf62 : okFn Tryz.prog O0 Tryz.f62 = true := by kernel_rfl
theorem ok62 {f : Bool} {R : List Rl} {J : Nat} (hR : Rok J R) : OK2 62 [.int .i64 (J : Int), .slc f R.length (rlC R)] (ifK (rlxF R J).last.isNone (.tup [.slc false J (ints (rowF J (rlxF R J).d)), .bool true]) (.tup [.slc true 0 [], .bool false])) := by
  have hj := hR.j
  refine fnT none_ok Tryz.func62 (ord := O0) (N := N62) okf62 ((F62_eq _ _ _ _ _ _ _).trans ?_)
  rw [show decide (0 ≤ (J : Int) ∧ (J : Int) ≤ (J : Int) ∧ (J : Int) * (8 : Int) ≤ 140737488355328 ∧ (J : Int) ≤ 9223372036854775807) = true from decide_eq_true ⟨by omega, by omega, by omega, by omega⟩, chkK_true, Int.toNat_natCast, rep_rowI]
  exact go62o hR (J + 1) 0 bf0 LL (by omega) (fun v => ⟨Int.le_refl 0, by show (0 : Int) ≤ _; omega⟩) (fun h => by omega) (by unfold LL; omega)
end Go.Pd
end

section
namespace Go.Pd
open Go Go.Proofs
set_option maxRecDepth 100000
theorem F58_eq (call : FuncId → List D → Option D) (L : Nat) (C : Nat → Nat) (vjobs : Int) (vl_f : Bool) (vl_n : Nat) (vl_c : List D) : evFnT (TEv call L C) O0 N0 FinM.canon Tryz.f58 [D.int IntKind.i64 vjobs, D.slc vl_f vl_n vl_c] =
  (optK (call 113 [D.int IntKind.i64 vjobs, D.slc vl_f vl_n vl_c]) fun r =>
    (intK IntKind.i64 (r) fun x =>
    (ifK (x != 0)
      (some (D.tup [D.slc true 0 [], D.int IntKind.i64 x]))
      (optK (call 114 [D.int IntKind.i64 vjobs, D.slc vl_f vl_n vl_c]) fun r_1 =>
        (tupK (r_1) 2 fun c =>
        (cellK (c) (0) fun d =>
        (nilK (d)
          (cellK (c) (1) fun d_1 =>
          (nilK (d_1)
            (optK (call 84 [D.bool false, D.int IntKind.i64 23]) fun r_2 =>
              (intK IntKind.i64 (r_2) fun x_1 =>
              (some (D.tup [D.slc true 0 [], D.int IntKind.i64 x_1])))) fun _f n _c_1 =>
            (chkK (decide (0 < n))
              (optK (call 84 [D.bool true, D.int IntKind.i64 23]) fun r_3 =>
                (intK IntKind.i64 (r_3) fun x_2 =>
                (some (D.tup [D.slc true 0 [], D.int IntKind.i64 x_2]))))))) fun f_1 n_1 c_2 =>
          (cellK (c) (1) fun d_2 =>
          (nilK (d_2)
            (optK (call 84 [D.bool false, D.int IntKind.i64 23]) fun r_4 =>
              (intK IntKind.i64 (r_4) fun x_3 =>
              (some (D.tup [D.slc f_1 n_1 c_2, D.int IntKind.i64 x_3])))) fun _f_2 n_2 _c_3 =>
            (chkK (decide (0 < n_2))
              (optK (call 84 [D.bool true, D.int IntKind.i64 23]) fun r_5 =>
                (intK IntKind.i64 (r_5) fun x_4 =>
                (some (D.tup [D.slc f_1 n_1 c_2, D.int IntKind.i64 x_4])))))))))))))) := by kernel_rfl

theorem F59_eq (call : FuncId → List D → Option D) (L : Nat) (C : Nat → Nat) (vjobs : Int) (vl_f : Bool) (vl_n : Nat) (vl_c : List D) : evFnT (TEv call L C) O0 N0 FinM.canon Tryz.f59 [D.int IntKind.i64 vjobs, D.slc vl_f vl_n vl_c] =
  (optK (call 113 [D.int IntKind.i64 vjobs, D.slc vl_f vl_n vl_c]) fun r =>
    (intK IntKind.i64 (r) fun x =>
    (ifK (x != 0)
      (some (D.tup [D.slc true 0 [], D.int IntKind.i64 x]))
      (optK (call 114 [D.int IntKind.i64 vjobs, D.slc vl_f vl_n vl_c]) fun r_1 =>
        (tupK (r_1) 2 fun c =>
        (cellK (c) (0) fun d =>
        (nilK (d)
          (cellK (c) (1) fun d_1 =>
          (nilK (d_1)
            (optK (call 84 [D.bool true, D.int IntKind.i64 7]) fun r_2 =>
              (intK IntKind.i64 (r_2) fun x_1 =>
              (some (D.tup [D.slc true 0 [], D.int IntKind.i64 x_1])))) fun f n c_1 =>
            (chkK (decide (0 < n))
              (optK (call 84 [D.bool false, D.int IntKind.i64 7]) fun r_3 =>
                (intK IntKind.i64 (r_3) fun x_2 =>
                (some (D.tup [D.slc f n c_1, D.int IntKind.i64 x_2]))))))) fun _f_1 _n_1 _c_2 =>
          (cellK (c) (1) fun d_2 =>
          (nilK (d_2)
            (optK (call 84 [D.bool true, D.int IntKind.i64 7]) fun r_4 =>
              (intK IntKind.i64 (r_4) fun x_3 =>
              (some (D.tup [D.slc true 0 [], D.int IntKind.i64 x_3])))) fun f_2 n_2 c_3 =>
            (chkK (decide (0 < n_2))
              (optK (call 84 [D.bool false, D.int IntKind.i64 7]) fun r_5 =>
                (intK IntKind.i64 (r_5) fun x_4 =>
                (some (D.tup [D.slc f_2 n_2 c_3, D.int IntKind.i64 x_4])))))))))))))) := by kernel_rfl

theorem F115_eq (call : FuncId → List D → Option D) (L : Nat) (C : Nat → Nat) (vi : Int) (t10_f : Bool) (t10_n : Nat) (t10_c : List D) : evFnT (TEf call L C) O0 N0 FinM.canon Tryz.f115 [D.int IntKind.i64 vi, D.snap [D.slc t10_f t10_n t10_c] 0] =
  (optK (call 100 [D.int IntKind.i64 vi, D.int IntKind.i64 0, D.int IntKind.i64 (IntKind.wrap IntKind.i64 ((t10_n : Int) - 1))]) fun r =>
    (boolK (r) fun b =>
    (some (D.bool b)))) := by kernel_rfl

theorem F102b_eq (call : FuncId → List D → Option D) (L : Nat) (C : Nat → Nat) (vs_f : Bool) (vs_n : Nat) (vs_c : List D) (vfb00_f : Bool) (vfb00_n : Nat) (vfb00_c : List D) : evFnT (TEf call L C) O0 N0 FinM.canon Tryz.f102 [D.slc vs_f vs_n vs_c, D.fn (Fn.func 115) [] [D.snap [D.slc vfb00_f vfb00_n vfb00_c] 0]] =
  (optK (call 172 [D.slc vs_f vs_n vs_c, D.fn (Fn.func 115) [] [D.snap [D.slc vfb00_f vfb00_n vfb00_c] 0]]) fun r =>
    (intK IntKind.i64 (r) fun x =>
    (some (D.bool (decide (x ≥ 0)))))) := by kernel_rfl

noncomputable def F172b_26 (call : FuncId → List D → Option D) (L : Nat) (C : Nat → Nat) (n : Nat) (vs_f : Bool) (vs_n : Nat) (vs_c : List D) (vfb00_f : Bool) (vfb00_n : Nat) (vfb00_c : List D) (t7 : Int) (t8 : Int) : Option D :=
  loopAt (TEf call L C) O0 N172 FinM.canon Tryz.f172 [true, false, true, false] []  n (St.mk [D.slc vs_f vs_n vs_c, D.fn (Fn.func 115) [] [D.snap [D.slc vfb00_f vfb00_n vfb00_c] 0], J, J, J, J, J, D.int IntKind.i64 t7, D.int IntKind.i64 t8, J, J, J, J, J, J, J, J, J, J] [Z, Z, Z, Z, Z, Z, Z, Z, Z, Z, Z, Z, Z, Z, Z, Z, Z, Z, Z])
theorem F172b_26_eq (call : FuncId → List D → Option D) (L : Nat) (C : Nat → Nat) (n : Nat) (vs_f : Bool) (vs_n : Nat) (vs_c : List D) (vfb00_f : Bool) (vfb00_n : Nat) (vfb00_c : List D) (t7 : Int) (t8 : Int) : F172b_26 call L C  (n + 1) vs_f vs_n vs_c vfb00_f vfb00_n vfb00_c (t7) (t8) =
  (ifK (decide (t8 < t7))
    (chkK (decide (0 ≤ t8 ∧ t8 < (vs_n : Int)))
      (cellK (vs_c) (Int.toNat t8 * 1) fun d =>
      (intK IntKind.i64 (d) fun x =>
      (optK (call 115 [D.int IntKind.i64 x, D.snap [D.slc vfb00_f vfb00_n vfb00_c] 0]) fun r =>
        (boolK (r) fun b =>
        (ifK (b)
          (some (D.int IntKind.i64 t8))
          (F172b_26 call L C n vs_f vs_n vs_c vfb00_f vfb00_n vfb00_c (t7) (IntKind.wrap IntKind.i64 (t8 + 1)))))))))
    (some (D.int IntKind.i64 (-1)))) := by kernel_rfl
theorem F172b_eq (call : FuncId → List D → Option D) (L : Nat) (C : Nat → Nat) (vs_f : Bool) (vs_n : Nat) (vs_c : List D) (vfb00_f : Bool) (vfb00_n : Nat) (vfb00_c : List D) : evFnT (TEf call L C) O0 N172 FinM.canon Tryz.f172 [D.slc vs_f vs_n vs_c, D.fn (Fn.func 115) [] [D.snap [D.slc vfb00_f vfb00_n vfb00_c] 0]] =
  (F172b_26 call L C L vs_f vs_n vs_c vfb00_f vfb00_n vfb00_c ((vs_n : Int)) (0)) := by kernel_rfl

def N56 : NTab := fun p => match p with
  | 58 => some { keep := [3, 6, 7, 8], kl := [5], ren := [(5, 5), (15, 15)] }
  | _ => none
noncomputable def F56_58 (call : FuncId → List D → Option D) (L : Nat) (C : Nat → Nat) (n : Nat) (vl_f : Bool) (vl_n : Nat) (vl_c : List D) (vout : Ow) (t7 : Int) (t8 : Int) : Option D :=
  loopAt (TEf call L C) O0 N56 FinM.canon Tryz.f56 [true, true, false, true, false] []  n (St.mk [J, J, J, ownD 15 vout, J, J, D.slc vl_f vl_n vl_c, D.int IntKind.i64 t7, D.int IntKind.i64 t8, J, J, J, J, J, J, J, J, J] [Z, Z, Z, Z, Z, Z, Z, Z, Z, Z, Z, Z, Z, Z, Z, ownO 183 3 vout, Z, Z])
theorem F56_58_eqn (call : FuncId → List D → Option D) (L : Nat) (C : Nat → Nat) (n : Nat) (vl_f : Bool) (vl_n : Nat) (vl_c : List D) (t7 : Int) (t8 : Int) : F56_58 call L C  (n + 1) vl_f vl_n vl_c (Ow.nil) (t7) (t8) =
  (ifK (decide (t8 < t7))
    (chkK (decide (0 ≤ t8 ∧ t8 < (vl_n : Int)))
      (cellK (vl_c) (Int.toNat t8 * 3 + 0) fun d =>
      (intK IntKind.i64 (d) fun x =>
      (cellK (vl_c) (Int.toNat t8 * 3 + 1) fun d_1 =>
      (intK IntKind.i64 (d_1) fun x_1 =>
      (cellK (vl_c) (Int.toNat t8 * 3 + 2) fun d_2 =>
      (intK IntKind.i64 (d_2) fun x_2 =>
      (F56_58 call L C n vl_f vl_n vl_c (Ow.own 1 [D.int IntKind.i64 x, D.int IntKind.i64 x_1, D.int IntKind.i64 x_2]) (t7) (IntKind.wrap IntKind.i64 (t8 + 1))))))))))
    (some (D.slc true 0 []))) := by kernel_rfl
theorem F56_58_eqo (call : FuncId → List D → Option D) (L : Nat) (C : Nat → Nat) (n : Nat) (vl_f : Bool) (vl_n : Nat) (vl_c : List D) (vout_n : Nat) (vout_c : List D) (t7 : Int) (t8 : Int) : F56_58 call L C  (n + 1) vl_f vl_n vl_c (Ow.own vout_n vout_c) (t7) (t8) =
  (ifK (decide (t8 < t7))
    (chkK (decide (0 ≤ t8 ∧ t8 < (vl_n : Int)))
      (cellK (vl_c) (Int.toNat t8 * 3 + 0) fun d_3 =>
      (intK IntKind.i64 (d_3) fun x_3 =>
      (cellK (vl_c) (Int.toNat t8 * 3 + 1) fun d_4 =>
      (intK IntKind.i64 (d_4) fun x_4 =>
      (cellK (vl_c) (Int.toNat t8 * 3 + 2) fun d_5 =>
      (intK IntKind.i64 (d_5) fun x_5 =>
      (chkK (decide ((vout_n + 1) * 24 ≤ limit ∧ vout_n + 1 ≤ 9223372036854775807))
        (F56_58 call L C n vl_f vl_n vl_c (Ow.own (vout_n + 1) (vout_c ++ [D.int IntKind.i64 x_3, D.int IntKind.i64 x_4, D.int IntKind.i64 x_5])) (t7) (IntKind.wrap IntKind.i64 (t8 + 1)))))))))))
    (some (D.slc false vout_n vout_c))) := by kernel_rfl
theorem F56_eq (call : FuncId → List D → Option D) (L : Nat) (C : Nat → Nat) (vl_f : Bool) (vl_n : Nat) (vl_c : List D) : evFnT (TEf call L C) O0 N56 FinM.canon Tryz.f56 [D.slc vl_f vl_n vl_c] =
  (F56_58 call L C L vl_f vl_n vl_c (Ow.nil) ((vl_n : Int)) (0)) := by kernel_rfl

def N10 : NTab := fun p => match p with
  | 7 => some { keep := [0, 1, 2], kl := [], ren := [] }
  | _ => none
noncomputable def F10_7 (call : FuncId → List D → Option D) (L : Nat) (C : Nat → Nat) (vjobs : Int) (vl_f : Bool) (vl_n : Nat) (vl_c : List D) (vcycle_f : Bool) (vcycle_n : Nat) (vcycle_c : List D) : Option D :=
  cutAt (TEf call L C) O0 N10 FinM.canon Tryz.f10 [true, true] []  (C 7) (St.mk [D.int IntKind.i64 vjobs, D.slc vl_f vl_n vl_c, D.slc vcycle_f vcycle_n vcycle_c, J, J, J, J, J, J, J, J, J, J, J, J, J, J, J, J, J, J, J, J, J, J, J, J, J, J, J, J, J, J, J, J, J, J, J, J, J, J, J, J, J, J, J, J, J, J, J, J, J, J, J, J, J, J, J, J, J, J, J, J, J, J, J, J, J, J, J, J, J, J, J, J, J, J, J, J, J, J, J, J, J, J, J, J, J, J, J, J, J, J, J, J, J, J, J, J, J, J, J, J, J, J, J, J, J, J, J, J, J, J, J, J, J, J, J, J, J, J, J, J, J, J, J, J, J, J, J, J, J, J] [Z, Z, Z, Z, Z, Z, Z, Z, Z, Z, Z, Z, Z, Z, Z, Z, Z, Z, Z, Z, Z, Z, Z, Z, Z, Z, Z, Z, Z, Z, Z, Z, Z, Z, Z, Z, Z, Z, Z, Z, Z, Z, Z, Z, Z, Z, Z, Z, Z, Z, Z, Z, Z, Z, Z, Z, Z, Z, Z, Z, Z, Z, Z, Z, Z, Z, Z, Z, Z, Z, Z, Z, Z, Z, Z, Z, Z, Z, Z, Z, Z, Z, Z, Z, Z, Z, Z, Z, Z, Z, Z, Z, Z, Z, Z, Z, Z, Z, Z, Z, Z, Z, Z, Z, Z, Z, Z, Z, Z, Z, Z, Z, Z, Z, Z, Z, Z, Z, Z, Z, Z, Z, Z, Z, Z, Z, Z, Z, Z, Z, Z, Z, Z])
theorem F10_7_eq (call : FuncId → List D → Option D) (L : Nat) (C : Nat → Nat) (vjobs : Int) (vl_f : Bool) (vl_n : Nat) (vl_c : List D) (vcycle_f : Bool) (vcycle_n : Nat) (vcycle_c : List D) (hC : ∀ t, C t = 1) : F10_7 call L C  vjobs vl_f vl_n vl_c vcycle_f vcycle_n vcycle_c  =
  (optK (call 56 [D.slc vl_f vl_n vl_c]) fun r_3 =>
    (slcK (r_3) fun f n_1 c =>
    (optK (call 57 [D.int IntKind.i64 vjobs, D.slc f n_1 c]) fun r_4 =>
      (intK IntKind.i64 (r_4) fun x =>
      (optK (call 58 [D.int IntKind.i64 vjobs, D.slc vl_f vl_n vl_c]) fun r_5 =>
        (tupK (r_5) 2 fun c_1 =>
        (cellK (c_1) (0) fun d =>
        (slcK (d) fun f_1 n_2 c_2 =>
        (cellK (c_1) (1) fun d_1 =>
        (intK IntKind.i64 (d_1) fun x_1 =>
        (optK (call 59 [D.int IntKind.i64 vjobs, D.slc vl_f vl_n vl_c]) fun r_6 =>
          (tupK (r_6) 2 fun c_3 =>
          (cellK (c_3) (0) fun d_2 =>
          (slcK (d_2) fun f_2 n_3 c_4 =>
          (cellK (c_3) (1) fun d_3 =>
          (intK IntKind.i64 (d_3) fun x_2 =>
          (optK (call 60 [D.int IntKind.i64 vjobs, D.slc vl_f vl_n vl_c, D.slc vcycle_f vcycle_n vcycle_c]) fun r_7 =>
            (intK IntKind.i64 (r_7) fun x_3 =>
            (ifK (x != 0)
              (ifK (IntKind.wrap IntKind.i64 ((n_2 : Int) + (n_3 : Int)) == 0)
                (ifK (x_1 == x)
                  (ifK (x_2 == x)
                    (ifK (x_3 == x)
                      (optK (call 17 []) fun r_8 =>
                        (boolK (r_8) fun b_3 =>
                        (some (D.bool b_3))))
                      (some (D.bool false)))
                    (some (D.bool false)))
                  (some (D.bool false)))
                (some (D.bool false)))
              (optK (call 61 [D.slc f n_1 c, D.slc vcycle_f vcycle_n vcycle_c]) fun r_9 =>
                (intK IntKind.i64 (r_9) fun x_4 =>
                (ifK (x_3 != x_4)
                  (some (D.bool false))
                  (optK (call 62 [D.int IntKind.i64 vjobs, D.slc f n_1 c]) fun r_10 =>
                    (tupK (r_10) 2 fun c_5 =>
                    (cellK (c_5) (0) fun d_4 =>
                    (slcK (d_4) fun f_3 n_4 c_6 =>
                    (cellK (c_5) (1) fun d_5 =>
                    (boolK (d_5) fun b_4 =>
                    (ifK (b_4)
                      (ifK (x_1 == 0)
                        (optK (call 42 [D.slc f_1 n_2 c_2, D.slc f_3 n_4 c_6]) fun r_11 =>
                          (boolK (r_11) fun b_5 =>
                          (ifK (b_5)
                            (ifK (x_2 == 7)
                              (ifK ((n_3 : Int) == 0)
                                (optK (call 17 []) fun r_12 =>
                                  (boolK (r_12) fun b_6 =>
                                  (some (D.bool b_6))))
                                (some (D.bool false)))
                              (some (D.bool false)))
                            (some (D.bool false)))))
                        (some (D.bool false)))
                      (ifK (x_1 == 23)
                        (ifK ((n_2 : Int) == 0)
                          (ifK (x_2 == 0)
                            (optK (call 61 [D.slc f n_1 c, D.slc f_2 n_3 c_4]) fun r_13 =>
                              (intK IntKind.i64 (r_13) fun x_5 =>
                              (ifK (x_5 == 0)
                                (optK (call 17 []) fun r_14 =>
                                  (boolK (r_14) fun b_7 =>
                                  (some (D.bool b_7))))
                                (some (D.bool false)))))
                            (some (D.bool false)))
                          (some (D.bool false)))
                        (some (D.bool false)))))))))))))))))))))))))))))))) := by
  unfold F10_7
  rw [hC]
  kernel_rfl
theorem F10_eq (call : FuncId → List D → Option D) (L : Nat) (C : Nat → Nat) (vjobs : Int) (vl_f : Bool) (vl_n : Nat) (vl_c : List D) (vcycle_f : Bool) (vcycle_n : Nat) (vcycle_c : List D) : evFnT (TEf call L C) O0 N10 FinM.canon Tryz.f10 [D.int IntKind.i64 vjobs, D.slc vl_f vl_n vl_c, D.slc vcycle_f vcycle_n vcycle_c] =
  (ifK (decide ((vl_n : Int) > 30))
    (ifK (decide ((vl_n : Int) ≤ 256))
      (optK (call 17 []) fun r =>
        (boolK (r) fun b =>
        (some (D.bool b))))
      (ifK (decide ((vl_n : Int) > 261))
        (optK (call 17 []) fun r_1 =>
          (boolK (r_1) fun b_1 =>
          (some (D.bool b_1))))
        (ifK (decide ((vcycle_n : Int) > 261))
          (optK (call 17 []) fun r_2 =>
            (boolK (r_2) fun b_2 =>
            (some (D.bool b_2))))
          (F10_7 call L C vjobs vl_f vl_n vl_c vcycle_f vcycle_n vcycle_c))))
    (ifK (decide ((vl_n : Int) > 261))
      (optK (call 17 []) fun r_15 =>
        (boolK (r_15) fun b_8 =>
        (some (D.bool b_8))))
      (ifK (decide ((vcycle_n : Int) > 261))
        (optK (call 17 []) fun r_16 =>
          (boolK (r_16) fun b_9 =>
          (some (D.bool b_9))))
        (F10_7 call L C vjobs vl_f vl_n vl_c vcycle_f vcycle_n vcycle_c)))) := by kernel_rfl

end Go.Pd
end

section
namespace Go.Pd
open Go Go.Proofs Go.RowKit
set_option maxRecDepth 100000

/-! ### CheckConflict, by the program -/
theorem okf115 : okFn Tryz.prog O0 Tryz.f115 = true := by kernel_rfl
def lD (f : Bool) (L : List Rz) : D := .slc f L.length (rzC L)
theorem ok115 {f : Bool} (L : List Rz) (hl : L.length ≤ 1000) (x : Int) : OK2 115 [.int .i64 x, .snap [lD f L] 0] (.bool (outI L x)) := by
  obtain ⟨B, hb, e100, _⟩ := exF [fam100] ⟨fam100_good, trivial⟩ rfl
  refine fnT hb Tryz.func115 (ord := O0) (N := N0) okf115 ((F115_eq _ _ _ _ _ _ _).trans ?_)
  rw [show IntKind.wrap .i64 ((L.length : Int) - 1) = (L.length : Int) - 1 from wrap_in (by omega)]
  refine opt_step (e100 (x, 0, (L.length : Int) - 1)) rfl
def fam115 (f : Bool) (L : List Rz) : Fam := ⟨115, Int, fun x => [.int .i64 x, .snap [lD f L] 0], fun x => .bool (outI L x)⟩
theorem fam115_good (f : Bool) (L : List Rz) (hl : L.length ≤ 1000) : (fam115 f L).Good := ⟨fun x => ok115 L hl x, fun (x y : Int) e => by
    have e : [D.int .i64 x, .snap [lD f L] 0] = [D.int .i64 y, .snap [lD f L] 0] := e
    simp only [List.cons.injEq, D.int.injEq, true_and, and_true] at e
    show D.bool (outI L x) = .bool (outI L y)
    rw [e], fun _ => rfl⟩
def idxO (L : List Rz) : List Int → Nat → Int
  | [], _ => -1
  | n :: r, i => ifK (outI L n) (i : Int) (idxO L r (i + 1))
theorem go172c {call : FuncId → List D → Option D} {f g : Bool} {L : List Rz} (h115 : ∀ n : Int, call 115 [.int .i64 n, .snap [lD f L] 0] = some (.bool (outI L n))) {l : List Int} (hl : l.length ≤ 1000) :
    ∀ (r : List Int) (i fuel : Nat), l.drop i = r → i ≤ l.length → r.length < fuel → F172b_26 call LL C1 fuel g l.length (ints l) f L.length (rzC L) (l.length : Int) (i : Int) = some (.int .i64 (idxO L r i)) := by
  intro r
  induction r with
  | nil =>
    intro i fuel hd hi hf
    obtain ⟨fuel, rfl⟩ : ∃ n, fuel = n + 1 := ⟨fuel - 1, by omega⟩
    have hi' : i = l.length := by
      have := congrArg List.length hd
      simp at this
      omega
    rw [F172b_26_eq, show decide ((i : Int) < (l.length : Int)) = false by simp; omega, ifK_false]
    rfl
  | cons x r ih =>
    intro i fuel hd hi hf
    obtain ⟨fuel, rfl⟩ : ∃ n, fuel = n + 1 := ⟨fuel - 1, by omega⟩
    have hlt : i < l.length := by
      have := congrArg List.length hd
      simp at this
      omega
    have hx : l[i]? = some x := by
      have := congrArg (fun l : List Int => l[0]?) hd
      simpa using this
    have ih := ih (i + 1) fuel (by rw [← List.drop_drop, hd]; rfl) (by omega) (by simp at hf; omega)
    have e1 : decide ((0 : Int) ≤ (i : Int) ∧ (i : Int) < (l.length : Int)) = true := decide_eq_true ⟨by omega, by omega⟩
    have e5 : IntKind.wrap .i64 ((i : Int) + 1) = ((i + 1 : Nat) : Int) := (wrap_in (by omega)).trans (by omega)
    rw [F172b_26_eq, show decide ((i : Int) < (l.length : Int)) = true by simp; omega, ifK_true, e1, chkK_true, cell_at hx, intK_int, e5, ih]
    refine opt_step (h115 x) ?_
    rw [boolK_bool, show idxO L (x :: r) i = ifK (outI L x) (i : Int) (idxO L r (i + 1)) from rfl]
    cases outI L x <;> rfl
theorem idxO_ge (L : List Rz) : ∀ (l : List Int) (i : Nat), decide (idxO L l i ≥ 0) = cyB L l
  | [], _ => rfl
  | n :: r, i => by
    have := idxO_ge L r (i + 1)
    unfold cyB at this ⊢
    rw [show idxO L (n :: r) i = ifK (outI L n) (i : Int) (idxO L r (i + 1)) from rfl, List.any_cons, ← outI_eq]
    cases outI L n
    · rw [ifK_false, Bool.false_or, this]
    · rw [ifK_true, Bool.true_or, decide_eq_true (by omega)]
theorem okf172 : okFn Tryz.prog O0 Tryz.f172 = true := by kernel_rfl
theorem okf102 : okFn Tryz.prog O0 Tryz.f102 = true := by kernel_rfl
theorem ok172c {f g : Bool} (L : List Rz) (hL : L.length ≤ 1000) (l : List Int) (hl : l.length ≤ 1000) : OK2 172 [.slc g l.length (ints l), .fn (.func 115) [] [.snap [lD f L] 0]] (.int .i64 (idxO L l 0)) := by
  obtain ⟨B, hb, h115, _⟩ := exF [fam115 f L] ⟨fam115_good f L hL, trivial⟩ rfl
  exact fnT hb Tryz.func172 (ord := O0) (N := N172) okf172 ((F172b_eq _ _ _ _ _ _ _ _ _).trans (go172c (fun p => h115 p) hl l 0 LL rfl (Nat.zero_le _) (by unfold LL; omega)))
theorem ok102c {f g : Bool} (L : List Rz) (hL : L.length ≤ 1000) (l : List Int) (hl : l.length ≤ 1000) : OK2 102 [.slc g l.length (ints l), .fn (.func 115) [] [.snap [lD f L] 0]] (.bool (cyB L l)) := by
  obtain ⟨B, hb, e⟩ := one_call (ok172c (f := f) (g := g) L hL l hl) rfl
  refine fnT hb Tryz.func102 (ord := O0) (N := N0) okf102 ((F102b_eq _ _ _ _ _ _ _ _ _).trans ?_)
  refine opt_step e ?_
  show some (D.bool (decide (idxO L l 0 ≥ 0))) = _
  rw [idxO_ge]
theorem okf60 : okFn Tryz.prog O0 Tryz.f60 = true := by kernel_rfl
def chkE (J : Int) (L : List Rz) (c : List Int) : Int := ifK (ruE J L != 0) (ruE J L) (cyE L c)
theorem rin_of {J : Int} {L : List Rz} (h : ruE J L = 0) : Rin L := fun x hx => (ruG_zero (ruE_zero h).2.2 x hx).2.2
theorem ok60 {f g : Bool} (J : Int) (L : List Rz) (hL : L.length ≤ 1000) (c : List Int) (hc : c.length ≤ 1000) : OK2 60 [.int .i64 J, lD f L, .slc g c.length (ints c)] (.int .i64 (chkE J L c)) := by
  obtain ⟨B, hb, e102, e113, e84, e76, _⟩ := exF [one 102 [.slc g c.length (ints c), .fn (.func 115) [] [.snap [lD f L] 0]] (.bool (cyB L c)), one 113 [.int .i64 J, lD f L] (.int .i64 (ruE J L)), famBE 84, famFi 76]
    ⟨one_good (ok102c (f := f) L hL c hc) rfl, one_good (ok113 J L hL) rfl, famBE_good ok84 (fun _ _ => rfl), famFi_good (fun l hl => ok76 l hl) (fun _ _ => rfl), trivial⟩ rfl
  have f84 : ∀ b e, callOf B 84 [.bool b, .int .i64 e] = some (.int .i64 (ifK b e 0)) := fun b e => e84 (b, e)
  have f76 : ∀ a b c d : Int, callOf B 76 [.slc true 4 [.int .i64 a, .int .i64 b, .int .i64 c, .int .i64 d]] = some (.int .i64 (firstZ [a, b, c, d])) := fun a b c d => e76 ⟨[a, b, c, d], by simp⟩
  refine fnT hb Tryz.func60 (ord := O0) (N := N60) okf60 ((F60_eq _ _ _ _ _ _ _ _ _ _).trans ?_)
  refine opt_step (x := D.bool (cyB L c)) (e102 ()) ?_
  rw [boolK_bool]
  refine opt_step (x := D.int .i64 (ruE J L)) (e113 ()) ?_
  rw [intK_int, f84, optK_some, intK_int, f84, optK_some, intK_int, f84, optK_some, intK_int, f76, optK_some, intK_int]
  have hX : ruE J L = 0 → cyB L c = false → F60_250 (callOf B) LL C1 LL g c.length (ints c) f L.length (rzC L) (0 : Int) false (c.length : Int) (0 : Int) = some (.int .i64 (cfGo L c c.length 0 0 false)) := fun h1 h2 => go60 (rin_of h1) hc h2 f84 c.length 0 LL 0 false (Nat.zero_add _) (by omega) (by omega) (by unfold LL; omega)
  generalize F60_250 (callOf B) LL C1 LL g c.length (ints c) f L.length (rzC L) (0 : Int) false (c.length : Int) (0 : Int) = X at hX ⊢
  unfold chkE cyE
  by_cases hz : ruE J L = 0
  · rw [hz]
    cases ((c.length : Int) == 0)
    · cases decide ((c.length : Int) > 256)
      · cases h2 : cyB L c
        · rw [cf_same] at hX
          exact hX hz h2
        · rfl
      · cases cyB L c <;> rfl
    · cases decide ((c.length : Int) > 256) <;> cases cyB L c <;> rfl
  · have hb : (ruE J L != 0) = true := by simpa using hz
    rw [show firstZ [ruE J L, ifK ((c.length : Int) == 0) 12 0, ifK (decide ((c.length : Int) > 256)) 5 0, ifK (cyB L c) 10 0] = ruE J L by show ifK (ruE J L != 0) (ruE J L) _ = _; rw [hb]; rfl, hb]
    rfl

/-! ### Earliest and Conflict -/
theorem okf58 : okFn Tryz.prog O0 Tryz.f58 = true := by kernel_rfl
theorem okf59 : okFn Tryz.prog O0 Tryz.f59 = true := by kernel_rfl
section
variable {f : Bool} {J : Int} {L : List Rz}
theorem ok114z (hz : ruE J L = 0) :
    ((rlxF (toR L) J.toNat).last = none → OK2 114 [.int .i64 J, lD f L] (.tup [.slc false J.toNat (ints (rowF J.toNat (rlxF (toR L) J.toNat).d)), .nils])) ∧
    (∀ v, (rlxF (toR L) J.toNat).last = some v → ∃ q g, q ≤ J.toNat ∧ Conf (toR L) q g ∧ OK2 114 [.int .i64 J, lD f L] (.tup [.nils, .slc false q (ints (rowF q g))])) := by
  have h := ok114 (f := f) (rok_of hz)
  have hJ := (ruE_zero hz).1
  rw [rlC_rz hz, show (toR L).length = L.length by simp [toR], Int.toNat_of_nonneg (by omega)] at h
  exact h
def Infeas (J : Int) (L : List Rz) : Bool := (rlxF (toR L) J.toNat).last.isSome
def daysI (J : Int) (L : List Rz) : List Int := rowF J.toNat (rlxF (toR L) J.toNat).d
theorem ok58e (hL : L.length ≤ 1000) (hz : ruE J L ≠ 0) : OK2 58 [.int .i64 J, lD f L] (.tup [.slc true 0 [], .int .i64 (ruE J L)]) := by
  obtain ⟨B, hb, e113, _⟩ := exF [one 113 [.int .i64 J, lD f L] (.int .i64 (ruE J L))] ⟨one_good (ok113 J L hL) rfl, trivial⟩ rfl
  refine fnV hb Tryz.func58 (ord := O0) (N := N0) (.inl rfl) okf58 ((F58_eq _ _ _ _ _ _ _).trans (opt_step (x := D.int .i64 (ruE J L)) (e113 ()) ?_))
  rw [intK_int, show (ruE J L != 0) = true by simpa using hz, ifK_true]
theorem ok59e (hL : L.length ≤ 1000) (hz : ruE J L ≠ 0) : OK2 59 [.int .i64 J, lD f L] (.tup [.slc true 0 [], .int .i64 (ruE J L)]) := by
  obtain ⟨B, hb, e113, _⟩ := exF [one 113 [.int .i64 J, lD f L] (.int .i64 (ruE J L))] ⟨one_good (ok113 J L hL) rfl, trivial⟩ rfl
  refine fnV hb Tryz.func59 (ord := O0) (N := N0) (.inl rfl) okf59 ((F59_eq _ _ _ _ _ _ _).trans (opt_step (x := D.int .i64 (ruE J L)) (e113 ()) ?_))
  rw [intK_int, show (ruE J L != 0) = true by simpa using hz, ifK_true]
theorem ok58n (hz : ruE J L = 0) (hn : Infeas J L = false) : OK2 58 [.int .i64 J, lD f L] (.tup [.slc false (daysI J L).length (ints (daysI J L)), .int .i64 0]) ∧ OK2 59 [.int .i64 J, lD f L] (.tup [.slc true 0 [], .int .i64 7]) := by
  have hL : L.length ≤ 1000 := by have := (ruE_zero hz).2.1; omega
  have hno : (rlxF (toR L) J.toNat).last = none := by unfold Infeas at hn; simpa using hn
  obtain ⟨B, hb, e113, e114, e84, _⟩ := exF [one 113 [.int .i64 J, lD f L] (.int .i64 (ruE J L)), one 114 [.int .i64 J, lD f L] (.tup [.slc false J.toNat (ints (daysI J L)), .nils]), famBE 84] ⟨one_good (ok113 J L hL) rfl, one_good ((ok114z hz).1 hno) rfl, famBE_good ok84 (fun _ _ => rfl), trivial⟩ rfl
  have f84 : ∀ b e, callOf B 84 [.bool b, .int .i64 e] = some (.int .i64 (ifK b e 0)) := fun b e => e84 (b, e)
  have hlen : (daysI J L).length = J.toNat := rowF_len _ _
  constructor
  · refine fnV hb Tryz.func58 (ord := O0) (N := N0) (.inl rfl) okf58 ((F58_eq _ _ _ _ _ _ _).trans (opt_step (x := D.int .i64 (ruE J L)) (e113 ()) ?_))
    rw [intK_int, hz, show ((0 : Int) != 0) = false from rfl, ifK_false]
    refine opt_step (x := D.tup [.slc false J.toNat (ints (daysI J L)), .nils]) (e114 ()) ?_
    rw [hlen]
    exact opt_step (f84 false 23) rfl
  · refine fnV hb Tryz.func59 (ord := O0) (N := N0) (.inl rfl) okf59 ((F59_eq _ _ _ _ _ _ _).trans (opt_step (x := D.int .i64 (ruE J L)) (e113 ()) ?_))
    rw [intK_int, hz, show ((0 : Int) != 0) = false from rfl, ifK_false]
    refine opt_step (x := D.tup [.slc false J.toNat (ints (daysI J L)), .nils]) (e114 ()) ?_
    exact opt_step (f84 true 7) rfl
theorem ok58s (hz : ruE J L = 0) (hn : Infeas J L = true) : ∃ q g, q ≤ J.toNat ∧ Conf (toR L) q g ∧ OK2 58 [.int .i64 J, lD f L] (.tup [.slc true 0 [], .int .i64 23]) ∧ OK2 59 [.int .i64 J, lD f L] (.tup [.slc false q (ints (rowF q g)), .int .i64 0]) := by
  have hL : L.length ≤ 1000 := by have := (ruE_zero hz).2.1; omega
  obtain ⟨v, hv⟩ := Option.isSome_iff_exists.1 hn
  obtain ⟨q, g, h1, h2, h3⟩ := (ok114z (f := f) hz).2 v hv
  obtain ⟨B, hb, e113, e114, e84, _⟩ := exF [one 113 [.int .i64 J, lD f L] (.int .i64 (ruE J L)), one 114 [.int .i64 J, lD f L] (.tup [.nils, .slc false q (ints (rowF q g))]), famBE 84] ⟨one_good (ok113 J L hL) rfl, one_good h3 rfl, famBE_good ok84 (fun _ _ => rfl), trivial⟩ rfl
  have f84 : ∀ b e, callOf B 84 [.bool b, .int .i64 e] = some (.int .i64 (ifK b e 0)) := fun b e => e84 (b, e)
  have hq := h2.p
  refine ⟨q, g, h1, h2, ?_, ?_⟩
  · refine fnV hb Tryz.func58 (ord := O0) (N := N0) (.inl rfl) okf58 ((F58_eq _ _ _ _ _ _ _).trans (opt_step (x := D.int .i64 (ruE J L)) (e113 ()) ?_))
    rw [intK_int, hz, show ((0 : Int) != 0) = false from rfl, ifK_false]
    refine opt_step (x := D.tup [.nils, .slc false q (ints (rowF q g))]) (e114 ()) ?_
    exact chk_step (decide_eq_true (by omega)) (opt_step (f84 true 23) rfl)
  · refine fnV hb Tryz.func59 (ord := O0) (N := N0) (.inl rfl) okf59 ((F59_eq _ _ _ _ _ _ _).trans (opt_step (x := D.int .i64 (ruE J L)) (e113 ()) ?_))
    rw [intK_int, hz, show ((0 : Int) != 0) = false from rfl, ifK_false]
    refine opt_step (x := D.tup [.nils, .slc false q (ints (rowF q g))]) (e114 ()) ?_
    exact chk_step (decide_eq_true (by omega)) (opt_step (f84 false 7) rfl)
/-! A contradiction has no error. -/
theorem conf_zero {q : Nat} {g : Nat → Int} (hz : ruE J L = 0) (hq : q ≤ J.toNat) (hc : Conf (toR L) q g) : cyE L (rowF q g) = 0 := by
  have hJ := (ruE_zero hz).1
  have hp := hc.p
  have hlenR : (toR L).length = L.length := by simp [toR]
  have hin := fun x hx => ruG_zero (ruE_zero hz).2.2 x hx
  have hat : ∀ k, k < q → ∃ r ∈ L, rzAt L (g k) = r ∧ rlAt (toR L) (g k) = (r.1.toNat, r.2.1.toNat, r.2.2) := fun k hk => by
    have hr := hc.r k hk
    rw [hlenR] at hr
    obtain ⟨j, hj, h2⟩ := rz_at hr
    refine ⟨rzAt L (g k), List.mem_of_getElem? h2, rfl, ?_⟩
    rw [hj] at h2 ⊢
    refine rlAt_some ?_
    unfold toR
    rw [List.getElem?_map, h2]
    rfl
  have hgD : ∀ k, k < q → (rowF q g).getD k 0 = g k := fun k hk => by rw [List.getD_eq_getElem?_getD, rowF_get _ hk]; rfl
  have hB : cyB L (rowF q g) = false := by
    unfold cyB
    rw [List.any_eq_false]
    intro x hx
    obtain ⟨k, hk, rfl⟩ := List.mem_map.1 hx
    have := hc.r k (List.mem_range.1 hk)
    rw [hlenR] at this
    rw [decide_eq_false (by omega), decide_eq_false (by omega)]
    simp [ifK]
  have hbrk : ∀ k, k < q → brk L (rowF q g) k = false := fun k hk => by
    have hm : (k + 1) % q < q := Nat.mod_lt _ (by omega)
    unfold brk
    rw [rowF_len, hgD k hk, hgD _ hm]
    obtain ⟨r, hr, e1, e2⟩ := hat k hk
    obtain ⟨r', hr', e1', e2'⟩ := hat _ hm
    have := hc.e k hk
    rw [e2, e2'] at this
    have i1 := hin r hr
    have i2 := hin r' hr'
    have this : r.2.1.toNat = r'.1.toNat := this
    rw [e1, e1']
    simp
    omega
  have hgo : ∀ (k i : Nat) (s : Int), i + k = q → s = sumF i (fun k => (rlAt (toR L) (g k)).2.2) → cfR L (rowF q g) k i s = 0 := by
    intro k
    induction k with
    | zero =>
      intro i s hi hs
      have := hc.s
      show ifK (decide (s ≤ 0)) 21 0 = 0
      rw [decide_eq_false (by rw [hs, show i = q by omega]; omega)]
      rfl
    | succ k ih =>
      intro i s hi hs
      show ifK (brk L (rowF q g) i) 21 (cfR L (rowF q g) k (i + 1) (s + (rzAt L ((rowF q g).getD i 0)).2.2)) = 0
      rw [hbrk i (by omega), ifK_false]
      refine ih (i + 1) _ (by omega) ?_
      obtain ⟨r, _, e1, e2⟩ := hat i (by omega)
      rw [hgD i (by omega), e1, hs]
      show _ = sumF i _ + (rlAt (toR L) (g i)).2.2
      rw [e2]
  unfold cyE
  rw [rowF_len, show ((q : Int) == 0) = false by simp; omega, decide_eq_false (by omega), hB]
  exact hgo q 0 0 (by omega) rfl
end
/-! ### Conditions, given to the reference -/
theorem okf56 : okFn Tryz.prog O0 Tryz.f56 = true := by kernel_rfl
def owL (L : List Rz) : Ow := match L with
  | [] => .nil
  | _ => .own L.length (rzC L)
theorem rzC_one (x : Rz) (L : List Rz) : rzC L ++ [.int .i64 x.1, .int .i64 x.2.1, .int .i64 x.2.2] = rzC (L ++ [x]) := by rw [rzC_app]; rfl
theorem go56 {call : FuncId → List D → Option D} {f : Bool} {L : List Rz} (hl : L.length * 24 ≤ 140737488355328) : ∀ (r pre : List Rz) (fuel : Nat), pre ++ r = L → r.length < fuel →
    F56_58 call LL C1 fuel f L.length (rzC L) (owL pre) (L.length : Int) (pre.length : Int) = some (.slc L.isEmpty L.length (rzC L)) := by
  intro r
  induction r with
  | nil =>
    intro pre fuel hp hf
    obtain ⟨fuel, rfl⟩ : ∃ n, fuel = n + 1 := ⟨fuel - 1, by omega⟩
    rw [List.append_nil] at hp
    subst hp
    cases pre with
    | nil => rw [show owL [] = .nil from rfl, F56_58_eqn]; rfl
    | cons y pre =>
      rw [show owL (y :: pre) = .own (y :: pre).length (rzC (y :: pre)) from rfl, F56_58_eqo, show decide ((((y :: pre).length : Nat) : Int) < (((y :: pre).length : Nat) : Int)) = false by simp, ifK_false]
      rfl
  | cons x r ih =>
    intro pre fuel hp hf
    obtain ⟨fuel, rfl⟩ : ∃ n, fuel = n + 1 := ⟨fuel - 1, by omega⟩
    have ih := ih (pre ++ [x]) fuel (by rw [← hp]; simp) (by simp at hf; omega)
    have hlen : pre.length < L.length := by rw [← hp]; simp
    have hx : L[pre.length]? = some x := by rw [← hp]; simp
    have e0 : decide ((pre.length : Int) < (L.length : Int)) = true := by simp; omega
    have e1 : decide ((0 : Int) ≤ (pre.length : Int) ∧ (pre.length : Int) < (L.length : Int)) = true := decide_eq_true ⟨by omega, by omega⟩
    have e3 : IntKind.wrap .i64 ((pre.length : Int) + 1) = ((pre ++ [x]).length : Int) := (wrap_in (by omega)).trans (by simp)
    cases pre with
    | nil =>
      rw [show owL [] = .nil from rfl, F56_58_eqn, e0, ifK_true, e1, chkK_true, rz0 hx, intK_int, rz1 hx, intK_int, rz2 hx, intK_int, e3]
      exact ih
    | cons y pre =>
      rw [show owL (y :: pre) = .own (y :: pre).length (rzC (y :: pre)) from rfl, F56_58_eqo, e0, ifK_true, e1, chkK_true, rz0 hx, intK_int, rz1 hx, intK_int, rz2 hx, intK_int, e3, rzC_one,
        decide_eq_true (show ((y :: pre).length + 1) * 24 ≤ limit ∧ (y :: pre).length + 1 ≤ 9223372036854775807 from ⟨by unfold limit; omega, by omega⟩), chkK_true]
      rw [show owL (y :: pre ++ [x]) = .own (y :: pre ++ [x]).length (rzC (y :: pre ++ [x])) from rfl, List.length_append] at ih
      rw [List.length_append]
      exact ih
theorem ok56 {f : Bool} (L : List Rz) (hl : L.length * 24 ≤ 140737488355328) : OK2 56 [lD f L] (lD L.isEmpty L) :=
  fnT none_ok Tryz.func56 (ord := O0) (N := N56) okf56 ((F56_eq _ _ _ _ _ _).trans (go56 hl L [] LL rfl (by unfold LL; omega)))
end Go.Pd
end

section
namespace Go.Pd
open Go Go.Proofs Go.RowKit
set_option maxRecDepth 100000

section
variable {f : Bool} {J : Int} {L : List Rz}
theorem ok62z (hz : ruE J L = 0) : OK2 62 [.int .i64 J, lD f L] (ifK (!Infeas J L) (.tup [.slc false (daysI J L).length (ints (daysI J L)), .bool true]) (.tup [.slc true 0 [], .bool false])) := by
  have h := ok62 (f := f) (rok_of hz)
  have hJ := (ruE_zero hz).1
  rw [rlC_rz hz, show (toR L).length = L.length by simp [toR], Int.toNat_of_nonneg (by omega)] at h
  rw [show (daysI J L).length = J.toNat from rowF_len _ _]
  have e : (!Infeas J L) = (rlxF (toR L) J.toNat).last.isNone := by unfold Infeas; cases (rlxF (toR L) J.toNat).last <;> rfl
  rw [e]
  exact h
end
theorem okf10 : okFn Tryz.prog O0 Tryz.f10 = true := by kernel_rfl
theorem rd_ib {γ : Type} (f : Bool) (n : Nat) (c : List D) (b : Bool) (k : Bool → Nat → List D → Bool → Option γ) : (tupK (.tup [.slc f n c, .bool b]) 2 fun c' => cellK c' 0 fun d => slcK d fun f n c1 => cellK c' 1 fun d1 => boolK d1 fun x => k f n c1 x) = k f n c b := rfl
section
variable {f g : Bool} {J : Int} {L : List Rz} {c : List Int}
theorem days7 {B : FuncId → List D → Option D} (hL : L.length ≤ 1000) (e1 e2 : Int) (d1 d2 : List Int) (q1 q2 : Bool)
    (f17 : callOf B 17 [] = some (.bool true)) (f56 : callOf B 56 [lD f L] = some (lD L.isEmpty L)) (f57 : callOf B 57 [.int .i64 J, lD L.isEmpty L] = some (.int .i64 (ruE J L)))
    (f58 : callOf B 58 [.int .i64 J, lD f L] = some (.tup [.slc q1 d1.length (ints d1), .int .i64 e1])) (f59 : callOf B 59 [.int .i64 J, lD f L] = some (.tup [.slc q2 d2.length (ints d2), .int .i64 e2]))
    (f60 : callOf B 60 [.int .i64 J, lD f L, .slc g c.length (ints c)] = some (.int .i64 (chkE J L c)))
    (h0 : ruE J L ≠ 0 → d1 = [] ∧ d2 = [] ∧ e1 = ruE J L ∧ e2 = ruE J L)
    (h1 : ruE J L = 0 → callOf B 61 [lD L.isEmpty L, .slc g c.length (ints c)] = some (.int .i64 (cyE L c)))
    (h2 : ruE J L = 0 → Infeas J L = false → callOf B 62 [.int .i64 J, lD L.isEmpty L] = some (.tup [.slc false d1.length (ints d1), .bool true]) ∧ e1 = 0 ∧ e2 = 7 ∧ d2 = [] ∧ callOf B 42 [.slc q1 d1.length (ints d1), .slc false d1.length (ints d1)] = some (.bool true))
    (h3 : ruE J L = 0 → Infeas J L = true → callOf B 62 [.int .i64 J, lD L.isEmpty L] = some (.tup [.slc true 0 [], .bool false]) ∧ e1 = 23 ∧ d1 = [] ∧ e2 = 0 ∧ callOf B 61 [lD L.isEmpty L, .slc q2 d2.length (ints d2)] = some (.int .i64 0)) :
    F10_7 (callOf B) LL C1 J f L.length (rzC L) g c.length (ints c) = some (.bool true) := by
  rw [F10_7_eq (C := C1) (hC := fun _ => rfl)]
  refine opt_step f56 (slc_step (opt_step f57 (int_step (opt_step f58 ?_))))
  rw [rd_sl]
  refine opt_step f59 ?_
  rw [rd_sl]
  refine opt_step f60 (int_step ?_)
  by_cases hz : ruE J L = 0
  · have hck : chkE J L c = cyE L c := by unfold chkE; rw [hz]; rfl
    rw [show (ruE J L != 0) = false by simpa using hz, ifK_false, hck]
    refine opt_step (h1 hz) (int_step ?_)
    rw [show (cyE L c != cyE L c) = false by simp, ifK_false]
    cases hI : Infeas J L
    · obtain ⟨f62, i1, i2, i3, f42⟩ := h2 hz hI
      subst i1 i2 i3
      refine opt_step f62 ?_
      rw [rd_ib]
      refine opt_step f42 ?_
      exact opt_step f17 rfl
    · obtain ⟨f62, i1, i2, i3, f61⟩ := h3 hz hI
      subst i1 i2 i3
      refine opt_step f62 ?_
      rw [rd_ib]
      refine opt_step f61 ?_
      exact opt_step f17 rfl
  · obtain ⟨i1, i2, i3, i4⟩ := h0 hz
    subst i1 i2
    have hck : chkE J L c = ruE J L := by unfold chkE; rw [show (ruE J L != 0) = true by simpa using hz]; rfl
    rw [show (ruE J L != 0) = true by simpa using hz, ifK_true, i3, i4, hck]
    simp only [beq_self_eq_true, ifK_true]
    rw [f17]
    rfl
theorem days7_ok (hL : L.length ≤ 1000) (hc : c.length ≤ 1000) : ∃ B, CallsT B ∧ callOf B 17 [] = some (.bool true) ∧ F10_7 (callOf B) LL C1 J f L.length (rzC L) g c.length (ints c) = some (.bool true) := by
  by_cases hz : ruE J L = 0
  · cases hI : Infeas J L
    · obtain ⟨o58, o59⟩ := ok58n (f := f) hz hI
      have o62 := ok62z (f := L.isEmpty) hz
      rw [hI] at o62
      have hJ := (ruE_zero hz).1
      obtain ⟨B, hB, e17, e56, e57, e58, e59, e60, e61, e62, e42, _⟩ := exF [one 17 [] (.bool true), one 56 [lD f L] (lD L.isEmpty L), one 57 [.int .i64 J, lD L.isEmpty L] (.int .i64 (ruE J L)), one 58 [.int .i64 J, lD f L] (.tup [.slc false (daysI J L).length (ints (daysI J L)), .int .i64 0]),
          one 59 [.int .i64 J, lD f L] (.tup [.slc true 0 [], .int .i64 7]), one 60 [.int .i64 J, lD f L, .slc g c.length (ints c)] (.int .i64 (chkE J L c)), one 61 [lD L.isEmpty L, .slc g c.length (ints c)] (.int .i64 (cyE L c)),
          one 62 [.int .i64 J, lD L.isEmpty L] (.tup [.slc false (daysI J L).length (ints (daysI J L)), .bool true]), famT 42]
        ⟨one_good ok17 rfl, one_good (ok56 L (by omega)) rfl, one_good (ok57 J L hL) rfl, one_good o58 rfl, one_good o59 rfl, one_good (ok60 J L hL c hc) rfl, one_good (ok61 (rin_of hz) c hc) rfl, one_good o62 rfl, famT_good fun _ => rfl, trivial⟩ rfl
      refine ⟨B, hB, e17 (), ?_⟩
      exact days7 hL 0 7 (daysI J L) [] false true (e17 ()) (e56 ()) (e57 ()) (e58 ()) (e59 ()) (e60 ()) (fun h => absurd hz h) (fun _ => e61 ()) (fun _ _ => ⟨e62 (), rfl, rfl, rfl, e42 ⟨_, ok42 (daysI J L) (by rw [show (daysI J L).length = J.toNat from rowF_len _ _]; omega)⟩⟩) (fun _ h => by rw [hI] at h; cases h)
    · obtain ⟨q, gg, hq, hcf, o58, o59⟩ := ok58s (f := f) hz hI
      have o62 := ok62z (f := L.isEmpty) hz
      rw [hI] at o62
      have hJ := (ruE_zero hz).1
      have hql : (rowF q gg).length = q := rowF_len _ _
      have hce := conf_zero hz hq hcf
      obtain ⟨B, hB, e17, e56, e57, e58, e59, e60, e61, e62, _⟩ := exF [one 17 [] (.bool true), one 56 [lD f L] (lD L.isEmpty L), one 57 [.int .i64 J, lD L.isEmpty L] (.int .i64 (ruE J L)), one 58 [.int .i64 J, lD f L] (.tup [.slc true 0 [], .int .i64 23]),
          one 59 [.int .i64 J, lD f L] (.tup [.slc false q (ints (rowF q gg)), .int .i64 0]), one 60 [.int .i64 J, lD f L, .slc g c.length (ints c)] (.int .i64 (chkE J L c)), ⟨61, {x : Bool × List Int // x.2.length ≤ 1000}, fun x => [lD L.isEmpty L, .slc x.1.1 x.1.2.length (ints x.1.2)], fun x => .int .i64 (cyE L x.1.2)⟩,
          one 62 [.int .i64 J, lD L.isEmpty L] (.tup [.slc true 0 [], .bool false])]
        ⟨one_good ok17 rfl, one_good (ok56 L (by omega)) rfl, one_good (ok57 J L hL) rfl, one_good o58 rfl, one_good o59 rfl, one_good (ok60 J L hL c hc) rfl, ⟨fun x => ok61 (rin_of hz) x.1.2 x.2, fun (x y : {x : Bool × List Int // x.2.length ≤ 1000}) e => by
            have e : [lD L.isEmpty L, D.slc x.1.1 x.1.2.length (ints x.1.2)] = [lD L.isEmpty L, D.slc y.1.1 y.1.2.length (ints y.1.2)] := e
            simp only [List.cons.injEq, D.slc.injEq, true_and, and_true] at e
            show D.int .i64 (cyE L x.1.2) = .int .i64 (cyE L y.1.2)
            rw [ints_inj e.2.2], fun _ => rfl⟩, one_good o62 rfl, trivial⟩ rfl
      refine ⟨B, hB, e17 (), ?_⟩
      refine days7 hL 23 0 [] (rowF q gg) true false (e17 ()) (e56 ()) (e57 ()) (e58 ()) ?_ (e60 ()) (fun h => absurd hz h) (fun _ => e61 ⟨(g, c), hc⟩) (fun _ h => by rw [hI] at h; cases h) (fun _ _ => ⟨e62 (), rfl, rfl, rfl, ?_⟩)
      · rw [hql]; exact e59 ()
      · rw [← hce]
        exact e61 ⟨(false, rowF q gg), by rw [hql]; omega⟩
  · obtain ⟨B, hB, e17, e56, e57, e58, e59, e60, _⟩ := exF [one 17 [] (.bool true), one 56 [lD f L] (lD L.isEmpty L), one 57 [.int .i64 J, lD L.isEmpty L] (.int .i64 (ruE J L)), one 58 [.int .i64 J, lD f L] (.tup [.slc true 0 [], .int .i64 (ruE J L)]),
        one 59 [.int .i64 J, lD f L] (.tup [.slc true 0 [], .int .i64 (ruE J L)]), one 60 [.int .i64 J, lD f L, .slc g c.length (ints c)] (.int .i64 (chkE J L c))]
      ⟨one_good ok17 rfl, one_good (ok56 L (by omega)) rfl, one_good (ok57 J L hL) rfl, one_good (ok58e hL hz) rfl, one_good (ok59e hL hz) rfl, one_good (ok60 J L hL c hc) rfl, trivial⟩ rfl
    refine ⟨B, hB, e17 (), ?_⟩
    exact days7 hL (ruE J L) (ruE J L) [] [] true true (e17 ()) (e56 ()) (e57 ()) (e58 ()) (e59 ()) (e60 ()) (fun _ => ⟨rfl, rfl, rfl, rfl⟩) (fun h => absurd h hz) (fun h => absurd h hz) (fun h => absurd h hz)
end
theorem ok10 {f g : Bool} (J : Int) (L : List Rz) (c : List Int) : OK2 10 [.int .i64 J, lD f L, .slc g c.length (ints c)] (.bool true) := by
  by_cases hs : L.length ≤ 261 ∧ c.length ≤ 261
  · obtain ⟨B, hB, f17, mid⟩ := days7_ok (f := f) (g := g) (J := J) (L := L) (c := c) (by omega) (by omega)
    refine fnT hB Tryz.func10 (ord := O0) (N := N10) okf10 ((F10_eq _ _ _ _ _ _ _ _ _ _).trans ?_)
    rw [f17, mid, optK_some, boolK_bool]
    cases decide ((L.length : Int) > 30) <;> cases decide ((L.length : Int) ≤ 256) <;> cases decide ((L.length : Int) > 261) <;> cases decide ((c.length : Int) > 261) <;> rfl
  · obtain ⟨B, hB, e17, _⟩ := exF [one 17 [] (.bool true)] ⟨one_good ok17 rfl, trivial⟩ rfl
    refine fnT hB Tryz.func10 (ord := O0) (N := N10) okf10 ((F10_eq _ _ _ _ _ _ _ _ _ _).trans ?_)
    have f17 : callOf B 17 [] = some (.bool true) := e17 ()
    rw [f17, optK_some, boolK_bool]
    by_cases h1 : L.length ≤ 261
    · rw [decide_eq_true (show (c.length : Int) > 261 by omega)]
      cases decide ((L.length : Int) > 30) <;> cases decide ((L.length : Int) ≤ 256) <;> cases decide ((L.length : Int) > 261) <;> rfl
    · rw [decide_eq_true (show (L.length : Int) > 261 by omega)]
      cases decide ((L.length : Int) > 30) <;> cases decide ((L.length : Int) ≤ 256) <;> rfl
end Go.Pd
end

section
namespace Go.Pd
open Go Go.Proofs Go.RowKit
set_option maxRecDepth 100000

theorem ty_rules {n : Nat} {c : List D} (h : Ty Tryz.prog (n + 3) 97 c) : ∃ L : List Rz, c = [.slc false L.length (rzC L)] := by
  obtain ⟨gs, rfl, _, h1⟩ := ty_slice Tryz.underlying97 h
  have key : ∀ gs : List (List D), (∀ g ∈ gs, Ty Tryz.prog (n + 2) 109 g) → ∃ L : List Rz, gs.length = L.length ∧ gs.flatten = rzC L := by
    intro gs
    induction gs with
    | nil => exact fun _ => ⟨[], rfl, rfl⟩
    | cons g gs ih =>
      intro h
      obtain ⟨L, e1, e2⟩ := ih fun g hg => h g (List.mem_cons_of_mem _ hg)
      obtain ⟨g1, g2, g3, rfl, h1, h2, h3⟩ := ty_struct3 Tryz.underlying109 rfl (h g (List.mem_cons_self ..))
      obtain ⟨x, rfl, _⟩ := ty_int Tryz.underlying3 h1
      obtain ⟨y, rfl, _⟩ := ty_int Tryz.underlying3 h2
      obtain ⟨z, rfl, _⟩ := ty_int Tryz.underlying3 h3
      exact ⟨(x, y, z) :: L, by simp [e1], by rw [List.flatten_cons, e2]; rfl⟩
  obtain ⟨L, e1, e2⟩ := key gs h1
  exact ⟨L, by rw [e1, e2]⟩
end Go.Pd
end
