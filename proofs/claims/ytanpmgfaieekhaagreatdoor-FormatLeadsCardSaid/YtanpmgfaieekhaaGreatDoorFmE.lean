/-
  Chapter 5: what functions make of open arguments (printed by the desk's tool, each proved by the kernel): FormatGives.
  Chapter 5, FormatGives: the small functions.
  Chapter 5, FormatGives: the holes of a course, checked.
  Chapter 5, FormatGives: the holes of a course, checked by the program, with a map of the indices seen.
  Chapter 5, FormatGives: the program's check of the holes.
  Chapter 5, FormatGives: what the program gives.
  Chapter 5, FormatGives: what the program gives, hole by hole.
  Chapter 5, FormatGives: what the reference gives, stroke by stroke.
  Chapter 5, FormatGives: the law.
-/
import Derived.Test.YtanpmgfaieekhaaGreatDoorFmA
import Derived.KernelRfl
import Derived.Test.YtanpmgfaieekhaaGreatDoorFmB
import Derived.Test.YtanpmgfaieekhaaGreatDoorPdFf
import Derived.Test.YtanpmgfaieekhaaGreatDoorFmD
section
namespace Go.Pd
open Go Go.Proofs
set_option maxRecDepth 100000
def N19 : NTab := fun p => match p with
  | 58 => some { keep := [0, 1, 5, 6], kl := [], ren := [(11, 11)] }
  | 3731 => some { keep := [0, 1, 5, 6, 7], kl := [], ren := [(11, 11)] }
  | 14926 => some { keep := [0, 1, 5, 6, 7, 8], kl := [], ren := [(11, 11)] }
  | _ => none
noncomputable def F19_14926 (call : FuncId → List D → Option D) (L : Nat) (C : Nat → Nat) (n : Nat) (n_2 : Nat) (vh_f : Bool) (vh_n : Nat) (vh_c : List D) (vhandicap : Int) (vl_n : Nat) (vk : Int) (vindex : Int) (vi : Int) (t11_c_1 : List D) : Option D :=
  loopAt (TEf call L C) O0 N19 FinM.canon Tryz.f19 [true, true, false, true, false, false, true, false, false, true, true, true, false] [n]  n_2 (St.mk [D.slc vh_f vh_n vh_c, D.int IntKind.i64 vhandicap, J, J, J, D.own 11 0 vl_n, D.int IntKind.i64 vk, D.int IntKind.i64 vindex, D.int IntKind.i64 vi, J, J, J, J, J, J, J, J, J, J, J, J, J, J, J, J, J, J, J, J, J, J, J, J, J, J, J, J, J, J, J, J, J, J, J, J, J, J, J, J, J, J, J, J, J, J, J, J, J, J, J] [Z, Z, Z, Z, Z, Z, Z, Z, Z, Z, Z, (1, some (Ob.arr 3 1 t11_c_1 false)), Z, Z, Z, Z, Z, Z, Z, Z, Z, Z, Z, Z, Z, Z, Z, Z, Z, Z, Z, Z, Z, Z, Z, Z, Z, Z, Z, Z, Z, Z, Z, Z, Z, Z, Z, Z, Z, Z, Z, Z, Z, Z, Z, Z, Z, Z, Z, Z])
noncomputable def F19_3731 (call : FuncId → List D → Option D) (L : Nat) (C : Nat → Nat) (n : Nat) (vh_f : Bool) (vh_n : Nat) (vh_c : List D) (vhandicap : Int) (vl_n : Nat) (vk : Int) (t11_c : List D) (vindex : Int) : Option D :=
  cutAt (TEf call L C) O0 N19 FinM.canon Tryz.f19 [true, true, false, true, false, false, true, false, false, true, true] [n]  (C 3731) (St.mk [D.slc vh_f vh_n vh_c, D.int IntKind.i64 vhandicap, J, J, J, D.own 11 0 vl_n, D.int IntKind.i64 vk, D.int IntKind.i64 vindex, J, J, J, J, J, J, J, J, J, J, J, J, J, J, J, J, J, J, J, J, J, J, J, J, J, J, J, J, J, J, J, J, J, J, J, J, J, J, J, J, J, J, J, J, J, J, J, J, J, J, J, J] [Z, Z, Z, Z, Z, Z, Z, Z, Z, Z, Z, (1, some (Ob.arr 3 1 t11_c false)), Z, Z, Z, Z, Z, Z, Z, Z, Z, Z, Z, Z, Z, Z, Z, Z, Z, Z, Z, Z, Z, Z, Z, Z, Z, Z, Z, Z, Z, Z, Z, Z, Z, Z, Z, Z, Z, Z, Z, Z, Z, Z, Z, Z, Z, Z, Z, Z])
noncomputable def F19_58 (call : FuncId → List D → Option D) (L : Nat) (C : Nat → Nat) (n : Nat) (vh_f : Bool) (vh_n : Nat) (vh_c : List D) (vhandicap : Int) (vl_n : Nat) (vk : Int) (t11_c : List D) : Option D :=
  loopAt (TEf call L C) O0 N19 FinM.canon Tryz.f19 [true, true, false, true, false] []  n (St.mk [D.slc vh_f vh_n vh_c, D.int IntKind.i64 vhandicap, J, J, J, D.own 11 0 vl_n, D.int IntKind.i64 vk, J, J, J, J, J, J, J, J, J, J, J, J, J, J, J, J, J, J, J, J, J, J, J, J, J, J, J, J, J, J, J, J, J, J, J, J, J, J, J, J, J, J, J, J, J, J, J, J, J, J, J, J, J] [Z, Z, Z, Z, Z, Z, Z, Z, Z, Z, Z, (1, some (Ob.arr 3 1 t11_c false)), Z, Z, Z, Z, Z, Z, Z, Z, Z, Z, Z, Z, Z, Z, Z, Z, Z, Z, Z, Z, Z, Z, Z, Z, Z, Z, Z, Z, Z, Z, Z, Z, Z, Z, Z, Z, Z, Z, Z, Z, Z, Z, Z, Z, Z, Z, Z, Z])
theorem F19_14926_eq (call : FuncId → List D → Option D) (L : Nat) (C : Nat → Nat) (n : Nat) (n_2 : Nat) (vh_f : Bool) (vh_n : Nat) (vh_c : List D) (vhandicap : Int) (vl_n : Nat) (vk : Int) (vindex : Int) (vi : Int) (t11_c_1 : List D) : F19_14926 call L C n (n_2 + 1) vh_f vh_n vh_c vhandicap vl_n vk vindex (vi) (t11_c_1) =
  (ifK (decide (vi < (vh_n : Int)))
    (chkK (decide (0 ≤ vi ∧ vi < (vh_n : Int)))
      (cellK (vh_c) (Int.toNat vi * 2 + 1) fun d =>
      (intK IntKind.i64 (d) fun x =>
      (ifK (x == vindex)
        (ifK (decide (vhandicap > 0))
          (chkK (decide (0 ≤ vi ∧ vi < (vl_n : Int)))
            (cellK (t11_c_1) (Int.toNat vi * 1) fun d_1 =>
            (intK IntKind.i64 (d_1) fun x_1 =>
            (chkK (decide (0 ≤ vi ∧ vi < (vl_n : Int)))
              (chkK (decide (Int.toNat vi * 1 + 1 ≤ List.length t11_c_1))
                (F19_14926 call L C n n_2 vh_f vh_n vh_c vhandicap vl_n vk vindex (IntKind.wrap IntKind.i64 (vi + 1)) (writeAt t11_c_1 (Int.toNat vi * 1) [D.int IntKind.i64 (IntKind.wrap IntKind.i64 (x_1 + 1))])))))))
          (chkK (decide (0 ≤ vi ∧ vi < (vl_n : Int)))
            (cellK (t11_c_1) (Int.toNat vi * 1) fun d_2 =>
            (intK IntKind.i64 (d_2) fun x_2 =>
            (chkK (decide (0 ≤ vi ∧ vi < (vl_n : Int)))
              (chkK (decide (Int.toNat vi * 1 + 1 ≤ List.length t11_c_1))
                (F19_14926 call L C n n_2 vh_f vh_n vh_c vhandicap vl_n vk vindex (IntKind.wrap IntKind.i64 (vi + 1)) (writeAt t11_c_1 (Int.toNat vi * 1) [D.int IntKind.i64 (IntKind.wrap IntKind.i64 (x_2 - 1))]))))))))
        (F19_14926 call L C n n_2 vh_f vh_n vh_c vhandicap vl_n vk vindex (IntKind.wrap IntKind.i64 (vi + 1)) (t11_c_1))))))
    (F19_58 call L C n vh_f vh_n vh_c vhandicap (vl_n) (IntKind.wrap IntKind.i64 (vk + 1)) (t11_c_1))) := by kernel_rfl
theorem F19_3731_eq (call : FuncId → List D → Option D) (L : Nat) (C : Nat → Nat) (n : Nat) (vh_f : Bool) (vh_n : Nat) (vh_c : List D) (vhandicap : Int) (vl_n : Nat) (vk : Int) (t11_c : List D) (vindex : Int) (hC : ∀ t, C t = 1) : F19_3731 call L C n vh_f vh_n vh_c vhandicap vl_n vk t11_c (vindex) =
  (F19_14926 call L C n L vh_f vh_n vh_c vhandicap vl_n vk vindex (0) (t11_c)) := by
  unfold F19_3731
  rw [hC]
  kernel_rfl
theorem F19_58_eq (call : FuncId → List D → Option D) (L : Nat) (C : Nat → Nat) (n : Nat) (vh_f : Bool) (vh_n : Nat) (vh_c : List D) (vhandicap : Int) (vl_n : Nat) (vk : Int) (t11_c : List D) : F19_58 call L C  (n + 1) vh_f vh_n vh_c vhandicap (vl_n) (vk) (t11_c) =
  (ifK (decide (vk < if IntKind.wrap IntKind.i64 (0 - vhandicap) > vhandicap then IntKind.wrap IntKind.i64 (0 - vhandicap) else vhandicap))
    (chkK (!decide ((vh_n : Int) = 0))
      (ifK (decide (vhandicap < 0))
        (F19_3731 call L C n vh_f vh_n vh_c vhandicap vl_n vk t11_c (IntKind.wrap IntKind.i64 (IntKind.wrap IntKind.i64 ((vh_n : Int) + 1) - IntKind.wrap IntKind.i64 (Int.tmod vk (vh_n : Int) + 1))))
        (F19_3731 call L C n vh_f vh_n vh_c vhandicap vl_n vk t11_c (IntKind.wrap IntKind.i64 (Int.tmod vk (vh_n : Int) + 1)))))
    (some (D.slc false vl_n t11_c))) := by kernel_rfl
theorem F19_eq (call : FuncId → List D → Option D) (L : Nat) (C : Nat → Nat) (vh_f : Bool) (vh_n : Nat) (vh_c : List D) (vhandicap : Int) : evFnT (TEf call L C) O0 N19 FinM.canon Tryz.f19 [D.slc vh_f vh_n vh_c, D.int IntKind.i64 vhandicap] =
  (chkK (decide (0 ≤ (vh_n : Int) ∧ (vh_n : Int) ≤ (vh_n : Int) ∧ (vh_n : Int) * (8 : Int) ≤ 140737488355328 ∧ (vh_n : Int) ≤ 9223372036854775807))
    (F19_58 call L C L vh_f vh_n vh_c vhandicap (Int.toNat (vh_n : Int)) (0) (repD (Int.toNat (vh_n : Int)) [D.int IntKind.i64 0]))) := by kernel_rfl

def N20 : NTab := fun p => match p with
  | 58 => some { keep := [0, 1, 5], kl := [], ren := [] }
  | _ => none
noncomputable def F20_58 (call : FuncId → List D → Option D) (L : Nat) (C : Nat → Nat) (n : Nat) (va_f : Bool) (va_n : Nat) (va_c : List D) (vb_f : Bool) (vb_n : Nat) (vb_c : List D) (vi : Int) : Option D :=
  loopAt (TEf call L C) O0 N20 FinM.canon Tryz.f20 [true, true, false, true, false] []  n (St.mk [D.slc va_f va_n va_c, D.slc vb_f vb_n vb_c, J, J, J, D.int IntKind.i64 vi, J, J, J, J, J, J, J, J, J, J, J, J, J, J, J, J, J, J, J, J] [Z, Z, Z, Z, Z, Z, Z, Z, Z, Z, Z, Z, Z, Z, Z, Z, Z, Z, Z, Z, Z, Z, Z, Z, Z, Z])
theorem F20_58_eq (call : FuncId → List D → Option D) (L : Nat) (C : Nat → Nat) (n : Nat) (va_f : Bool) (va_n : Nat) (va_c : List D) (vb_f : Bool) (vb_n : Nat) (vb_c : List D) (vi : Int) : F20_58 call L C  (n + 1) va_f va_n va_c vb_f vb_n vb_c (vi) =
  (ifK (decide (vi < (va_n : Int)))
    (chkK (decide (0 ≤ vi ∧ vi < (va_n : Int)))
      (cellK (va_c) (Int.toNat vi * 1) fun d =>
      (intK IntKind.i64 (d) fun x =>
      (chkK (decide (0 ≤ vi ∧ vi < (vb_n : Int)))
        (cellK (vb_c) (Int.toNat vi * 1) fun d_1 =>
        (intK IntKind.i64 (d_1) fun x_1 =>
        (ifK (x != x_1)
          (some (D.bool false))
          (F20_58 call L C n va_f va_n va_c vb_f vb_n vb_c (IntKind.wrap IntKind.i64 (vi + 1))))))))))
    (some (D.bool true))) := by kernel_rfl
theorem F20_eq (call : FuncId → List D → Option D) (L : Nat) (C : Nat → Nat) (va_f : Bool) (va_n : Nat) (va_c : List D) (vb_f : Bool) (vb_n : Nat) (vb_c : List D) : evFnT (TEf call L C) O0 N20 FinM.canon Tryz.f20 [D.slc va_f va_n va_c, D.slc vb_f vb_n vb_c] =
  (ifK ((va_n : Int) != (vb_n : Int))
    (some (D.bool false))
    (F20_58 call L C L va_f va_n va_c vb_f vb_n vb_c (0))) := by kernel_rfl

def N39 : NTab := fun p => match p with
  | 122 => some { keep := [0, 3], kl := [], ren := [] }
  | 3913 => some { keep := [0, 3], kl := [], ren := [] }
  | 15654 => some { keep := [0, 3, 4], kl := [], ren := [] }
  | _ => none
noncomputable def F39_15654 (call : FuncId → List D → Option D) (L : Nat) (C : Nat → Nat) (n : Nat) (n_2 : Nat) (vh_f : Bool) (vh_n : Nat) (vh_c : List D) (vi : Int) (vk : Int) : Option D :=
  loopAt (TEf call L C) O0 N39 FinM.canon Tryz.f39 [true, true, true, false, true, false, false, true, false, false, true, true, false] [n]  n_2 (St.mk [D.slc vh_f vh_n vh_c, J, J, D.int IntKind.i64 vi, D.int IntKind.i64 vk, J, J, J, J, J, J, J, J, J, J, J, J, J, J, J, J, J, J, J, J, J, J, J, J, J, J, J, J, J, J, J, J, J, J, J, J, J, J, J, J, J, J, J, J, J, J, J, J, J, J, J, J, J, J, J, J, J, J, J, J] [Z, Z, Z, Z, Z, Z, Z, Z, Z, Z, Z, Z, Z, Z, Z, Z, Z, Z, Z, Z, Z, Z, Z, Z, Z, Z, Z, Z, Z, Z, Z, Z, Z, Z, Z, Z, Z, Z, Z, Z, Z, Z, Z, Z, Z, Z, Z, Z, Z, Z, Z, Z, Z, Z, Z, Z, Z, Z, Z, Z, Z, Z, Z, Z, Z])
noncomputable def F39_3913 (call : FuncId → List D → Option D) (L : Nat) (C : Nat → Nat) (n : Nat) (vh_f : Bool) (vh_n : Nat) (vh_c : List D) (vi : Int) : Option D :=
  cutAt (TEf call L C) O0 N39 FinM.canon Tryz.f39 [true, true, true, false, true, false, false, true, false, false, true] [n]  (C 3913) (St.mk [D.slc vh_f vh_n vh_c, J, J, D.int IntKind.i64 vi, J, J, J, J, J, J, J, J, J, J, J, J, J, J, J, J, J, J, J, J, J, J, J, J, J, J, J, J, J, J, J, J, J, J, J, J, J, J, J, J, J, J, J, J, J, J, J, J, J, J, J, J, J, J, J, J, J, J, J, J, J] [Z, Z, Z, Z, Z, Z, Z, Z, Z, Z, Z, Z, Z, Z, Z, Z, Z, Z, Z, Z, Z, Z, Z, Z, Z, Z, Z, Z, Z, Z, Z, Z, Z, Z, Z, Z, Z, Z, Z, Z, Z, Z, Z, Z, Z, Z, Z, Z, Z, Z, Z, Z, Z, Z, Z, Z, Z, Z, Z, Z, Z, Z, Z, Z, Z])
noncomputable def F39_122 (call : FuncId → List D → Option D) (L : Nat) (C : Nat → Nat) (n : Nat) (vh_f : Bool) (vh_n : Nat) (vh_c : List D) (vi : Int) : Option D :=
  loopAt (TEf call L C) O0 N39 FinM.canon Tryz.f39 [true, true, true, false, true, false] []  n (St.mk [D.slc vh_f vh_n vh_c, J, J, D.int IntKind.i64 vi, J, J, J, J, J, J, J, J, J, J, J, J, J, J, J, J, J, J, J, J, J, J, J, J, J, J, J, J, J, J, J, J, J, J, J, J, J, J, J, J, J, J, J, J, J, J, J, J, J, J, J, J, J, J, J, J, J, J, J, J, J] [Z, Z, Z, Z, Z, Z, Z, Z, Z, Z, Z, Z, Z, Z, Z, Z, Z, Z, Z, Z, Z, Z, Z, Z, Z, Z, Z, Z, Z, Z, Z, Z, Z, Z, Z, Z, Z, Z, Z, Z, Z, Z, Z, Z, Z, Z, Z, Z, Z, Z, Z, Z, Z, Z, Z, Z, Z, Z, Z, Z, Z, Z, Z, Z, Z])
theorem F39_15654_eq (call : FuncId → List D → Option D) (L : Nat) (C : Nat → Nat) (n : Nat) (n_2 : Nat) (vh_f : Bool) (vh_n : Nat) (vh_c : List D) (vi : Int) (vk : Int) : F39_15654 call L C n (n_2 + 1) vh_f vh_n vh_c vi (vk) =
  (ifK (decide (vk < vi))
    (chkK (decide (0 ≤ vk ∧ vk < (vh_n : Int)))
      (cellK (vh_c) (Int.toNat vk * 2 + 1) fun d_4 =>
      (intK IntKind.i64 (d_4) fun x_4 =>
      (chkK (decide (0 ≤ vi ∧ vi < (vh_n : Int)))
        (cellK (vh_c) (Int.toNat vi * 2 + 1) fun d_5 =>
        (intK IntKind.i64 (d_5) fun x_5 =>
        (ifK (x_4 == x_5)
          (some (D.int IntKind.i64 9))
          (F39_15654 call L C n n_2 vh_f vh_n vh_c vi (IntKind.wrap IntKind.i64 (vk + 1))))))))))
    (F39_122 call L C n vh_f vh_n vh_c (IntKind.wrap IntKind.i64 (vi + 1)))) := by kernel_rfl
theorem F39_3913_eq (call : FuncId → List D → Option D) (L : Nat) (C : Nat → Nat) (n : Nat) (vh_f : Bool) (vh_n : Nat) (vh_c : List D) (vi : Int) (hC : ∀ t, C t = 1) : F39_3913 call L C n vh_f vh_n vh_c vi  =
  (F39_15654 call L C n L vh_f vh_n vh_c vi (0)) := by
  unfold F39_3913
  rw [hC]
  kernel_rfl
theorem F39_122_eq (call : FuncId → List D → Option D) (L : Nat) (C : Nat → Nat) (n : Nat) (vh_f : Bool) (vh_n : Nat) (vh_c : List D) (vi : Int) : F39_122 call L C  (n + 1) vh_f vh_n vh_c (vi) =
  (ifK (decide (vi < (vh_n : Int)))
    (chkK (decide (0 ≤ vi ∧ vi < (vh_n : Int)))
      (cellK (vh_c) (Int.toNat vi * 2 + 0) fun d =>
      (intK IntKind.i64 (d) fun x =>
      (ifK (decide (x < 3))
        (some (D.int IntKind.i64 3))
        (chkK (decide (0 ≤ vi ∧ vi < (vh_n : Int)))
          (cellK (vh_c) (Int.toNat vi * 2 + 0) fun d_1 =>
          (intK IntKind.i64 (d_1) fun x_1 =>
          (ifK (decide (x_1 > 6))
            (some (D.int IntKind.i64 3))
            (chkK (decide (0 ≤ vi ∧ vi < (vh_n : Int)))
              (cellK (vh_c) (Int.toNat vi * 2 + 1) fun d_2 =>
              (intK IntKind.i64 (d_2) fun x_2 =>
              (ifK (decide (x_2 < 1))
                (some (D.int IntKind.i64 3))
                (chkK (decide (0 ≤ vi ∧ vi < (vh_n : Int)))
                  (cellK (vh_c) (Int.toNat vi * 2 + 1) fun d_3 =>
                  (intK IntKind.i64 (d_3) fun x_3 =>
                  (ifK (decide (x_3 > (vh_n : Int)))
                    (some (D.int IntKind.i64 3))
                    (F39_3913 call L C n vh_f vh_n vh_c vi)))))))))))))))))
    (some (D.int IntKind.i64 0))) := by kernel_rfl
theorem F39_eq (call : FuncId → List D → Option D) (L : Nat) (C : Nat → Nat) (vh_f : Bool) (vh_n : Nat) (vh_c : List D) : evFnT (TEf call L C) O0 N39 FinM.canon Tryz.f39 [D.slc vh_f vh_n vh_c] =
  (ifK ((vh_n : Int) == 0)
    (some (D.int IntKind.i64 12))
    (ifK (decide ((vh_n : Int) > 36))
      (some (D.int IntKind.i64 5))
      (F39_122 call L C L vh_f vh_n vh_c (0)))) := by kernel_rfl

def N78 : NTab := fun p => match p with
  | 58 => some { keep := [1, 3], kl := [], ren := [(1, 1)] }
  | _ => none
noncomputable def F78_58 (call : FuncId → List D → Option D) (L : Nat) (C : Nat → Nat) (n : Nat) (vp0 : ByteArray) (vp1_f : Bool) (vp1_n : Nat) (vp1_c : List D) (vp2 : Int) (vi : Int) : Option D :=
  loopAt (TEf call L C) O0 N78 FinM.canon Tryz.f78 [true, true, false, true, false] []  n (St.mk [J, D.loc 1 0 0, J, D.int IntKind.i64 vi, J, J, J, J, J, J, J, J, J, J, J, J, J, J, J, J, J, J, J, J, J, J, J, J, J, J, J, J, J] [Z, (1, some (Ob.box [D.str vp0, D.slc vp1_f vp1_n vp1_c, D.int IntKind.i64 vp2] false)), Z, Z, Z, Z, Z, Z, Z, Z, Z, Z, Z, Z, Z, Z, Z, Z, Z, Z, Z, Z, Z, Z, Z, Z, Z, Z, Z, Z, Z, Z, Z])
theorem F78_58_eq (call : FuncId → List D → Option D) (L : Nat) (C : Nat → Nat) (n : Nat) (vp0 : ByteArray) (vp1_f : Bool) (vp1_n : Nat) (vp1_c : List D) (vp2 : Int) (vi : Int) : F78_58 call L C  (n + 1) vp0 vp1_f vp1_n vp1_c vp2 (vi) =
  (ifK (decide (vi < (vp1_n : Int)))
    (chkK (decide (0 ≤ vi ∧ vi < (vp1_n : Int)))
      (cellK (vp1_c) (Int.toNat vi * 2 + 1) fun d =>
      (strK (d) fun s =>
      (ifK (decide (((ByteArray.size s) : Int) > 60))
        (some (D.bool false))
        (F78_58 call L C n vp0 vp1_f vp1_n vp1_c vp2 (IntKind.wrap IntKind.i64 (vi + 1)))))))
    (some (D.bool true))) := by kernel_rfl
theorem F78_eq (call : FuncId → List D → Option D) (L : Nat) (C : Nat → Nat) (vp0 : ByteArray) (vp1_f : Bool) (vp1_n : Nat) (vp1_c : List D) (vp2 : Int) : evFnT (TEf call L C) O0 N78 FinM.canon Tryz.f78 [D.agg [D.str vp0, D.slc vp1_f vp1_n vp1_c, D.int IntKind.i64 vp2]] =
  (ifK (decide (((ByteArray.size vp0) : Int) > 60))
    (some (D.bool false))
    (ifK (decide ((vp1_n : Int) > 39))
      (some (D.bool false))
      (F78_58 call L C L vp0 vp1_f vp1_n vp1_c vp2 (0)))) := by kernel_rfl

def N81 : NTab := fun p => match p with
  | 26 => some { keep := [5, 6, 7], kl := [], ren := [] }
  | _ => none
noncomputable def F81_26 (call : FuncId → List D → Option D) (L : Nat) (C : Nat → Nat) (n : Nat) (vl_f : Bool) (vl_n : Nat) (vl_c : List D) (t6 : Int) (t7 : Int) : Option D :=
  loopAt (TEf call L C) O0 N81 FinM.canon Tryz.f81 [true, false, true, false] []  n (St.mk [J, J, J, J, J, D.slc vl_f vl_n vl_c, D.int IntKind.i64 t6, D.int IntKind.i64 t7, J, J, J, J, J, J, J] [Z, Z, Z, Z, Z, Z, Z, Z, Z, Z, Z, Z, Z, Z, Z])
theorem F81_26_eq (call : FuncId → List D → Option D) (L : Nat) (C : Nat → Nat) (n : Nat) (vl_f : Bool) (vl_n : Nat) (vl_c : List D) (t6 : Int) (t7 : Int) : F81_26 call L C  (n + 1) vl_f vl_n vl_c (t6) (t7) =
  (ifK (decide (t7 < t6))
    (chkK (decide (0 ≤ t7 ∧ t7 < (vl_n : Int)))
      (cellK (vl_c) (Int.toNat t7 * 1) fun d =>
      (intK IntKind.i64 (d) fun x =>
      (ifK (x != 0)
        (some (D.int IntKind.i64 x))
        (F81_26 call L C n vl_f vl_n vl_c (t6) (IntKind.wrap IntKind.i64 (t7 + 1)))))))
    (some (D.int IntKind.i64 0))) := by kernel_rfl
theorem F81_eq (call : FuncId → List D → Option D) (L : Nat) (C : Nat → Nat) (vl_f : Bool) (vl_n : Nat) (vl_c : List D) : evFnT (TEf call L C) O0 N81 FinM.canon Tryz.f81 [D.slc vl_f vl_n vl_c] =
  (F81_26 call L C L vl_f vl_n vl_c ((vl_n : Int)) (0)) := by kernel_rfl

def N82 : NTab := fun p => match p with
  | 122 => some { keep := [0, 4, 22, 23, 24], kl := [6], ren := [(6, 6), (21, 21)] }
  | 15667 => some { keep := [0, 4, 6, 22, 23, 24], kl := [], ren := [(6, 6), (21, 21)] }
  | 31333 => some { keep := [0, 4, 6, 7, 22, 23, 24], kl := [], ren := [(6, 6), (21, 21)] }
  | _ => none
noncomputable def F82_15667 (call : FuncId → List D → Option D) (L : Nat) (C : Nat → Nat) (n : Nat) (vh_f : Bool) (vh_n : Nat) (vh_c : List D) (t23 : Int) (t24 : Int) (vx : Int) (vx1 : Int) (t21_k : List D) (t21_v : List D) : Option D :=
  cutAt (TEf call L C) O0 N82 FinM.canon Tryz.f82 [true, true, true, false, true, false, false, true, true, false, false, true, true] [n]  (C 15667) (St.mk [D.slc vh_f vh_n vh_c, J, J, J, D.mloc 21 0, J, D.loc 6 0 0, J, J, J, J, J, J, J, J, J, J, J, J, J, J, J, D.slc vh_f vh_n vh_c, D.int IntKind.i64 t23, D.int IntKind.i64 t24, J, J, J, J, J, J, J, J, J, J, J, J, J, J, J, J, J, J, J, J, J, J, J, J, J, J, J, J, J, J, J, J, J, J, J, J, J, J] [Z, Z, Z, Z, Z, Z, (1, some (Ob.box [D.int IntKind.i64 vx, D.int IntKind.i64 vx1] false)), Z, Z, Z, Z, Z, Z, Z, Z, Z, Z, Z, Z, Z, Z, (1, some (Ob.map t21_k t21_v false)), Z, Z, Z, Z, Z, Z, Z, Z, Z, Z, Z, Z, Z, Z, Z, Z, Z, Z, Z, Z, Z, Z, Z, Z, Z, Z, Z, Z, Z, Z, Z, Z, Z, Z, Z, Z, Z, Z, Z, Z, Z])
noncomputable def F82_31333 (call : FuncId → List D → Option D) (L : Nat) (C : Nat → Nat) (n : Nat) (vh_f : Bool) (vh_n : Nat) (vh_c : List D) (t23 : Int) (t24 : Int) (t21_k : List D) (t21_v : List D) (ve : Int) (vx : Int) (vx1 : Int) : Option D :=
  cutAt (TEf call L C) O0 N82 FinM.canon Tryz.f82 [true, true, true, false, true, false, false, true, true, false, false, true, false, true] [n]  (C 31333) (St.mk [D.slc vh_f vh_n vh_c, J, J, J, D.mloc 21 0, J, D.loc 6 0 0, D.int IntKind.i64 ve, J, J, J, J, J, J, J, J, J, J, J, J, J, J, D.slc vh_f vh_n vh_c, D.int IntKind.i64 t23, D.int IntKind.i64 t24, J, J, J, J, J, J, J, J, J, J, J, J, J, J, J, J, J, J, J, J, J, J, J, J, J, J, J, J, J, J, J, J, J, J, J, J, J, J] [Z, Z, Z, Z, Z, Z, (1, some (Ob.box [D.int IntKind.i64 vx, D.int IntKind.i64 vx1] false)), Z, Z, Z, Z, Z, Z, Z, Z, Z, Z, Z, Z, Z, Z, (1, some (Ob.map t21_k t21_v false)), Z, Z, Z, Z, Z, Z, Z, Z, Z, Z, Z, Z, Z, Z, Z, Z, Z, Z, Z, Z, Z, Z, Z, Z, Z, Z, Z, Z, Z, Z, Z, Z, Z, Z, Z, Z, Z, Z, Z, Z, Z])
noncomputable def F82_122 (call : FuncId → List D → Option D) (L : Nat) (C : Nat → Nat) (n : Nat) (vh_f : Bool) (vh_n : Nat) (vh_c : List D) (t23 : Int) (t24 : Int) (t21_k : List D) (t21_v : List D) : Option D :=
  loopAt (TEf call L C) O0 N82 FinM.canon Tryz.f82 [true, true, true, false, true, false] []  n (St.mk [D.slc vh_f vh_n vh_c, J, J, J, D.mloc 21 0, J, J, J, J, J, J, J, J, J, J, J, J, J, J, J, J, J, D.slc vh_f vh_n vh_c, D.int IntKind.i64 t23, D.int IntKind.i64 t24, J, J, J, J, J, J, J, J, J, J, J, J, J, J, J, J, J, J, J, J, J, J, J, J, J, J, J, J, J, J, J, J, J, J, J, J, J, J] [Z, Z, Z, Z, Z, Z, Z, Z, Z, Z, Z, Z, Z, Z, Z, Z, Z, Z, Z, Z, Z, (1, some (Ob.map t21_k t21_v false)), Z, Z, Z, Z, Z, Z, Z, Z, Z, Z, Z, Z, Z, Z, Z, Z, Z, Z, Z, Z, Z, Z, Z, Z, Z, Z, Z, Z, Z, Z, Z, Z, Z, Z, Z, Z, Z, Z, Z, Z, Z])
theorem F82_15667_eq (call : FuncId → List D → Option D) (L : Nat) (C : Nat → Nat) (n : Nat) (vh_f : Bool) (vh_n : Nat) (vh_c : List D) (t23 : Int) (t24 : Int) (vx : Int) (vx1 : Int) (t21_k : List D) (t21_v : List D) (hC : ∀ t, C t = 1) : F82_15667 call L C n vh_f vh_n vh_c t23 t24 vx vx1 t21_k t21_v  =
  (updK (updD (D.int IntKind.i64 vx1) (D.bool true) t21_k t21_v) fun ks vs =>
  (F82_122 call L C n vh_f vh_n vh_c (t23) (IntKind.wrap IntKind.i64 (t24 + 1)) (ks) (vs))) := by
  unfold F82_15667
  rw [hC]
  kernel_rfl
theorem F82_31333_eq (call : FuncId → List D → Option D) (L : Nat) (C : Nat → Nat) (n : Nat) (vh_f : Bool) (vh_n : Nat) (vh_c : List D) (t23 : Int) (t24 : Int) (t21_k : List D) (t21_v : List D) (ve : Int) (vx : Int) (vx1 : Int) (hC : ∀ t, C t = 1) : F82_31333 call L C n vh_f vh_n vh_c t23 t24 t21_k t21_v (ve) (vx) (vx1) =
  (ifK (ve != 0)
    (some (D.int IntKind.i64 ve))
    (F82_15667 call L C n vh_f vh_n vh_c t23 t24 vx vx1 t21_k t21_v)) := by
  unfold F82_31333
  rw [hC]
  kernel_rfl
theorem F82_122_eq (call : FuncId → List D → Option D) (L : Nat) (C : Nat → Nat) (n : Nat) (vh_f : Bool) (vh_n : Nat) (vh_c : List D) (t23 : Int) (t24 : Int) (t21_k : List D) (t21_v : List D) : F82_122 call L C  (n + 1) vh_f vh_n vh_c (t23) (t24) (t21_k) (t21_v) =
  (ifK (decide (t24 < t23))
    (chkK (decide (0 ≤ t24 ∧ t24 < (vh_n : Int)))
      (cellK (vh_c) (Int.toNat t24 * 2 + 0) fun d =>
      (intK IntKind.i64 (d) fun x_3 =>
      (cellK (vh_c) (Int.toNat t24 * 2 + 1) fun d_1 =>
      (intK IntKind.i64 (d_1) fun x_4 =>
      (ifK (decide (x_3 < 3))
        (optK (call 127 [D.bool true, D.int IntKind.i64 3]) fun r_3 =>
          (intK IntKind.i64 (r_3) fun x_5 =>
          (findK (findD (D.int IntKind.i64 x_4) t21_k 0)
            (optK (call 127 [D.bool false, D.int IntKind.i64 9]) fun r_4 =>
              (intK IntKind.i64 (r_4) fun x_6 =>
              (optK (call 126 [D.slc true 2 [D.int IntKind.i64 x_5, D.int IntKind.i64 x_6]]) fun r_5 =>
                (intK IntKind.i64 (r_5) fun x_7 =>
                (F82_31333 call L C n vh_f vh_n vh_c t23 t24 t21_k t21_v (x_7) (x_3) (x_4)))))) fun i =>
            (cellK (t21_v) (i) fun d_2 =>
            (boolK (d_2) fun b =>
            (optK (call 127 [D.bool b, D.int IntKind.i64 9]) fun r_6 =>
              (intK IntKind.i64 (r_6) fun x_8 =>
              (optK (call 126 [D.slc true 2 [D.int IntKind.i64 x_5, D.int IntKind.i64 x_8]]) fun r_7 =>
                (intK IntKind.i64 (r_7) fun x_9 =>
                (F82_31333 call L C n vh_f vh_n vh_c t23 t24 t21_k t21_v (x_9) (x_3) (x_4)))))))))))
        (ifK (decide (x_3 > 6))
          (optK (call 127 [D.bool true, D.int IntKind.i64 3]) fun r_8 =>
            (intK IntKind.i64 (r_8) fun x_10 =>
            (findK (findD (D.int IntKind.i64 x_4) t21_k 0)
              (optK (call 127 [D.bool false, D.int IntKind.i64 9]) fun r_9 =>
                (intK IntKind.i64 (r_9) fun x_11 =>
                (optK (call 126 [D.slc true 2 [D.int IntKind.i64 x_10, D.int IntKind.i64 x_11]]) fun r_10 =>
                  (intK IntKind.i64 (r_10) fun x_12 =>
                  (F82_31333 call L C n vh_f vh_n vh_c t23 t24 t21_k t21_v (x_12) (x_3) (x_4)))))) fun i_1 =>
              (cellK (t21_v) (i_1) fun d_3 =>
              (boolK (d_3) fun b_1 =>
              (optK (call 127 [D.bool b_1, D.int IntKind.i64 9]) fun r_11 =>
                (intK IntKind.i64 (r_11) fun x_13 =>
                (optK (call 126 [D.slc true 2 [D.int IntKind.i64 x_10, D.int IntKind.i64 x_13]]) fun r_12 =>
                  (intK IntKind.i64 (r_12) fun x_14 =>
                  (F82_31333 call L C n vh_f vh_n vh_c t23 t24 t21_k t21_v (x_14) (x_3) (x_4)))))))))))
          (ifK (decide (x_4 < 1))
            (optK (call 127 [D.bool true, D.int IntKind.i64 3]) fun r_13 =>
              (intK IntKind.i64 (r_13) fun x_15 =>
              (findK (findD (D.int IntKind.i64 x_4) t21_k 0)
                (optK (call 127 [D.bool false, D.int IntKind.i64 9]) fun r_14 =>
                  (intK IntKind.i64 (r_14) fun x_16 =>
                  (optK (call 126 [D.slc true 2 [D.int IntKind.i64 x_15, D.int IntKind.i64 x_16]]) fun r_15 =>
                    (intK IntKind.i64 (r_15) fun x_17 =>
                    (F82_31333 call L C n vh_f vh_n vh_c t23 t24 t21_k t21_v (x_17) (x_3) (x_4)))))) fun i_2 =>
                (cellK (t21_v) (i_2) fun d_4 =>
                (boolK (d_4) fun b_2 =>
                (optK (call 127 [D.bool b_2, D.int IntKind.i64 9]) fun r_16 =>
                  (intK IntKind.i64 (r_16) fun x_18 =>
                  (optK (call 126 [D.slc true 2 [D.int IntKind.i64 x_15, D.int IntKind.i64 x_18]]) fun r_17 =>
                    (intK IntKind.i64 (r_17) fun x_19 =>
                    (F82_31333 call L C n vh_f vh_n vh_c t23 t24 t21_k t21_v (x_19) (x_3) (x_4)))))))))))
            (optK (call 127 [D.bool (decide (x_4 > (vh_n : Int))), D.int IntKind.i64 3]) fun r_18 =>
              (intK IntKind.i64 (r_18) fun x_20 =>
              (findK (findD (D.int IntKind.i64 x_4) t21_k 0)
                (optK (call 127 [D.bool false, D.int IntKind.i64 9]) fun r_19 =>
                  (intK IntKind.i64 (r_19) fun x_21 =>
                  (optK (call 126 [D.slc true 2 [D.int IntKind.i64 x_20, D.int IntKind.i64 x_21]]) fun r_20 =>
                    (intK IntKind.i64 (r_20) fun x_22 =>
                    (F82_31333 call L C n vh_f vh_n vh_c t23 t24 t21_k t21_v (x_22) (x_3) (x_4)))))) fun i_3 =>
                (cellK (t21_v) (i_3) fun d_5 =>
                (boolK (d_5) fun b_3 =>
                (optK (call 127 [D.bool b_3, D.int IntKind.i64 9]) fun r_21 =>
                  (intK IntKind.i64 (r_21) fun x_23 =>
                  (optK (call 126 [D.slc true 2 [D.int IntKind.i64 x_20, D.int IntKind.i64 x_23]]) fun r_22 =>
                    (intK IntKind.i64 (r_22) fun x_24 =>
                    (F82_31333 call L C n vh_f vh_n vh_c t23 t24 t21_k t21_v (x_24) (x_3) (x_4)))))))))))))))))))
    (some (D.int IntKind.i64 0))) := by kernel_rfl
theorem F82_eq (call : FuncId → List D → Option D) (L : Nat) (C : Nat → Nat) (vh_f : Bool) (vh_n : Nat) (vh_c : List D) : evFnT (TEf call L C) O0 N82 FinM.canon Tryz.f82 [D.slc vh_f vh_n vh_c] =
  (optK (call 127 [D.bool ((vh_n : Int) == 0), D.int IntKind.i64 12]) fun r =>
    (intK IntKind.i64 (r) fun x =>
    (optK (call 127 [D.bool (decide ((vh_n : Int) > 36)), D.int IntKind.i64 5]) fun r_1 =>
      (intK IntKind.i64 (r_1) fun x_1 =>
      (optK (call 126 [D.slc true 2 [D.int IntKind.i64 x, D.int IntKind.i64 x_1]]) fun r_2 =>
        (intK IntKind.i64 (r_2) fun x_2 =>
        (ifK (x_2 != 0)
          (some (D.int IntKind.i64 x_2))
          (F82_122 call L C L vh_f vh_n vh_c ((vh_n : Int)) (0) ([]) ([]))))))))) := by kernel_rfl

theorem F83_eq (call : FuncId → List D → Option D) (L : Nat) (C : Nat → Nat) (vholds : Bool) (ve : Int) : evFnT (TEf call L C) O0 N0 FinM.canon Tryz.f83 [D.bool vholds, D.int IntKind.i64 ve] =
  (ifK (vholds)
    (some (D.int IntKind.i64 ve))
    (some (D.int IntKind.i64 0))) := by kernel_rfl

theorem F84_eq (call : FuncId → List D → Option D) (L : Nat) (C : Nat → Nat) (vn : Int) (vmost : Int) : evFnT (TEf call L C) O0 N0 FinM.canon Tryz.f84 [D.int IntKind.i64 vn, D.int IntKind.i64 vmost] =
  (ifK (decide (vn < IntKind.wrap IntKind.i64 (0 - vmost)))
    (some (D.bool true))
    (some (D.bool (decide (vn > vmost))))) := by kernel_rfl

def N85 : NTab := fun p => match p with
  | 250 => some { keep := [5, 6, 7, 21, 22, 23], kl := [9], ren := [(9, 9), (37, 37)] }
  | _ => none
noncomputable def F85_250 (call : FuncId → List D → Option D) (L : Nat) (C : Nat → Nat) (n : Nat) (vh_f : Bool) (vh_n : Nat) (vh_c : List D) (vq : Int) (vrest : Int) (vout : Ow) (t22 : Int) (t23 : Int) : Option D :=
  loopAt (TEf call L C) O0 N85 FinM.canon Tryz.f85 [true, true, true, true, false, true, false] []  n (St.mk [J, J, J, J, J, D.int IntKind.i64 vq, D.int IntKind.i64 vrest, ownD 37 vout, J, J, J, J, J, J, J, J, J, J, J, J, J, D.slc vh_f vh_n vh_c, D.int IntKind.i64 t22, D.int IntKind.i64 t23, J, J, J, J, J, J, J, J, J, J, J, J, J, J, J, J] [Z, Z, Z, Z, Z, Z, Z, Z, Z, Z, Z, Z, Z, Z, Z, Z, Z, Z, Z, Z, Z, Z, Z, Z, Z, Z, Z, Z, Z, Z, Z, Z, Z, Z, Z, Z, Z, ownO 3 1 vout, Z, Z])
theorem F85_250_eqn (call : FuncId → List D → Option D) (L : Nat) (C : Nat → Nat) (n : Nat) (vh_f : Bool) (vh_n : Nat) (vh_c : List D) (vq : Int) (vrest : Int) (t22 : Int) (t23 : Int) : F85_250 call L C  (n + 1) vh_f vh_n vh_c (vq) (vrest) (Ow.nil) (t22) (t23) =
  (ifK (decide (t23 < t22))
    (chkK (decide (0 ≤ t23 ∧ t23 < (vh_n : Int)))
      (cellK (vh_c) (Int.toNat t23 * 2 + 0) fun d =>
      (intK IntKind.i64 (d) fun _x_1 =>
      (cellK (vh_c) (Int.toNat t23 * 2 + 1) fun d_1 =>
      (intK IntKind.i64 (d_1) fun x_2 =>
      (ifK (decide (x_2 ≤ vrest))
        (F85_250 call L C n vh_f vh_n vh_c (vq) (vrest) (Ow.own 1 [D.int IntKind.i64 (IntKind.wrap IntKind.i64 (vq + 1))]) (t22) (IntKind.wrap IntKind.i64 (t23 + 1)))
        (F85_250 call L C n vh_f vh_n vh_c (vq) (vrest) (Ow.own 1 [D.int IntKind.i64 vq]) (t22) (IntKind.wrap IntKind.i64 (t23 + 1)))))))))
    (some (D.slc true 0 []))) := by kernel_rfl
theorem F85_250_eqo (call : FuncId → List D → Option D) (L : Nat) (C : Nat → Nat) (n : Nat) (vh_f : Bool) (vh_n : Nat) (vh_c : List D) (vq : Int) (vrest : Int) (vout_n : Nat) (vout_c : List D) (t22 : Int) (t23 : Int) : F85_250 call L C  (n + 1) vh_f vh_n vh_c (vq) (vrest) (Ow.own vout_n vout_c) (t22) (t23) =
  (ifK (decide (t23 < t22))
    (chkK (decide (0 ≤ t23 ∧ t23 < (vh_n : Int)))
      (cellK (vh_c) (Int.toNat t23 * 2 + 0) fun d_2 =>
      (intK IntKind.i64 (d_2) fun _x_3 =>
      (cellK (vh_c) (Int.toNat t23 * 2 + 1) fun d_3 =>
      (intK IntKind.i64 (d_3) fun x_4 =>
      (ifK (decide (x_4 ≤ vrest))
        (chkK (decide ((vout_n + 1) * 8 ≤ limit ∧ vout_n + 1 ≤ 9223372036854775807))
          (F85_250 call L C n vh_f vh_n vh_c (vq) (vrest) (Ow.own (vout_n + 1) (vout_c ++ [D.int IntKind.i64 (IntKind.wrap IntKind.i64 (vq + 1))])) (t22) (IntKind.wrap IntKind.i64 (t23 + 1))))
        (chkK (decide ((vout_n + 1) * 8 ≤ limit ∧ vout_n + 1 ≤ 9223372036854775807))
          (F85_250 call L C n vh_f vh_n vh_c (vq) (vrest) (Ow.own (vout_n + 1) (vout_c ++ [D.int IntKind.i64 vq])) (t22) (IntKind.wrap IntKind.i64 (t23 + 1))))))))))
    (some (D.slc false vout_n vout_c))) := by kernel_rfl
theorem F85_eq (call : FuncId → List D → Option D) (L : Nat) (C : Nat → Nat) (vh_f : Bool) (vh_n : Nat) (vh_c : List D) (vhandicap : Int) : evFnT (TEf call L C) O0 N85 FinM.canon Tryz.f85 [D.slc vh_f vh_n vh_c, D.int IntKind.i64 vhandicap] =
  (optK (call 128 [D.int IntKind.i64 vhandicap, D.int IntKind.i64 (vh_n : Int)]) fun r =>
    (intK IntKind.i64 (r) fun x =>
    (F85_250 call L C L vh_f vh_n vh_c (x) (IntKind.wrap IntKind.i64 (vhandicap - IntKind.wrap IntKind.i64 (x * (vh_n : Int)))) (Ow.nil) ((vh_n : Int)) (0)))) := by kernel_rfl

theorem F86_eq (call : FuncId → List D → Option D) (L : Nat) (C : Nat → Nat) (vh : Int) : evFnT (TEf call L C) O0 N0 FinM.canon Tryz.f86 [D.int IntKind.i64 vh] =
  (ifK (decide (vh < -99))
    (some (D.bool true))
    (some (D.bool (decide (vh > 99))))) := by kernel_rfl

def N126 : NTab := fun p => match p with
  | 26 => some { keep := [5, 6, 7], kl := [], ren := [] }
  | _ => none
noncomputable def F126_26 (call : FuncId → List D → Option D) (L : Nat) (C : Nat → Nat) (n : Nat) (vl_f : Bool) (vl_n : Nat) (vl_c : List D) (t6 : Int) (t7 : Int) : Option D :=
  loopAt (TEf call L C) O0 N126 FinM.canon Tryz.f126 [true, false, true, false] []  n (St.mk [J, J, J, J, J, D.slc vl_f vl_n vl_c, D.int IntKind.i64 t6, D.int IntKind.i64 t7, J, J, J, J, J, J, J] [Z, Z, Z, Z, Z, Z, Z, Z, Z, Z, Z, Z, Z, Z, Z])
theorem F126_26_eq (call : FuncId → List D → Option D) (L : Nat) (C : Nat → Nat) (n : Nat) (vl_f : Bool) (vl_n : Nat) (vl_c : List D) (t6 : Int) (t7 : Int) : F126_26 call L C  (n + 1) vl_f vl_n vl_c (t6) (t7) =
  (ifK (decide (t7 < t6))
    (chkK (decide (0 ≤ t7 ∧ t7 < (vl_n : Int)))
      (cellK (vl_c) (Int.toNat t7 * 1) fun d =>
      (intK IntKind.i64 (d) fun x =>
      (ifK (x != 0)
        (some (D.int IntKind.i64 x))
        (F126_26 call L C n vl_f vl_n vl_c (t6) (IntKind.wrap IntKind.i64 (t7 + 1)))))))
    (some (D.int IntKind.i64 0))) := by kernel_rfl
theorem F126_eq (call : FuncId → List D → Option D) (L : Nat) (C : Nat → Nat) (vl_f : Bool) (vl_n : Nat) (vl_c : List D) : evFnT (TEf call L C) O0 N126 FinM.canon Tryz.f126 [D.slc vl_f vl_n vl_c] =
  (F126_26 call L C L vl_f vl_n vl_c ((vl_n : Int)) (0)) := by kernel_rfl

theorem F127_eq (call : FuncId → List D → Option D) (L : Nat) (C : Nat → Nat) (vholds : Bool) (ve : Int) : evFnT (TEf call L C) O0 N0 FinM.canon Tryz.f127 [D.bool vholds, D.int IntKind.i64 ve] =
  (ifK (vholds)
    (some (D.int IntKind.i64 ve))
    (some (D.int IntKind.i64 0))) := by kernel_rfl

theorem F128_eq (call : FuncId → List D → Option D) (L : Nat) (C : Nat → Nat) (va : Int) (vb : Int) : evFnT (TEf call L C) O0 N0 FinM.canon Tryz.f128 [D.int IntKind.i64 va, D.int IntKind.i64 vb] =
  (chkK (!decide (vb = 0))
    (chkK (!decide (vb = 0))
      (ifK (decide (Int.tmod va vb < 0))
        (some (D.int IntKind.i64 (IntKind.wrap IntKind.i64 (IntKind.wrap IntKind.i64 (Int.tdiv va vb) - 1))))
        (some (D.int IntKind.i64 (IntKind.wrap IntKind.i64 (Int.tdiv va vb))))))) := by kernel_rfl

end Go.Pd
end

section
namespace Go.Pd
open Go Go.Proofs Go.RowKit

abbrev OK5 (k : FuncId) (ds : List D) (r : D) : Prop := CallOK Tryz.prog (fun _ => none) k ds r
/-- A function by its equation. -/
theorem fnT {base : FuncId → List D → Option D} (hb : CallsT base) {f : FuncId} {fn : Func} (hf : Tryz.prog.funcs[f]? = some fn) {ord : Ord} {N : NTab} (hok : okFn Tryz.prog ord fn = true) {ds : List D} {r : D}
    (he : evFnT (TEf (callOf base) LL C1) ord N .canon fn ds = some r) : OK5 f ds r := fnS hb sqT_ok hf hok he
theorem callOf_tab {l : List (FuncId × List D × D)} {k : FuncId} {ds : List D} (h : cstG k ds = none) : callOf (tabC l) k ds = tabC l k ds := by
  unfold callOf
  rw [h]
theorem wrap_id {x : Int} (h : -9223372036854775808 ≤ x ∧ x ≤ 9223372036854775807) : IntKind.wrap .i64 x = x := IntWalk.i64_in x h

theorem ok127 (b : Bool) (e : Int) : OK5 127 [.bool b, .int .i64 e] (.int .i64 (ifK b e 0)) :=
  fnT none_ok Tryz.func127 (ord := O0) (N := N0) (by kernel_rfl) ((F127_eq _ _ _ b e).trans (by cases b <;> rfl))
theorem ok83 (b : Bool) (e : Int) : OK5 83 [.bool b, .int .i64 e] (.int .i64 (ifK b e 0)) :=
  fnT none_ok Tryz.func83 (ord := O0) (N := N0) (by kernel_rfl) ((F83_eq _ _ _ b e).trans (by cases b <;> rfl))
/-- The first of two that is not 0. -/
def fst2 (x y : Int) : Int := ifK (x != 0) x y
theorem ok126 (x y : Int) : OK5 126 [.slc true 2 [.int .i64 x, .int .i64 y]] (.int .i64 (fst2 x y)) := by
  refine fnT none_ok Tryz.func126 (ord := O0) (N := N126) (by kernel_rfl) ((F126_eq _ _ _ _ _ _).trans ?_)
  rw [show LL = (4611686018427387901 + 1) + 1 + 1 from rfl, F126_26_eq, F126_26_eq, F126_26_eq]
  have h1 : IntKind.wrap .i64 ((0 : Int) + 1) = 1 := wrap_id (by omega)
  have h2 : IntKind.wrap .i64 ((1 : Int) + 1) = 2 := wrap_id (by omega)
  simp only [h1, h2]
  unfold fst2
  cases hx : (x != 0) with
  | true => simp [cellK, hx]
  | false =>
    cases hy : (y != 0) with
    | true => simp [cellK, hx, hy]
    | false =>
      have : y = 0 := by simpa using hy
      simp [cellK, hx, this]
theorem ok81 (x y : Int) : OK5 81 [.slc true 2 [.int .i64 x, .int .i64 y]] (.int .i64 (fst2 x y)) := by
  refine fnT none_ok Tryz.func81 (ord := O0) (N := N81) (by kernel_rfl) ((F81_eq _ _ _ _ _ _).trans ?_)
  rw [show LL = (4611686018427387901 + 1) + 1 + 1 from rfl, F81_26_eq, F81_26_eq, F81_26_eq]
  have h1 : IntKind.wrap .i64 ((0 : Int) + 1) = 1 := wrap_id (by omega)
  have h2 : IntKind.wrap .i64 ((1 : Int) + 1) = 2 := wrap_id (by omega)
  simp only [h1, h2]
  unfold fst2
  cases hx : (x != 0) with
  | true => simp [cellK, hx]
  | false =>
    cases hy : (y != 0) with
    | true => simp [cellK, hx, hy]
    | false =>
      have : y = 0 := by simpa using hy
      simp [cellK, hx, this]
def outB (h : Int) : Bool := decide (h < -99) || decide (h > 99)
theorem ok86 (h : Int) : OK5 86 [.int .i64 h] (.bool (outB h)) := by
  refine fnT none_ok Tryz.func86 (ord := O0) (N := N0) (by kernel_rfl) ((F86_eq _ _ _ h).trans ?_)
  unfold outB
  cases decide (h < -99) <;> rfl
theorem ok84 (h : Int) : OK5 84 [.int .i64 h, .int .i64 99] (.bool (outB h)) := by
  refine fnT none_ok Tryz.func84 (ord := O0) (N := N0) (by kernel_rfl) ((F84_eq _ _ _ h 99).trans ?_)
  rw [wrap_id (by omega)]
  unfold outB
  rw [show (0 : Int) - 99 = -99 from rfl]
  cases decide (h < -99) <;> rfl
end Go.Pd
end

section
namespace Go.Pd
open Go Go.Proofs Go.RowKit

/-- The cells of n holes: par and index. -/
def HolesC (n : Nat) (c : List D) (P S : Nat → Int) : Prop := ∀ i, i < n → c[i * 2 + 0]? = some (.int .i64 (P i)) ∧ c[i * 2 + 1]? = some (.int .i64 (S i))
def badH (n : Nat) (P S : Nat → Int) (i : Nat) : Bool := decide (P i < 3) || decide (P i > 6) || decide (S i < 1) || decide (S i > n)
/-- Has a hole from k on, before i, the index of i? -/
def dupH (S : Nat → Int) (i : Nat) : Nat → Nat → Bool
  | 0, _ => false
  | m + 1, k => ifK (S k == S i) true (dupH S i m (k + 1))
def holeErr (n : Nat) (P S : Nat → Int) (i : Nat) : Int := ifK (badH n P S i) 3 (ifK (dupH S i i 0) 9 0)
def holesGo (n : Nat) (P S : Nat → Int) : Nat → Nat → Int
  | 0, _ => 0
  | m + 1, i => ifK (holeErr n P S i != 0) (holeErr n P S i) (holesGo n P S m (i + 1))
def holesErr (n : Nat) (P S : Nat → Int) : Int := ifK ((n : Int) == 0) 12 (ifK (decide ((n : Int) > 36)) 5 (holesGo n P S n 0))

theorem inner39 {call : FuncId → List D → Option D} {f : Bool} {n : Nat} {c : List D} {P : Nat → Int} {S : Nat → Int} (hc : HolesC n c P S) (hn : n ≤ 36) (fu : Nat) (i : Nat) (hi : i < n) : ∀ (m k fuel : Nat), k + m = i → m < fuel → F39_15654 call LL C1 fu fuel f n c i k = ifK (dupH S i m k) (some (.int .i64 9)) (F39_122 call LL C1 fu f n c ((i + 1 : Nat) : Int))
  | 0, k, fuel + 1, h, _ => by
    rw [F39_15654_eq]
    have h1 : decide ((k : Int) < i) = false := by simp; omega
    rw [h1, ifK_false, wrap_id (x := (i : Int) + 1) (by omega)]
    rfl
  | m + 1, k, fuel + 1, h, hf => by
    rw [F39_15654_eq]
    have h1 : decide ((k : Int) < i) = true := by simp; omega
    have h2 : decide ((0 : Int) ≤ k ∧ (k : Int) < n) = true := by simp; omega
    have h3 : decide ((0 : Int) ≤ i ∧ (i : Int) < n) = true := by simp; omega
    rw [h1, h2, h3, ifK_true, chkK_true, cellK_some (by simpa using (hc k (by omega)).2), intK_int, chkK_true, cellK_some (by simpa using (hc i hi).2), intK_int, wrap_id (by omega)]
    have := inner39 (call := call) (f := f) (n := n) (c := c) (P := P) (S := S) hc hn fu i hi m (k + 1) fuel (by omega) (by omega)
    rw [show ((k : Int) + 1) = ((k + 1 : Nat) : Int) from rfl, this]
    rw [show dupH S i (m + 1) k = ifK (S k == S i) true (dupH S i m (k + 1)) from rfl]
    cases S k == S i <;> rfl
theorem outer39 {call : FuncId → List D → Option D} {f : Bool} {n : Nat} {c : List D} {P : Nat → Int} {S : Nat → Int} (hc : HolesC n c P S) (hn : n ≤ 36) : ∀ (m i fuel : Nat), i + m = n → m < fuel → F39_122 call LL C1 fuel f n c i = some (.int .i64 (holesGo n P S m i))
  | 0, i, fuel + 1, h, _ => by
    rw [F39_122_eq]
    have h1 : decide ((i : Int) < n) = false := by simp; omega
    rw [h1]
    rfl
  | m + 1, i, fuel + 1, h, hf => by
    have hi : i < n := by omega
    rw [F39_122_eq]
    have h1 : decide ((i : Int) < n) = true := by simp; omega
    have h2 : decide ((0 : Int) ≤ i ∧ (i : Int) < n) = true := by simp; omega
    have hp := (hc i hi).1
    have hs := (hc i hi).2
    have e1 : Int.toNat (i : Int) = i := by simp
    rw [F39_3913_eq _ _ _ _ _ _ _ _ (fun _ => rfl : ∀ t, C1 t = 1)]
    have hin := inner39 (call := call) (f := f) hc hn fuel i hi i 0 LL (by omega) (by unfold LL; omega)
    rw [show ((0 : Nat) : Int) = 0 from rfl] at hin
    rw [hin, outer39 (call := call) (f := f) (n := n) (c := c) (P := P) (S := S) hc hn m (i + 1) fuel (by omega) (by omega)]
    simp only [h1, h2, e1, ifK_true, chkK_true, cellK_some hp, cellK_some hs, intK_int]
    simp only [holesGo, holeErr, badH]
    generalize decide (P i < 3) = q1
    generalize decide (P i > 6) = q2
    generalize decide (S i < 1) = q3
    generalize decide (S i > (n : Int)) = q4
    generalize dupH S i i 0 = q5
    cases q1 <;> cases q2 <;> cases q3 <;> cases q4 <;> cases q5 <;> rfl
theorem ok39 {f : Bool} {n : Nat} {c : List D} {P S : Nat → Int} (hc : HolesC n c P S) : OK5 39 [.slc f n c] (.int .i64 (holesErr n P S)) := by
  refine fnT none_ok Tryz.func39 (ord := O0) (N := N39) (by kernel_rfl) ((F39_eq _ _ _ _ _ _).trans ?_)
  unfold holesErr
  cases hn0 : ((n : Int) == 0) with
  | true => rw [ifK_true, ifK_true]
  | false =>
    cases hn : decide ((n : Int) > 36) with
    | true => rw [ifK_false, ifK_true, ifK_false, ifK_true]
    | false =>
      simp at hn
      have := outer39 (call := callOf fun _ _ => none) (f := f) hc (by omega) n 0 LL (by omega) (by unfold LL; omega)
      rw [show ((0 : Nat) : Int) = 0 from rfl] at this
      rw [ifK_false, ifK_false, ifK_false, ifK_false]
      exact this
end Go.Pd
end

section
namespace Go.Pd
open Go Go.Proofs Go.RowKit

def bFst : FuncId → List D → Option D := fun k ds => match k, ds with
  | 127, [.bool b, .int .i64 e] => some (.int .i64 (ifK b e 0))
  | 126, [.slc true 2 [.int .i64 x, .int .i64 y]] => some (.int .i64 (fst2 x y))
  | _, _ => none
theorem bFst_ok : CallsT bFst := by
  intro k ds r h
  unfold bFst at h
  split at h
  · cases h; exact ok127 _ _
  · cases h; exact ok126 _ _
  · cases h

/-- The indices seen, as keys. -/
def seenK (S : Nat → Int) : Nat → List D
  | 0 => []
  | i + 1 => seenK S i ++ [.int .i64 (S i)]
def trues : Nat → List D
  | 0 => []
  | i + 1 => trues i ++ [.bool true]
theorem trues_get : ∀ (i j : Nat), j < i → (trues i)[j]? = some (.bool true)
  | i + 1, j, h => by
    have hl : ∀ i, (trues i).length = i := fun i => by induction i with
      | zero => rfl
      | succ i ih => simp [trues, ih]
    unfold trues
    by_cases hj : j < i
    · rw [List.getElem?_append_left (by rw [hl]; exact hj)]
      exact trues_get i j hj
    · have : j = i := by omega
      subst this
      rw [List.getElem?_append_right (by rw [hl]; omega), hl]
      simp
theorem seenK_len (S : Nat → Int) : ∀ i, (seenK S i).length = i
  | 0 => rfl
  | i + 1 => by simp [seenK, seenK_len S i]
/-- What a look into integer keys finds. -/
theorem findD_ints (x : Int) : ∀ (l : List Int) (i : Nat), (findD (.int .i64 x) (l.map (D.int .i64)) i = some none ∧ ∀ y ∈ l, y ≠ x) ∨ ∃ j, findD (.int .i64 x) (l.map (D.int .i64)) i = some (some (i + j)) ∧ j < l.length ∧ ∃ y ∈ l, y = x
  | [], i => .inl ⟨rfl, by simp⟩
  | y :: l, i => by
    have hk : keyEq (.int .i64 x) (.int .i64 y) = some (x == y) := by simp [keyEq]
    simp only [List.map_cons, findD, hk]
    cases hxy : (x == y) with
    | true =>
      have : x = y := by simpa using hxy
      subst this
      exact .inr ⟨0, rfl, by simp, x, by simp, rfl⟩
    | false =>
      have hne : x ≠ y := by simpa using hxy
      rcases findD_ints x l (i + 1) with ⟨h1, h2⟩ | ⟨j, h1, h2, z, h3, h4⟩
      · exact .inl ⟨h1, fun z hz => by rcases List.mem_cons.1 hz with rfl | hz; exact fun e => hne e.symm; exact h2 z hz⟩
      · exact .inr ⟨j + 1, by rw [show i + (j + 1) = i + 1 + j by omega]; exact h1, by simp; exact h2, z, List.mem_cons_of_mem _ h3, h4⟩
def seenI (S : Nat → Int) : Nat → List Int
  | 0 => []
  | i + 1 => seenI S i ++ [S i]
theorem seenK_eq (S : Nat → Int) : ∀ i, seenK S i = (seenI S i).map (D.int .i64)
  | 0 => rfl
  | i + 1 => by simp [seenK, seenI, seenK_eq S i]
theorem seenI_mem (S : Nat → Int) : ∀ (i : Nat) (y : Int), y ∈ seenI S i ↔ ∃ k, k < i ∧ S k = y
  | 0, y => by simp [seenI]
  | i + 1, y => by
    simp only [seenI, List.mem_append, List.mem_singleton, seenI_mem S i y]
    constructor
    · rintro (⟨k, h1, h2⟩ | rfl)
      · exact ⟨k, by omega, h2⟩
      · exact ⟨i, by omega, rfl⟩
    · rintro ⟨k, h1, h2⟩
      by_cases hk : k < i
      · exact .inl ⟨k, hk, h2⟩
      · have : k = i := by omega
        subst this
        exact .inr h2.symm
theorem dupH_iff (S : Nat → Int) (i : Nat) : ∀ (m k : Nat), dupH S i m k = true ↔ ∃ j, k ≤ j ∧ j < k + m ∧ S j = S i
  | 0, k => by simp [dupH]; intro j h1 h2; omega
  | m + 1, k => by
    rw [show dupH S i (m + 1) k = ifK (S k == S i) true (dupH S i m (k + 1)) from rfl, ifK_eq]
    by_cases h : S k = S i
    · simp only [h, BEq.rfl, if_true, true_iff]
      exact ⟨k, by omega, by omega, h⟩
    · have : (S k == S i) = false := by simpa using h
      rw [this]
      simp only [Bool.false_eq_true, if_false, dupH_iff S i m (k + 1)]
      constructor
      · rintro ⟨j, h1, h2, h3⟩; exact ⟨j, by omega, by omega, h3⟩
      · rintro ⟨j, h1, h2, h3⟩
        have : j ≠ k := fun e => h (e ▸ h3)
        exact ⟨j, by omega, by omega, h3⟩
end Go.Pd
end

section
namespace Go.Pd
open Go Go.Proofs Go.RowKit

theorem find_seen (S : Nat → Int) (i : Nat) : (findD (.int .i64 (S i)) (seenK S i) 0 = some none ∧ dupH S i i 0 = false) ∨ ∃ j, findD (.int .i64 (S i)) (seenK S i) 0 = some (some j) ∧ j < i ∧ dupH S i i 0 = true := by
  rw [seenK_eq]
  have hl : (seenI S i).length = i := by have := seenK_len S i; rw [seenK_eq] at this; simpa using this
  rcases findD_ints (S i) (seenI S i) 0 with ⟨h1, h2⟩ | ⟨j, h1, h2, y, h3, h4⟩
  · refine .inl ⟨h1, ?_⟩
    cases hd : dupH S i i 0 with
    | false => rfl
    | true =>
      obtain ⟨j, _, hj, hs⟩ := (dupH_iff S i i 0).1 hd
      exact absurd hs (h2 _ ((seenI_mem S i _).2 ⟨j, by omega, rfl⟩))
  · refine .inr ⟨j, by simpa using h1, by omega, ?_⟩
    obtain ⟨k, hk, hs⟩ := (seenI_mem S i y).1 h3
    exact (dupH_iff S i i 0).2 ⟨k, by omega, by omega, by rw [hs, h4]⟩

theorem outer82 {f : Bool} {n : Nat} {c : List D} {P : Nat → Int} {S : Nat → Int} (hc : HolesC n c P S) (hn : n ≤ 36) : ∀ (m i fuel : Nat), i + m = n → m < fuel → F82_122 (callOf bFst) LL C1 fuel f n c n i (seenK S i) (trues i) = some (.int .i64 (holesGo n P S m i))
  | 0, i, fuel + 1, h, _ => by
    rw [F82_122_eq]
    have h1 : decide ((i : Int) < n) = false := by simp; omega
    rw [h1]
    rfl
  | m + 1, i, fuel + 1, h, hf => by
    have hi : i < n := by omega
    rw [F82_122_eq]
    have h1 : decide ((i : Int) < n) = true := by simp; omega
    have h2 : decide ((0 : Int) ≤ i ∧ (i : Int) < n) = true := by simp; omega
    have hp := (hc i hi).1
    have hs := (hc i hi).2
    have e1 : Int.toNat (i : Int) = i := by simp
    have c127 : ∀ (b : Bool) (e : Int), callOf bFst 127 [.bool b, .int .i64 e] = some (.int .i64 (ifK b e 0)) := fun _ _ => rfl
    have c126 : ∀ (x y : Int), callOf bFst 126 [.slc true 2 [.int .i64 x, .int .i64 y]] = some (.int .i64 (fst2 x y)) := fun _ _ => rfl
    have ih := outer82 (f := f) (n := n) (c := c) (P := P) (S := S) hc hn m (i + 1) fuel (by omega) (by omega)
    have hu : keyEq (.int .i64 (S i)) (.int .i64 (S i)) = some true := by simp [keyEq]
    have hw : IntKind.wrap .i64 ((i : Int) + 1) = ((i + 1 : Nat) : Int) := by rw [wrap_id (by omega)]; rfl
    have k31 : ∀ (ve vx vx1 : Int) (ks vs : List D), F82_31333 (callOf bFst) LL C1 fuel f n c n i ks vs ve vx vx1 = ifK (ve != 0) (some (.int .i64 ve)) (updK (updD (.int .i64 vx1) (.bool true) ks vs) fun ks vs => F82_122 (callOf bFst) LL C1 fuel f n c n ((i + 1 : Nat) : Int) ks vs) := fun ve vx vx1 ks vs => by
      rw [F82_31333_eq _ _ _ _ _ _ _ _ _ _ _ _ _ _ (fun _ => rfl : ∀ t, C1 t = 1), F82_15667_eq _ _ _ _ _ _ _ _ _ _ _ _ _ (fun _ => rfl : ∀ t, C1 t = 1), hw]
    simp only [h1, h2, e1, ifK_true, chkK_true, cellK_some hp, cellK_some hs, intK_int, c127, c126, optK_some, k31]
    simp only [holesGo, holeErr, badH]
    rcases find_seen S i with ⟨f1, f2⟩ | ⟨j, f1, f2, f3⟩
    · rw [f1, f2]
      have hup : updD (.int .i64 (S i)) (.bool true) (seenK S i) (trues i) = some (seenK S (i + 1), trues (i + 1)) := by
        unfold updD
        rw [f1]
        rfl
      simp only [findK, hup, updK, ih, fst2]
      generalize decide (P i < 3) = q1
      generalize decide (P i > 6) = q2
      generalize decide (S i < 1) = q3
      generalize decide (S i > (n : Int)) = q4
      cases q1 <;> cases q2 <;> cases q3 <;> cases q4 <;> rfl
    · rw [f1, f3]
      simp only [findK, cellK_some (trues_get i j f2), boolK_bool, fst2]
      generalize decide (P i < 3) = q1
      generalize decide (P i > 6) = q2
      generalize decide (S i < 1) = q3
      generalize decide (S i > (n : Int)) = q4
      cases q1 <;> cases q2 <;> cases q3 <;> cases q4 <;> rfl
theorem ok82 {f : Bool} {n : Nat} {c : List D} {P S : Nat → Int} (hc : HolesC n c P S) : OK5 82 [.slc f n c] (.int .i64 (holesErr n P S)) := by
  refine fnT bFst_ok Tryz.func82 (ord := O0) (N := N82) (by kernel_rfl) ((F82_eq _ _ _ _ _ _).trans ?_)
  have c127 : ∀ (b : Bool) (e : Int), callOf bFst 127 [.bool b, .int .i64 e] = some (.int .i64 (ifK b e 0)) := fun _ _ => rfl
  have c126 : ∀ (x y : Int), callOf bFst 126 [.slc true 2 [.int .i64 x, .int .i64 y]] = some (.int .i64 (fst2 x y)) := fun _ _ => rfl
  simp only [c127, c126, optK_some, intK_int]
  unfold holesErr
  cases hn0 : ((n : Int) == 0) with
  | true =>
    simp only [ifK_true]
    rfl
  | false =>
    cases hn : decide ((n : Int) > 36) with
    | true =>
      simp only [ifK_true, ifK_false]
      rfl
    | false =>
      simp at hn
      have := outer82 (f := f) hc (by omega) n 0 LL (by omega) (by unfold LL; omega)
      rw [show ((0 : Nat) : Int) = 0 from rfl] at this
      rw [show (fst2 (ifK false (12 : Int) 0) (ifK false (5 : Int) 0) != 0) = false from rfl, ifK_false, ifK_false, ifK_false]
      exact this
end Go.Pd
end

section
namespace Go.Pd
open Go Go.Proofs Go.RowKit

/-- n cells, by their place. -/
def tabF (v : Nat → Int) : Nat → List D
  | 0 => []
  | i + 1 => tabF v i ++ [.int .i64 (v i)]
theorem tabF_len (v : Nat → Int) : ∀ n, (tabF v n).length = n
  | 0 => rfl
  | n + 1 => by simp [tabF, tabF_len v n]
theorem tabF_get (v : Nat → Int) : ∀ (n i : Nat), i < n → (tabF v n)[i]? = some (.int .i64 (v i))
  | n + 1, i, h => by
    unfold tabF
    by_cases hi : i < n
    · rw [List.getElem?_append_left (by rw [tabF_len]; exact hi)]
      exact tabF_get v n i hi
    · have : i = n := by omega
      subst this
      rw [List.getElem?_append_right (by rw [tabF_len]; omega), tabF_len]
      simp
theorem tabF_congr {v v' : Nat → Int} : ∀ n, (∀ i, i < n → v i = v' i) → tabF v n = tabF v' n
  | 0, _ => rfl
  | n + 1, h => by unfold tabF; rw [tabF_congr n fun i hi => h i (by omega), h n (by omega)]

/-- What a hole gets: the quotient, and one more where the index is not above the rest. -/
def gvH (n : Nat) (S : Nat → Int) (h : Int) (i : Nat) : Int := h / n + ifK (decide (S i ≤ h % n)) 1 0
theorem quo_bound {n : Nat} (hn : 0 < n) (hn' : n ≤ 36) {h : Int} (hl : -99 ≤ h) (hr : h ≤ 99) : -99 ≤ h / n ∧ h / n ≤ 99 ∧ (h / n) * n = h - h % n ∧ 0 ≤ h % n ∧ h % n < n := by
  have hpos : (0 : Int) < n := by omega
  have h1 := Int.emod_nonneg h (show (n : Int) ≠ 0 by omega)
  have h2 := Int.emod_lt_of_pos h hpos
  have h3 := Int.mul_ediv_add_emod h n
  have h4 : (h / n) * n = h - h % n := by rw [Int.mul_comm]; omega
  refine ⟨?_, ?_, h4, h1, h2⟩
  · exact (Int.le_ediv_iff_mul_le hpos).2 (by have : (-99 : Int) * n ≤ -99 * 1 := by omega
                                              omega)
  · have := (Int.ediv_le_iff_le_mul hpos (x := h) (y := 99)).2 (by omega)
    exact this
theorem ok128 {n : Nat} (hn : 0 < n) (hn' : n ≤ 36) {h : Int} (hl : -99 ≤ h) (hr : h ≤ 99) : OK5 128 [.int .i64 h, .int .i64 n] (.int .i64 (h / n)) := by
  obtain ⟨q1, q2, q3, q4, q5⟩ := quo_bound hn hn' hl hr
  refine fnT none_ok Tryz.func128 (ord := O0) (N := N0) (by kernel_rfl) ((F128_eq _ _ _ _ _).trans ?_)
  have hpos : (0 : Int) < n := by omega
  have hz : (!decide ((n : Int) = 0)) = true := by simp; omega
  rw [hz, chkK_true, chkK_true]
  have hd := Int.mul_tdiv_add_tmod h n
  have hml : h.tmod n < n := Int.tmod_lt_of_pos h hpos
  have hmg : -(n : Int) < h.tmod n := by
    have := Int.tmod_lt_of_pos (-h) hpos
    rw [Int.neg_tmod] at this
    omega
  cases hc : decide (h.tmod n < 0) with
  | true =>
    simp only [decide_eq_true_eq] at hc
    have hu : h / n = h.tdiv n - 1 := by
      refine (Int.ediv_eq_iff_of_pos hpos).2 ?_
      have : (h.tdiv n - 1) * n = n * h.tdiv n - n := by rw [Int.sub_mul, Int.mul_comm]; omega
      have h2 : (h.tdiv n - 1 + 1) * n = n * h.tdiv n := by rw [Int.mul_comm]; congr 1; omega
      omega
    rw [ifK_true, wrap_id (x := h.tdiv n) (by omega), wrap_id (by omega), hu]
  | false =>
    simp only [decide_eq_false_iff_not] at hc
    have hu : h / n = h.tdiv n := by
      refine (Int.ediv_eq_iff_of_pos hpos).2 ?_
      have : h.tdiv n * n = n * h.tdiv n := Int.mul_comm _ _
      have h2 : (h.tdiv n + 1) * n = n * h.tdiv n + n := by rw [Int.add_mul, Int.mul_comm]; omega
      omega
    rw [ifK_false, wrap_id (by omega), hu]
end Go.Pd
end

section
namespace Go.Pd
open Go Go.Proofs Go.RowKit

theorem room8 {i : Nat} (h : i ≤ 100) : decide ((i + 1) * 8 ≤ limit ∧ i + 1 ≤ 9223372036854775807) = true := by
  simp only [decide_eq_true_eq]
  rw [show limit = 140737488355328 from rfl]
  omega
theorem go85 {call : FuncId → List D → Option D} {f : Bool} {n : Nat} {c : List D} {P : Nat → Int} {S : Nat → Int} (hc : HolesC n c P S) (hn : n ≤ 36) {h : Int} (hl : -99 ≤ h) (hr : h ≤ 99) : ∀ (m i fuel : Nat), (i + 1) + m = n → m < fuel → F85_250 call LL C1 fuel f n c (h / n) (h % n) (.own (i + 1) (tabF (gvH n S h) (i + 1))) n ((i + 1 : Nat) : Int) = some (.slc false n (tabF (gvH n S h) n))
  | 0, i, fuel + 1, hi, _ => by
    rw [F85_250_eqo]
    have h1 : decide (((i + 1 : Nat) : Int) < n) = false := by simp; omega
    rw [h1, ifK_false]
    have : i + 1 = n := by omega
    rw [this]
  | m + 1, i, fuel + 1, hi, hf => by
    rw [F85_250_eqo]
    obtain ⟨q1, q2, q3, q4, q5⟩ := quo_bound (by omega) hn hl hr
    have h1 : decide (((i + 1 : Nat) : Int) < n) = true := by simp; omega
    have h2 : decide ((0 : Int) ≤ ((i + 1 : Nat) : Int) ∧ ((i + 1 : Nat) : Int) < n) = true := by simp; omega
    have e1 : Int.toNat ((i + 1 : Nat) : Int) = i + 1 := by simp
    have hp := (hc (i + 1) (by omega)).1
    have hs := (hc (i + 1) (by omega)).2
    have ih := go85 (call := call) (f := f) (n := n) (c := c) (P := P) (S := S) hc hn (h := h) hl hr m (i + 1) fuel (by omega) (by omega)
    have hw : IntKind.wrap .i64 (((i + 1 : Nat) : Int) + 1) = ((i + 1 + 1 : Nat) : Int) := by rw [wrap_id (by omega)]; rfl
    have hx : tabF (gvH n S h) (i + 1 + 1) = tabF (gvH n S h) (i + 1) ++ [.int .i64 (gvH n S h (i + 1))] := rfl
    rw [h1, ifK_true, h2, chkK_true, e1, cellK_some hp, intK_int, cellK_some hs, intK_int, room8 (by omega), chkK_true, chkK_true, hw, wrap_id (by omega)]
    rw [hx, show gvH n S h (i + 1) = h / n + ifK (decide (S (i + 1) ≤ h % n)) 1 0 from rfl] at ih
    cases hd : decide (S (i + 1) ≤ h % n) with
    | true => rw [hd, ifK_true] at ih; rw [ifK_true]; exact ih
    | false => rw [hd, ifK_false, Int.add_zero] at ih; rw [ifK_false]; exact ih
theorem top85 {call : FuncId → List D → Option D} {f : Bool} {n : Nat} {c : List D} {P : Nat → Int} {S : Nat → Int} (hc : HolesC n c P S) (hn : n ≤ 36) {h : Int} (hl : -99 ≤ h) (hr : h ≤ 99) (h0 : 0 < n) : ∀ (fuel : Nat), n < fuel → F85_250 call LL C1 fuel f n c (h / n) (h % n) .nil n 0 = some (.slc false n (tabF (gvH n S h) n))
  | fuel + 1, hf => by
    rw [F85_250_eqn]
    obtain ⟨q1, q2, q3, q4, q5⟩ := quo_bound (by omega) hn hl hr
    have h1 : decide ((0 : Int) < n) = true := by simp; omega
    have h2 : decide ((0 : Int) ≤ (0 : Int) ∧ (0 : Int) < n) = true := by simp; omega
    have hp := (hc 0 h0).1
    have hs := (hc 0 h0).2
    have ih := go85 (call := call) (f := f) hc hn hl hr (n - 1) 0 fuel (by omega) (by omega)
    have hw : IntKind.wrap .i64 ((0 : Int) + 1) = ((0 + 1 : Nat) : Int) := by rw [wrap_id (by omega)]; rfl
    have hx : tabF (gvH n S h) (0 + 1) = [.int .i64 (gvH n S h 0)] := rfl
    rw [h1, ifK_true, h2, chkK_true, show Int.toNat (0 : Int) = 0 from rfl, cellK_some hp, intK_int, cellK_some hs, intK_int, hw, wrap_id (by omega)]
    rw [hx, show gvH n S h 0 = h / n + ifK (decide (S 0 ≤ h % n)) 1 0 from rfl] at ih
    cases hd : decide (S 0 ≤ h % n) with
    | true => rw [hd, ifK_true] at ih; rw [ifK_true]; exact ih
    | false => rw [hd, ifK_false, Int.add_zero] at ih; rw [ifK_false]; exact ih
theorem ok85 {f : Bool} {n : Nat} {c : List D} {P S : Nat → Int} (hc : HolesC n c P S) (h0 : 0 < n) (hn : n ≤ 36) {h : Int} (hl : -99 ≤ h) (hr : h ≤ 99) : OK5 85 [.slc f n c, .int .i64 h] (.slc false n (tabF (gvH n S h) n)) := by
  have hb : CallsT (tabC [(128, [.int .i64 h, .int .i64 n], .int .i64 (h / n))]) := tabC_ok fun e he => by
    simp only [List.mem_singleton] at he
    subst he
    exact ok128 h0 hn hl hr
  refine fnT hb Tryz.func85 (ord := O0) (N := N85) (by kernel_rfl) ((F85_eq _ _ _ _ _ _ _).trans ?_)
  obtain ⟨q1, q2, q3, q4, q5⟩ := quo_bound h0 hn hl hr
  rw [callOf_tab rfl, tabC_hit, optK_some, intK_int, wrap_id (x := h / n * n) (by omega), q3, wrap_id (by omega), show h - (h - h % n) = h % n by omega]
  exact top85 hc hn hl hr h0 LL (by unfold LL; omega)
end Go.Pd
end

section
namespace Go.Pd
open Go Go.Proofs Go.RowKit

theorem tabF_set (v : Nat → Int) (n i : Nat) (y : Int) (hi : i < n) : (tabF v n).set i (.int .i64 y) = tabF (fun j => if j = i then y else v j) n := by
  refine List.ext_getElem? fun j => ?_
  rw [List.getElem?_set]
  by_cases hj : j < n
  · rw [tabF_get _ n j hj]
    by_cases hij : i = j
    · subst hij
      rw [if_pos rfl, tabF_len, if_pos hi, tabF_get _ n i hj, if_pos rfl]
    · rw [if_neg hij, tabF_get _ n j hj, if_neg (fun h => hij h.symm)]
  · have h1 : (tabF (fun j => if j = i then y else v j) n)[j]? = none := List.getElem?_eq_none (by rw [tabF_len]; omega)
    have h2 : (tabF v n)[j]? = none := List.getElem?_eq_none (by rw [tabF_len]; omega)
    rw [h1, h2, if_neg (by omega)]
theorem repD_tab : ∀ n, repD n [.int .i64 0] = tabF (fun _ => 0) n := by
  have key : ∀ n, repD n [D.int .i64 0] = List.replicate n (.int .i64 0) := fun n => by
    induction n with
    | zero => rfl
    | succ n ih => rw [show repD (n + 1) [D.int .i64 0] = [D.int .i64 0] ++ repD n [D.int .i64 0] from rfl, ih]; rfl
  have key2 : ∀ n, tabF (fun _ => 0) n = List.replicate n (.int .i64 0) := fun n => by
    induction n with
    | zero => rfl
    | succ n ih => rw [show tabF (fun _ => 0) (n + 1) = tabF (fun _ => 0) n ++ [D.int .i64 0] from rfl, ih, List.replicate_succ']
  exact fun n => (key n).trans (key2 n).symm

def sgH (h : Int) : Int := ifK (decide (h > 0)) 1 (-1)
/-- The index that stroke k goes to. -/
def idxH (n : Nat) (h : Int) (k : Nat) : Int := ifK (decide (h < 0)) ((n : Int) + 1 - (((k % n : Nat) : Int) + 1)) (((k % n : Nat) : Int) + 1)
/-- What a hole has after k strokes. -/
def grH (n : Nat) (S : Nat → Int) (h : Int) : Nat → Nat → Int
  | 0, _ => 0
  | k + 1, i => ifK (S i == idxH n h k) (grH n S h k i + sgH h) (grH n S h k i)
theorem sgH_b (h : Int) : -1 ≤ sgH h ∧ sgH h ≤ 1 := by unfold sgH; cases decide (h > 0) <;> simp
theorem grH_b (n : Nat) (S : Nat → Int) (h : Int) : ∀ (k i : Nat), -(k : Int) ≤ grH n S h k i ∧ grH n S h k i ≤ k
  | 0, i => by simp [grH]
  | k + 1, i => by
    have h1 := grH_b n S h k i
    have h2 := sgH_b h
    unfold grH
    cases S i == idxH n h k
    · rw [ifK_false]; omega
    · rw [ifK_true]; omega
theorem inner19 {call : FuncId → List D → Option D} {f : Bool} {n : Nat} {c : List D} {P : Nat → Int} {S : Nat → Int} (hc : HolesC n c P S) (hn : n ≤ 36) {h : Int} (fu : Nat) (vk idx : Int) : ∀ (m i fuel : Nat) (v : Nat → Int), i + m = n → m < fuel → (∀ j, i ≤ j → j < n → -1000 ≤ v j ∧ v j ≤ 1000) →
    F19_14926 call LL C1 fu fuel f n c h n vk idx i (tabF v n) = F19_58 call LL C1 fu f n c h n (IntKind.wrap .i64 (vk + 1)) (tabF (fun j => ifK (decide (i ≤ j) && (S j == idx)) (v j + sgH h) (v j)) n)
  | 0, i, fuel + 1, v, hi, _, _ => by
    rw [F19_14926_eq]
    have h1 : decide ((i : Int) < n) = false := by simp; omega
    rw [h1, ifK_false]
    congr 1
    refine tabF_congr n fun j hj => ?_
    have : decide (i ≤ j) = false := by simp; omega
    rw [this, Bool.false_and, ifK_false]
  | m + 1, i, fuel + 1, v, hi, hf, hv => by
    have hin : i < n := by omega
    rw [F19_14926_eq]
    have h1 : decide ((i : Int) < n) = true := by simp; omega
    have h2 : decide ((0 : Int) ≤ i ∧ (i : Int) < n) = true := by simp; omega
    have e1 : Int.toNat (i : Int) = i := by simp
    have hs := (hc i hin).2
    have hg : (tabF v n)[i * 1]? = some (.int .i64 (v i)) := by rw [Nat.mul_one]; exact tabF_get v n i hin
    have hlen : decide (i * 1 + 1 ≤ (tabF v n).length) = true := by rw [tabF_len]; simp; omega
    have hw : IntKind.wrap .i64 ((i : Int) + 1) = ((i + 1 : Nat) : Int) := by rw [wrap_id (by omega)]; rfl
    have hvi := hv i (Nat.le_refl _) hin
    rw [h1, ifK_true, h2, chkK_true, chkK_true, e1, cellK_some hs, intK_int, cellK_some hg, cellK_some hg, intK_int, intK_int, hw]
    have wr : ∀ y, writeAt (tabF v n) (i * 1) [.int .i64 y] = tabF (fun j => if j = i then y else v j) n := fun y => by
      rw [show writeAt (tabF v n) (i * 1) [.int .i64 y] = (tabF v n).set (i * 1) (.int .i64 y) from rfl, Nat.mul_one, tabF_set v n i y hin]
    have hm : ∀ y : Int, y = v i + sgH h → S i = idx → F19_14926 call LL C1 fu fuel f n c h n vk idx ((i + 1 : Nat) : Int) (tabF (fun j => if j = i then y else v j) n) = F19_58 call LL C1 fu f n c h n (IntKind.wrap .i64 (vk + 1)) (tabF (fun j => ifK (decide (i ≤ j) && (S j == idx)) (v j + sgH h) (v j)) n) := fun y hy hsi => by
      rw [inner19 (call := call) (f := f) (n := n) (c := c) (P := P) (S := S) hc hn (h := h) fu vk idx m (i + 1) fuel _ (by omega) (by omega) (fun j hj hjn => by rw [if_neg (by omega)]; exact hv j (by omega) hjn)]
      congr 1
      refine tabF_congr n fun j hj => ?_
      by_cases hji : j = i
      · subst hji
        have a1 : decide (j + 1 ≤ j) = false := by simp
        have a2 : (decide (j ≤ j) && (S j == idx)) = true := by simp [hsi]
        rw [a1, Bool.false_and, ifK_false, a2, ifK_true, if_pos rfl, hy]
      · have a1 : decide (i + 1 ≤ j) = decide (i ≤ j) := by
          by_cases hle : i ≤ j
          · simp [hle]; omega
          · simp [hle]; omega
        rw [a1, if_neg hji]
    have hm0 : (S i == idx) = false → F19_14926 call LL C1 fu fuel f n c h n vk idx ((i + 1 : Nat) : Int) (tabF v n) = F19_58 call LL C1 fu f n c h n (IntKind.wrap .i64 (vk + 1)) (tabF (fun j => ifK (decide (i ≤ j) && (S j == idx)) (v j + sgH h) (v j)) n) := fun hsi => by
      rw [inner19 (call := call) (f := f) (n := n) (c := c) (P := P) (S := S) hc hn (h := h) fu vk idx m (i + 1) fuel _ (by omega) (by omega) (fun j hj hjn => hv j (by omega) hjn)]
      congr 1
      refine tabF_congr n fun j hj => ?_
      by_cases hji : j = i
      · subst hji
        rw [hsi, Bool.and_false, Bool.and_false]
      · have a1 : decide (i + 1 ≤ j) = decide (i ≤ j) := by
          by_cases hle : i ≤ j
          · simp [hle]; omega
          · simp [hle]; omega
        rw [a1]
    cases hsi : (S i == idx) with
    | false => rw [ifK_false]; exact hm0 hsi
    | true =>
      have hsi' : S i = idx := by simpa using hsi
      rw [ifK_true, hlen, chkK_true, chkK_true, wr, wr, wrap_id (by omega), wrap_id (by omega)]
      cases hh : decide (h > 0) with
      | true => rw [ifK_true]; exact hm _ (by unfold sgH; rw [hh]; rfl) hsi'
      | false => rw [ifK_false]; exact hm _ (by unfold sgH; rw [hh, ifK_false]; omega) hsi'
theorem outer19 {call : FuncId → List D → Option D} {f : Bool} {n : Nat} {c : List D} {P : Nat → Int} {S : Nat → Int} (hc : HolesC n c P S) (hn : n ≤ 36) {h : Int} (hl : -99 ≤ h) (hr : h ≤ 99) (h0 : 0 < n) : ∀ (m k fuel : Nat), k + m = h.natAbs → m < fuel → F19_58 call LL C1 fuel f n c h n k (tabF (grH n S h k) n) = some (.slc false n (tabF (grH n S h h.natAbs) n)) := by
  have hmax : (if IntKind.wrap .i64 (0 - h) > h then IntKind.wrap .i64 (0 - h) else h) = (h.natAbs : Int) := by
    rw [wrap_id (by omega)]
    split <;> omega
  intro m
  induction m with
  | zero =>
    intro k fuel hk hf
    cases fuel with
    | zero => omega
    | succ fuel =>
      rw [F19_58_eq, hmax]
      have h1 : decide ((k : Int) < (h.natAbs : Int)) = false := by simp; omega
      rw [h1, ifK_false]
      have : k = h.natAbs := by omega
      rw [this]
  | succ m ih =>
    intro k fuel hk hf
    cases fuel with
    | zero => omega
    | succ fuel =>
      rw [F19_58_eq, hmax]
      have h1 : decide ((k : Int) < (h.natAbs : Int)) = true := by simp; omega
      have h2 : (!decide ((n : Int) = 0)) = true := by simp; omega
      have hkm : Int.tmod (k : Int) (n : Int) = ((k % n : Nat) : Int) := by rw [Int.tmod_eq_emod_of_nonneg (by omega)]; rfl
      have hlt : k % n < n := Nat.mod_lt _ h0
      rw [h1, ifK_true, h2, chkK_true, hkm]
      rw [wrap_id (x := ((k % n : Nat) : Int) + 1) (by omega), wrap_id (x := (n : Int) + 1) (by omega), wrap_id (x := (n : Int) + 1 - (((k % n : Nat) : Int) + 1)) (by omega)]
      have hgo : ∀ idx, idx = idxH n h k → F19_3731 call LL C1 fuel f n c h n k (tabF (grH n S h k) n) idx = some (.slc false n (tabF (grH n S h h.natAbs) n)) := fun idx hidx => by
        rw [F19_3731_eq _ _ _ _ _ _ _ _ _ _ _ _ (fun _ => rfl : ∀ t, C1 t = 1)]
        have := inner19 (call := call) (f := f) (h := h) hc hn fuel (k : Int) idx n 0 LL (grH n S h k) (by omega) (by unfold LL; omega) (fun j _ _ => by have := grH_b n S h k j; omega)
        rw [show ((0 : Nat) : Int) = 0 from rfl] at this
        rw [this, show IntKind.wrap .i64 ((k : Int) + 1) = ((k + 1 : Nat) : Int) by rw [wrap_id (by omega)]; rfl]
        have ht : tabF (fun j => ifK (decide (0 ≤ j) && (S j == idx)) (grH n S h k j + sgH h) (grH n S h k j)) n = tabF (grH n S h (k + 1)) n := tabF_congr n fun j hj => by
          rw [show decide (0 ≤ j) = true by simp, Bool.true_and, hidx]
          rfl
        rw [ht]
        exact ih (k + 1) fuel (by omega) (by omega)
      cases hh : decide (h < 0) with
      | true => rw [ifK_true]; exact hgo _ (by unfold idxH; rw [hh, ifK_true])
      | false => rw [ifK_false]; exact hgo _ (by unfold idxH; rw [hh, ifK_false])
/-- How often a residue comes up. -/
def cntN (n s : Nat) : Nat → Nat
  | 0 => 0
  | k + 1 => ifK (k % n + 1 == s) (cntN n s k + 1) (cntN n s k)
theorem cntN_eq {n s : Nat} (h0 : 0 < n) (h1 : 1 ≤ s) (h2 : s ≤ n) : ∀ m, cntN n s m = m / n + ifK (decide (s ≤ m % n)) 1 0
  | 0 => by
    have : decide (s ≤ 0 % n) = false := by rw [Nat.zero_mod]; simp; omega
    rw [this, Nat.zero_div]; rfl
  | m + 1 => by
    have ih := cntN_eq h0 h1 h2 m
    unfold cntN
    have hlt : m % n < n := Nat.mod_lt _ h0
    have hdm := Nat.div_add_mod m n
    by_cases hr : m % n + 1 < n
    · have e1 : (m + 1) / n = m / n := by
        rw [show m + 1 = m % n + 1 + n * (m / n) by omega, Nat.add_mul_div_left _ _ h0, Nat.div_eq_of_lt hr]; omega
      have e2 : (m + 1) % n = m % n + 1 := by
        rw [show m + 1 = m % n + 1 + n * (m / n) by omega, Nat.add_mul_mod_self_left, Nat.mod_eq_of_lt hr]
      rw [e1, e2, ih]
      by_cases hs : m % n + 1 = s
      · have a1 : (m % n + 1 == s) = true := by simpa using hs
        have a2 : decide (s ≤ m % n) = false := by simp; omega
        have a3 : decide (s ≤ m % n + 1) = true := by simp; omega
        rw [a1, a2, a3]; simp
      · have a1 : (m % n + 1 == s) = false := by simpa using hs
        have a2 : decide (s ≤ m % n + 1) = decide (s ≤ m % n) := by
          by_cases hle : s ≤ m % n
          · simp [hle]; omega
          · simp [hle]; omega
        rw [a1, a2]; simp
    · have hr' : m % n + 1 = n := by omega
      have e1 : (m + 1) / n = m / n + 1 := by
        rw [show m + 1 = n + n * (m / n) by omega, Nat.add_mul_div_left _ _ h0, Nat.div_self h0]; omega
      have e2 : (m + 1) % n = 0 := by
        rw [show m + 1 = n + n * (m / n) by omega, Nat.add_mul_mod_self_left, Nat.mod_self]
      rw [e1, e2, ih]
      have a3 : decide (s ≤ 0) = false := by simp; omega
      rw [a3]
      by_cases hs : m % n + 1 = s
      · have a1 : (m % n + 1 == s) = true := by simpa using hs
        have a2 : decide (s ≤ m % n) = false := by simp; omega
        rw [a1, a2]; simp
      · have a1 : (m % n + 1 == s) = false := by simpa using hs
        have a2 : decide (s ≤ m % n) = true := by simp; omega
        rw [a1, a2]; simp
/-- Stroke by stroke, or by a quotient: the same. -/
theorem grH_eq {n : Nat} {S : Nat → Int} (h0 : 0 < n) {h : Int} {i : Nat} (h1 : 1 ≤ S i) (h2 : S i ≤ n) : grH n S h h.natAbs i = gvH n S h i := by
  by_cases hh : h < 0
  · obtain ⟨s, hs⟩ : ∃ s : Nat, (s : Int) = n + 1 - S i := ⟨((n : Int) + 1 - S i).toNat, by omega⟩
    have key : ∀ k, grH n S h k i = -(cntN n s k : Int) := fun k => by
      induction k with
      | zero => rfl
      | succ k ih =>
        unfold grH cntN
        have hd : decide (h < 0) = true := by simpa using hh
        have hg : sgH h = -1 := by unfold sgH; rw [show decide (h > 0) = false by simp; omega]; rfl
        have hlt : k % n < n := Nat.mod_lt _ h0
        have : (S i == idxH n h k) = (k % n + 1 == s) := by
          unfold idxH
          rw [hd, ifK_true, Bool.eq_iff_iff]
          simp only [beq_iff_eq]
          omega
        rw [this, ih, hg]
        cases (k % n + 1 == s)
        · rw [ifK_false, ifK_false]
        · rw [ifK_true, ifK_true]; omega
    rw [key, cntN_eq h0 (by omega) (by omega)]
    unfold gvH
    obtain ⟨m, hm⟩ : ∃ m : Nat, h = -(m : Int) := ⟨h.natAbs, by omega⟩
    have hab : h.natAbs = m := by omega
    rw [hab, hm]
    have hdm := Nat.div_add_mod m n
    have hlt : m % n < n := Nat.mod_lt _ h0
    have hdi : ((n * (m / n) : Nat) : Int) = (n : Int) * ((m / n : Nat) : Int) := by simp
    by_cases hr : m % n = 0
    · have e1 : -(m : Int) / n = -((m / n : Nat) : Int) := by
        refine Int.ediv_eq_of_eq_mul_left (by omega) ?_
        rw [Int.neg_mul, Int.mul_comm]; omega
      have e2 : -(m : Int) % n = 0 := by
        rw [Int.emod_eq_zero_of_dvd]
        exact ⟨-((m / n : Nat) : Int), by rw [Int.mul_neg]; omega⟩
      rw [e1, e2, hr, show decide (s ≤ 0) = false by simp; omega, show decide (S i ≤ 0) = false by simp; omega, ifK_false, ifK_false]
      omega
    · have e1 : -(m : Int) / n = -((m / n : Nat) : Int) - 1 := by
        refine (Int.ediv_eq_iff_of_pos (by omega)).2 ?_
        have t1 : (-((m / n : Nat) : Int) - 1) * n = -((n : Int) * ((m / n : Nat) : Int)) - n := by rw [Int.sub_mul, Int.neg_mul, Int.mul_comm]; omega
        have t2 : (-((m / n : Nat) : Int) - 1 + 1) * n = -((n : Int) * ((m / n : Nat) : Int)) := by rw [show -((m / n : Nat) : Int) - 1 + 1 = -((m / n : Nat) : Int) by omega, Int.neg_mul, Int.mul_comm]
        omega
      have e2 : -(m : Int) % n = n - ((m % n : Nat) : Int) := by
        have t := Int.mul_ediv_add_emod (-(m : Int)) n
        rw [e1, Int.mul_sub, Int.mul_neg] at t
        omega
      rw [e1, e2]
      by_cases hs2 : s ≤ m % n
      · rw [show decide (s ≤ m % n) = true by simpa using hs2, show decide (S i ≤ (n : Int) - ((m % n : Nat) : Int)) = false by simp only [decide_eq_false_iff_not]; omega, ifK_true, ifK_false]
        omega
      · rw [show decide (s ≤ m % n) = false by simpa using hs2, show decide (S i ≤ (n : Int) - ((m % n : Nat) : Int)) = true by simp only [decide_eq_true_eq]; omega, ifK_true, ifK_false]
        omega
  · obtain ⟨s, hs⟩ : ∃ s : Nat, (s : Int) = S i := ⟨(S i).toNat, by omega⟩
    obtain ⟨m, hm⟩ : ∃ m : Nat, h = (m : Int) := ⟨h.natAbs, by omega⟩
    have hab : h.natAbs = m := by omega
    have key : ∀ k, k ≤ m → grH n S h k i = (cntN n s k : Int) := fun k => by
      induction k with
      | zero => intro _; rfl
      | succ k ih =>
        intro hk
        unfold grH cntN
        have hd : decide (h < 0) = false := by simpa using hh
        have hg : sgH h = 1 := by unfold sgH; rw [show decide (h > 0) = true by simp; omega]; rfl
        have : (S i == idxH n h k) = (k % n + 1 == s) := by
          unfold idxH
          rw [hd, ifK_false, Bool.eq_iff_iff]
          simp only [beq_iff_eq]
          omega
        rw [this, ih (by omega), hg]
        cases (k % n + 1 == s)
        · rw [ifK_false, ifK_false]
        · rw [ifK_true, ifK_true]; omega
    rw [hab, key m (Nat.le_refl _), cntN_eq h0 (by omega) (by omega)]
    unfold gvH
    rw [hm]
    have e1 : (m : Int) / n = ((m / n : Nat) : Int) := by simp
    have e2 : (m : Int) % n = ((m % n : Nat) : Int) := by simp
    rw [e1, e2]
    by_cases hs2 : s ≤ m % n
    · rw [show decide (s ≤ m % n) = true by simpa using hs2, show decide (S i ≤ ((m % n : Nat) : Int)) = true by simp only [decide_eq_true_eq]; omega, ifK_true, ifK_true]
      omega
    · rw [show decide (s ≤ m % n) = false by simpa using hs2, show decide (S i ≤ ((m % n : Nat) : Int)) = false by simp only [decide_eq_false_iff_not]; omega, ifK_false, ifK_false]
      omega
theorem ok19 {f : Bool} {n : Nat} {c : List D} {P S : Nat → Int} (hc : HolesC n c P S) (h0 : 0 < n) (hn : n ≤ 36) (hS : ∀ i, i < n → 1 ≤ S i ∧ S i ≤ n) {h : Int} (hl : -99 ≤ h) (hr : h ≤ 99) : OK5 19 [.slc f n c, .int .i64 h] (.slc false n (tabF (gvH n S h) n)) := by
  refine fnT none_ok Tryz.func19 (ord := O0) (N := N19) (by kernel_rfl) ((F19_eq _ _ _ _ _ _ _).trans ?_)
  have h1 : decide ((0 : Int) ≤ n ∧ (n : Int) ≤ n ∧ (n : Int) * (8 : Int) ≤ 140737488355328 ∧ (n : Int) ≤ 9223372036854775807) = true := by simp only [decide_eq_true_eq]; omega
  rw [h1, chkK_true, show Int.toNat (n : Int) = n by simp, repD_tab]
  rw [tabF_congr n fun i hi => (grH_eq h0 (hS i hi).1 (hS i hi).2).symm]
  exact outer19 (call := callOf fun _ _ => none) (f := f) hc hn hl hr h0 h.natAbs 0 LL (by omega) (by unfold LL; omega)
end Go.Pd
end

section
namespace Go.Pd
open Go Go.Proofs Go.RowKit

theorem tup2 {γ : Type} (a b : D) (c : List D → Option γ) : tupK (.tup [a, b]) 2 c = c [a, b] := rfl
theorem go20 {call : FuncId → List D → Option D} {f g : Bool} {n : Nat} (v : Nat → Int) (hn : n ≤ 1000) : ∀ (m i fuel : Nat), i + m = n → m < fuel → F20_58 call LL C1 fuel f n (tabF v n) g n (tabF v n) i = some (.bool true)
  | 0, i, fuel + 1, hi, _ => by
    rw [F20_58_eq]
    have h1 : decide ((i : Int) < n) = false := by simp; omega
    rw [h1, ifK_false]
  | m + 1, i, fuel + 1, hi, hf => by
    rw [F20_58_eq]
    have h1 : decide ((i : Int) < n) = true := by simp; omega
    have h2 : decide ((0 : Int) ≤ i ∧ (i : Int) < n) = true := by simp; omega
    have e1 : Int.toNat (i : Int) = i := by simp
    have hg : (tabF v n)[i * 1]? = some (.int .i64 (v i)) := by rw [Nat.mul_one]; exact tabF_get v n i (by omega)
    have hw : IntKind.wrap .i64 ((i : Int) + 1) = ((i + 1 : Nat) : Int) := by rw [wrap_id (by omega)]; rfl
    rw [h1, ifK_true, h2, chkK_true, e1, cellK_some hg, intK_int, chkK_true, cellK_some hg, intK_int, show (v i != v i) = false by simp, ifK_false, hw]
    exact go20 v hn m (i + 1) fuel (by omega) (by omega)
theorem ok20 {f g : Bool} {n : Nat} (v : Nat → Int) (hn : n ≤ 1000) : OK5 20 [.slc f n (tabF v n), .slc g n (tabF v n)] (.bool true) := by
  refine fnT none_ok Tryz.func20 (ord := O0) (N := N20) (by kernel_rfl) ((F20_eq _ _ _ _ _ _ _ _ _).trans ?_)
  rw [show ((n : Int) != n) = false by simp, ifK_false]
  exact go20 v hn n 0 LL (by omega) (by unfold LL; omega)
theorem ok20n : OK5 20 [.slc true 0 [], .nils] (.bool true) := CallOK.canon (ok20 (f := true) (g := true) (n := 0) (fun _ => 0) (by omega))
theorem holesGo_zero {n : Nat} {P S : Nat → Int} : ∀ (m i : Nat), holesGo n P S m i = 0 → ∀ j, i ≤ j → j < i + m → badH n P S j = false
  | 0, i, _, j, h1, h2 => by omega
  | m + 1, i, h, j, h1, h2 => by
    unfold holesGo at h
    cases he : holeErr n P S i != 0 with
    | true =>
      rw [he, ifK_true] at h
      rw [h] at he
      cases he
    | false =>
      rw [he, ifK_false] at h
      by_cases hj : j = i
      · subst hj
        unfold holeErr at he
        cases hb : badH n P S j with
        | false => rfl
        | true => rw [hb, ifK_true] at he; cases he
      · exact holesGo_zero m (i + 1) h j (by omega) (by omega)
theorem holesErr_zero {n : Nat} {P S : Nat → Int} (h : holesErr n P S = 0) : 0 < n ∧ n ≤ 36 ∧ ∀ i, i < n → 1 ≤ S i ∧ S i ≤ n := by
  unfold holesErr at h
  cases h1 : ((n : Int) == 0) with
  | true => rw [h1, ifK_true] at h; cases h
  | false =>
    rw [h1, ifK_false] at h
    cases h2 : decide ((n : Int) > 36) with
    | true => rw [h2, ifK_true] at h; cases h
    | false =>
      rw [h2, ifK_false] at h
      simp at h1 h2
      refine ⟨by omega, by omega, fun i hi => ?_⟩
      have := holesGo_zero n 0 h i (by omega) (by omega)
      unfold badH at this
      simp at this
      omega
end Go.Pd
end
