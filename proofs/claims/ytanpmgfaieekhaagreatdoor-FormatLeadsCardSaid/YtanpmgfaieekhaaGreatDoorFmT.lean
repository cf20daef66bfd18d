/-
  Chapter 5: what functions make of open arguments (printed by the desk's tool, each proved by the kernel): lists of numbers.
  Chapter 5: lists of numbers: their checks, sums, count-back.
  Chapter 5: sums, count-back and ranks of lists of numbers.
  Chapter 5: ranks of lists of numbers.
  Chapter 5: lists that are ranked: their check, short ones.
  Chapter 5, FormatTies: the law.
-/
import Derived.Test.YtanpmgfaieekhaaGreatDoorFmA
import Derived.KernelRfl
import Derived.Test.YtanpmgfaieekhaaGreatDoorFmE
section
namespace Go.Pd
open Go Go.Proofs
set_option maxRecDepth 100000
def N46 : NTab := fun p => match p with
  | 7 => some { keep := [0], kl := [], ren := [] }
  | 58 => some { keep := [18, 19, 20], kl := [], ren := [] }
  | _ => none
noncomputable def F46_58 (call : FuncId → List D → Option D) (L : Nat) (C : Nat → Nat) (n_1 : Nat) (vl_f : Bool) (vl_n : Nat) (vl_c : List D) (t19 : Int) (t20 : Int) : Option D :=
  loopAt (TEf call L C) O0 N46 FinM.canon Tryz.f46 [true, true, false, true, false] []  n_1 (St.mk [J, J, J, J, J, J, J, J, J, J, J, J, J, J, J, J, J, J, D.slc vl_f vl_n vl_c, D.int IntKind.i64 t19, D.int IntKind.i64 t20, J, J, J, J, J, J, J] [Z, Z, Z, Z, Z, Z, Z, Z, Z, Z, Z, Z, Z, Z, Z, Z, Z, Z, Z, Z, Z, Z, Z, Z, Z, Z, Z, Z])
noncomputable def F46_7 (call : FuncId → List D → Option D) (L : Nat) (C : Nat → Nat) (vl_f : Bool) (vl_n : Nat) (vl_c : List D) : Option D :=
  cutAt (TEf call L C) O0 N46 FinM.canon Tryz.f46 [true, true] []  (C 7) (St.mk [D.slc vl_f vl_n vl_c, J, J, J, J, J, J, J, J, J, J, J, J, J, J, J, J, J, J, J, J, J, J, J, J, J, J, J] [Z, Z, Z, Z, Z, Z, Z, Z, Z, Z, Z, Z, Z, Z, Z, Z, Z, Z, Z, Z, Z, Z, Z, Z, Z, Z, Z, Z])
theorem F46_58_eq (call : FuncId → List D → Option D) (L : Nat) (C : Nat → Nat) (n_1 : Nat) (vl_f : Bool) (vl_n : Nat) (vl_c : List D) (t19 : Int) (t20 : Int) : F46_58 call L C  (n_1 + 1) vl_f vl_n vl_c (t19) (t20) =
  (ifK (decide (t20 < t19))
    (chkK (decide (0 ≤ t20 ∧ t20 < (vl_n : Int)))
      (cellK (vl_c) (Int.toNat t20 * 1) fun d =>
      (slcK (d) fun _f n_2 _c =>
      (ifK (decide ((n_2 : Int) > 39))
        (some (D.bool false))
        (F46_58 call L C n_1 vl_f vl_n vl_c (t19) (IntKind.wrap IntKind.i64 (t20 + 1)))))))
    (some (D.bool true))) := by kernel_rfl
theorem F46_7_eq (call : FuncId → List D → Option D) (L : Nat) (C : Nat → Nat) (vl_f : Bool) (vl_n : Nat) (vl_c : List D) (hC : ∀ t, C t = 1) : F46_7 call L C  vl_f vl_n vl_c  =
  (F46_58 call L C L vl_f vl_n vl_c ((vl_n : Int)) (0)) := by
  unfold F46_7
  rw [hC]
  kernel_rfl
theorem F46_eq (call : FuncId → List D → Option D) (L : Nat) (C : Nat → Nat) (vl_f : Bool) (vl_n : Nat) (vl_c : List D) : evFnT (TEf call L C) O0 N46 FinM.canon Tryz.f46 [D.slc vl_f vl_n vl_c] =
  (ifK (decide ((vl_n : Int) > 8))
    (ifK (decide ((vl_n : Int) ≤ 200))
      (some (D.bool false))
      (ifK (decide ((vl_n : Int) > 203))
        (some (D.bool false))
        (F46_7 call L C vl_f vl_n vl_c)))
    (ifK (decide ((vl_n : Int) > 203))
      (some (D.bool false))
      (F46_7 call L C vl_f vl_n vl_c))) := by kernel_rfl

def N49 : NTab := fun p => match p with
  | 58 => some { keep := [0, 1, 5, 6], kl := [], ren := [] }
  | _ => none
noncomputable def F49_58 (call : FuncId → List D → Option D) (L : Nat) (C : Nat → Nat) (n : Nat) (va_f : Bool) (va_n : Nat) (va_c : List D) (vb_f : Bool) (vb_n : Nat) (vb_c : List D) (vcounts_c : List D) (vi : Int) : Option D :=
  loopAt (TEf call L C) O0 N49 FinM.canon Tryz.f49 [true, true, false, true, false] []  n (St.mk [D.slc va_f va_n va_c, D.slc vb_f vb_n vb_c, J, J, J, D.slc true 5 vcounts_c, D.int IntKind.i64 vi, J, J, J, J, J, J, J, J, J, J, J, J, J, J, J, J, J, J, J, J, J, J, J, J, J, J, J, J, J, J, J, J, J, J, J, J] [Z, Z, Z, Z, Z, Z, Z, Z, Z, Z, Z, Z, Z, Z, Z, Z, Z, Z, Z, Z, Z, Z, Z, Z, Z, Z, Z, Z, Z, Z, Z, Z, Z, Z, Z, Z, Z, Z, Z, Z, Z, Z, Z])
theorem F49_58_eq (call : FuncId → List D → Option D) (L : Nat) (C : Nat → Nat) (n : Nat) (va_f : Bool) (va_n : Nat) (va_c : List D) (vb_f : Bool) (vb_n : Nat) (vb_c : List D) (vcounts_c : List D) (vi : Int) : F49_58 call L C  (n + 1) va_f va_n va_c vb_f vb_n vb_c (vcounts_c) (vi) =
  (ifK (decide (vi < (5 : Int)))
    (chkK (decide (0 ≤ vi ∧ vi < (5 : Int)))
      (cellK (vcounts_c) (Int.toNat vi * 1) fun d =>
      (intK IntKind.i64 (d) fun x =>
      (ifK (decide (x > (va_n : Int)))
        (F49_58 call L C n va_f va_n va_c vb_f vb_n vb_c (vcounts_c) (IntKind.wrap IntKind.i64 (vi + 1)))
        (chkK (decide (0 ≤ vi ∧ vi < (5 : Int)))
          (cellK (vcounts_c) (Int.toNat vi * 1) fun d_1 =>
          (intK IntKind.i64 (d_1) fun x_1 =>
          (optK (call 100 [D.slc va_f va_n va_c, D.int IntKind.i64 x_1]) fun r =>
            (intK IntKind.i64 (r) fun x_2 =>
            (chkK (decide (0 ≤ vi ∧ vi < (5 : Int)))
              (cellK (vcounts_c) (Int.toNat vi * 1) fun d_2 =>
              (intK IntKind.i64 (d_2) fun x_3 =>
              (optK (call 100 [D.slc vb_f vb_n vb_c, D.int IntKind.i64 x_3]) fun r_1 =>
                (intK IntKind.i64 (r_1) fun x_4 =>
                (ifK (decide (x_2 < x_4))
                  (some (D.int IntKind.i64 (-1)))
                  (ifK (decide (x_2 > x_4))
                    (some (D.int IntKind.i64 1))
                    (F49_58 call L C n va_f va_n va_c vb_f vb_n vb_c (vcounts_c) (IntKind.wrap IntKind.i64 (vi + 1)))))))))))))))))))
    (some (D.int IntKind.i64 0))) := by kernel_rfl
theorem F49_eq (call : FuncId → List D → Option D) (L : Nat) (C : Nat → Nat) (va_f : Bool) (va_n : Nat) (va_c : List D) (vb_f : Bool) (vb_n : Nat) (vb_c : List D) : evFnT (TEf call L C) O0 N49 FinM.canon Tryz.f49 [D.slc va_f va_n va_c, D.slc vb_f vb_n vb_c] =
  (F49_58 call L C L va_f va_n va_c vb_f vb_n vb_c ([D.int IntKind.i64 (va_n : Int), D.int IntKind.i64 9, D.int IntKind.i64 6, D.int IntKind.i64 3, D.int IntKind.i64 1]) (0)) := by kernel_rfl

def N51 : NTab := fun p => match p with
  | 58 => some { keep := [0, 3, 4], kl := [], ren := [(34, 34)] }
  | 14922 => some { keep := [0, 3, 4, 5, 6], kl := [], ren := [(34, 34)] }
  | _ => none
noncomputable def F51_14922 (call : FuncId → List D → Option D) (L : Nat) (C : Nat → Nat) (n : Nat) (n_1 : Nat) (vl_f : Bool) (vl_n : Nat) (vl_c : List D) (vi : Int) (vr_1 : Ow) (vn : Int) (vk : Int) : Option D :=
  loopAt (TEf call L C) O0 N51 FinM.canon Tryz.f51 [true, true, false, true, false, false, true, false, false, true, false, true, false] [n]  n_1 (St.mk [D.slc vl_f vl_n vl_c, J, J, ownD 34 vr_1, D.int IntKind.i64 vi, D.int IntKind.i64 vn, D.int IntKind.i64 vk, J, J, J, J, J, J, J, J, J, J, J, J, J, J, J, J, J, J, J, J, J, J, J, J, J, J, J, J, J] [Z, Z, Z, Z, Z, Z, Z, Z, Z, Z, Z, Z, Z, Z, Z, Z, Z, Z, Z, Z, Z, Z, Z, Z, Z, Z, Z, Z, Z, Z, Z, Z, Z, Z, ownO 3 1 vr_1, Z])
noncomputable def F51_58 (call : FuncId → List D → Option D) (L : Nat) (C : Nat → Nat) (n : Nat) (vl_f : Bool) (vl_n : Nat) (vl_c : List D) (vr : Ow) (vi : Int) : Option D :=
  loopAt (TEf call L C) O0 N51 FinM.canon Tryz.f51 [true, true, false, true, false] []  n (St.mk [D.slc vl_f vl_n vl_c, J, J, ownD 34 vr, D.int IntKind.i64 vi, J, J, J, J, J, J, J, J, J, J, J, J, J, J, J, J, J, J, J, J, J, J, J, J, J, J, J, J, J, J, J] [Z, Z, Z, Z, Z, Z, Z, Z, Z, Z, Z, Z, Z, Z, Z, Z, Z, Z, Z, Z, Z, Z, Z, Z, Z, Z, Z, Z, Z, Z, Z, Z, Z, Z, ownO 3 1 vr, Z])
theorem F51_14922_eqn (call : FuncId → List D → Option D) (L : Nat) (C : Nat → Nat) (n : Nat) (n_1 : Nat) (vl_f : Bool) (vl_n : Nat) (vl_c : List D) (vi : Int) (vn : Int) (vk : Int) : F51_14922 call L C n (n_1 + 1) vl_f vl_n vl_c vi (Ow.nil) (vn) (vk) =
  (ifK (decide (vk < (vl_n : Int)))
    (chkK (decide (0 ≤ vk ∧ vk < (vl_n : Int)))
      (cellK (vl_c) (Int.toNat vk * 1) fun d =>
      (slcK (d) fun f n_2 c =>
      (chkK (decide (0 ≤ vi ∧ vi < (vl_n : Int)))
        (cellK (vl_c) (Int.toNat vi * 1) fun d_1 =>
        (slcK (d_1) fun f_1 n_3 c_1 =>
        (optK (call 49 [D.slc f n_2 c, D.slc f_1 n_3 c_1]) fun r =>
          (intK IntKind.i64 (r) fun x =>
          (ifK (decide (x < 0))
            (F51_14922 call L C n n_1 vl_f vl_n vl_c vi (Ow.nil) (IntKind.wrap IntKind.i64 (vn + 1)) (IntKind.wrap IntKind.i64 (vk + 1)))
            (F51_14922 call L C n n_1 vl_f vl_n vl_c vi (Ow.nil) (vn) (IntKind.wrap IntKind.i64 (vk + 1))))))))))))
    (F51_58 call L C n vl_f vl_n vl_c (Ow.own 1 [D.int IntKind.i64 vn]) (IntKind.wrap IntKind.i64 (vi + 1)))) := by kernel_rfl
theorem F51_14922_eqo (call : FuncId → List D → Option D) (L : Nat) (C : Nat → Nat) (n : Nat) (n_1 : Nat) (vl_f : Bool) (vl_n : Nat) (vl_c : List D) (vi : Int) (vr_1_n : Nat) (vr_1_c : List D) (vn : Int) (vk : Int) : F51_14922 call L C n (n_1 + 1) vl_f vl_n vl_c vi (Ow.own vr_1_n vr_1_c) (vn) (vk) =
  (ifK (decide (vk < (vl_n : Int)))
    (chkK (decide (0 ≤ vk ∧ vk < (vl_n : Int)))
      (cellK (vl_c) (Int.toNat vk * 1) fun d_2 =>
      (slcK (d_2) fun f_2 n_4 c_2 =>
      (chkK (decide (0 ≤ vi ∧ vi < (vl_n : Int)))
        (cellK (vl_c) (Int.toNat vi * 1) fun d_3 =>
        (slcK (d_3) fun f_3 n_5 c_3 =>
        (optK (call 49 [D.slc f_2 n_4 c_2, D.slc f_3 n_5 c_3]) fun r_1 =>
          (intK IntKind.i64 (r_1) fun x_1 =>
          (ifK (decide (x_1 < 0))
            (F51_14922 call L C n n_1 vl_f vl_n vl_c vi (Ow.own vr_1_n vr_1_c) (IntKind.wrap IntKind.i64 (vn + 1)) (IntKind.wrap IntKind.i64 (vk + 1)))
            (F51_14922 call L C n n_1 vl_f vl_n vl_c vi (Ow.own vr_1_n vr_1_c) (vn) (IntKind.wrap IntKind.i64 (vk + 1))))))))))))
    (chkK (decide ((vr_1_n + 1) * 8 ≤ limit ∧ vr_1_n + 1 ≤ 9223372036854775807))
      (F51_58 call L C n vl_f vl_n vl_c (Ow.own (vr_1_n + 1) (vr_1_c ++ [D.int IntKind.i64 vn])) (IntKind.wrap IntKind.i64 (vi + 1))))) := by kernel_rfl
theorem F51_58_eqn (call : FuncId → List D → Option D) (L : Nat) (C : Nat → Nat) (n : Nat) (vl_f : Bool) (vl_n : Nat) (vl_c : List D) (vi : Int) : F51_58 call L C  (n + 1) vl_f vl_n vl_c (Ow.nil) (vi) =
  (ifK (decide (vi < (vl_n : Int)))
    (F51_14922 call L C n L vl_f vl_n vl_c vi (Ow.nil) (1) (0))
    (some (D.slc true 0 []))) := by kernel_rfl
theorem F51_58_eqo (call : FuncId → List D → Option D) (L : Nat) (C : Nat → Nat) (n : Nat) (vl_f : Bool) (vl_n : Nat) (vl_c : List D) (vr_n : Nat) (vr_c : List D) (vi : Int) : F51_58 call L C  (n + 1) vl_f vl_n vl_c (Ow.own vr_n vr_c) (vi) =
  (ifK (decide (vi < (vl_n : Int)))
    (F51_14922 call L C n L vl_f vl_n vl_c vi (Ow.own vr_n vr_c) (1) (0))
    (some (D.slc false vr_n vr_c))) := by kernel_rfl
theorem F51_eq (call : FuncId → List D → Option D) (L : Nat) (C : Nat → Nat) (vl_f : Bool) (vl_n : Nat) (vl_c : List D) : evFnT (TEf call L C) O0 N51 FinM.canon Tryz.f51 [D.slc vl_f vl_n vl_c] =
  (F51_58 call L C L vl_f vl_n vl_c (Ow.nil) (0)) := by kernel_rfl

theorem F97_eq (call : FuncId → List D → Option D) (L : Nat) (C : Nat → Nat) (vn : Int) : evFnT (TEf call L C) O0 N0 FinM.canon Tryz.f97 [D.int IntKind.i64 vn] =
  (some (D.int IntKind.i64 vn)) := by kernel_rfl

def N100 : NTab := fun p => match p with
  | 58 => some { keep := [0, 5, 6], kl := [], ren := [] }
  | _ => none
noncomputable def F100_58 (call : FuncId → List D → Option D) (L : Nat) (C : Nat → Nat) (n : Nat) (vl_f : Bool) (vl_n : Nat) (vl_c : List D) (vn : Int) (vi : Int) : Option D :=
  loopAt (TEf call L C) O0 N100 FinM.canon Tryz.f100 [true, true, false, true, false] []  n (St.mk [D.slc vl_f vl_n vl_c, J, J, J, J, D.int IntKind.i64 vn, D.int IntKind.i64 vi, J, J, J, J, J, J, J, J, J, J, J, J, J, J, J, J, J] [Z, Z, Z, Z, Z, Z, Z, Z, Z, Z, Z, Z, Z, Z, Z, Z, Z, Z, Z, Z, Z, Z, Z, Z])
theorem F100_58_eq (call : FuncId → List D → Option D) (L : Nat) (C : Nat → Nat) (n : Nat) (vl_f : Bool) (vl_n : Nat) (vl_c : List D) (vn : Int) (vi : Int) : F100_58 call L C  (n + 1) vl_f vl_n vl_c (vn) (vi) =
  (ifK (decide (vi < (vl_n : Int)))
    (chkK (decide (0 ≤ vi ∧ vi < (vl_n : Int)))
      (cellK (vl_c) (Int.toNat vi * 1) fun d =>
      (intK IntKind.i64 (d) fun x =>
      (F100_58 call L C n vl_f vl_n vl_c (IntKind.wrap IntKind.i64 (vn + x)) (IntKind.wrap IntKind.i64 (vi + 1))))))
    (some (D.int IntKind.i64 vn))) := by kernel_rfl
theorem F100_eq (call : FuncId → List D → Option D) (L : Nat) (C : Nat → Nat) (vl_f : Bool) (vl_n : Nat) (vl_c : List D) (vcount : Int) : evFnT (TEf call L C) O0 N100 FinM.canon Tryz.f100 [D.slc vl_f vl_n vl_c, D.int IntKind.i64 vcount] =
  (F100_58 call L C L vl_f vl_n vl_c (0) (IntKind.wrap IntKind.i64 ((vl_n : Int) - vcount))) := by kernel_rfl

def N103 : NTab := fun p => match p with
  | 26 => some { keep := [0, 1, 11, 12, 13], kl := [], ren := [] }
  | _ => none
noncomputable def F103_26 (call : FuncId → List D → Option D) (L : Nat) (C : Nat → Nat) (n : Nat) (va_f : Bool) (va_n : Nat) (va_c : List D) (vb_f : Bool) (vb_n : Nat) (vb_c : List D) (t11_c : List D) (t13 : Int) : Option D :=
  loopAt (TEf call L C) O0 N103 FinM.canon Tryz.f103 [true, false, true, false] []  n (St.mk [D.slc va_f va_n va_c, D.slc vb_f vb_n vb_c, J, J, J, J, J, J, J, J, J, D.slc true 5 t11_c, D.int IntKind.i64 5, D.int IntKind.i64 t13, J, J, J, J, J, J, J, J, J, J, J, J, J, J, J, J, J, J, J, J, J, J] [Z, Z, Z, Z, Z, Z, Z, Z, Z, Z, Z, Z, Z, Z, Z, Z, Z, Z, Z, Z, Z, Z, Z, Z, Z, Z, Z, Z, Z, Z, Z, Z, Z, Z, Z, Z])
theorem F103_26_eq (call : FuncId → List D → Option D) (L : Nat) (C : Nat → Nat) (n : Nat) (va_f : Bool) (va_n : Nat) (va_c : List D) (vb_f : Bool) (vb_n : Nat) (vb_c : List D) (t11_c : List D) (t13 : Int) : F103_26 call L C  (n + 1) va_f va_n va_c vb_f vb_n vb_c (t11_c) (t13) =
  (ifK (decide (t13 < 5))
    (chkK (decide (0 ≤ t13 ∧ t13 < (5 : Int)))
      (cellK (t11_c) (Int.toNat t13 * 1) fun d =>
      (intK IntKind.i64 (d) fun x =>
      (ifK (decide (IntKind.wrap IntKind.i64 ((va_n : Int) - x) ≥ 0))
        (chkK (decide (0 ≤ IntKind.wrap IntKind.i64 ((va_n : Int) - x) ∧ IntKind.wrap IntKind.i64 ((va_n : Int) - x) ≤ (va_n : Int) ∧ (va_n : Int) ≤ (va_n : Int)))
          (optK (call 94 [D.slc (va_f && decide ((va_n : Int) = (va_n : Int))) (Int.toNat ((va_n : Int) - IntKind.wrap IntKind.i64 ((va_n : Int) - x))) (List.take (Int.toNat ((va_n : Int) - IntKind.wrap IntKind.i64 ((va_n : Int) - x)) * 1) (List.drop (Int.toNat (IntKind.wrap IntKind.i64 ((va_n : Int) - x)) * 1) va_c)), D.fn (Fn.func 97) [] []]) fun r =>
            (intK IntKind.i64 (r) fun x_1 =>
            (chkK (decide (0 ≤ IntKind.wrap IntKind.i64 ((va_n : Int) - x) ∧ IntKind.wrap IntKind.i64 ((va_n : Int) - x) ≤ (vb_n : Int) ∧ (vb_n : Int) ≤ (vb_n : Int)))
              (optK (call 94 [D.slc (vb_f && decide ((vb_n : Int) = (vb_n : Int))) (Int.toNat ((vb_n : Int) - IntKind.wrap IntKind.i64 ((va_n : Int) - x))) (List.take (Int.toNat ((vb_n : Int) - IntKind.wrap IntKind.i64 ((va_n : Int) - x)) * 1) (List.drop (Int.toNat (IntKind.wrap IntKind.i64 ((va_n : Int) - x)) * 1) vb_c)), D.fn (Fn.func 97) [] []]) fun r_1 =>
                (intK IntKind.i64 (r_1) fun x_2 =>
                (optK (call 113 [D.int IntKind.i64 x_1, D.int IntKind.i64 x_2]) fun r_2 =>
                  (intK IntKind.i64 (r_2) fun x_3 =>
                  (ifK (x_3 != 0)
                    (some (D.int IntKind.i64 x_3))
                    (F103_26 call L C n va_f va_n va_c vb_f vb_n vb_c (t11_c) (IntKind.wrap IntKind.i64 (t13 + 1))))))))))))
        (F103_26 call L C n va_f va_n va_c vb_f vb_n vb_c (t11_c) (IntKind.wrap IntKind.i64 (t13 + 1)))))))
    (some (D.int IntKind.i64 0))) := by kernel_rfl
theorem F103_eq (call : FuncId → List D → Option D) (L : Nat) (C : Nat → Nat) (va_f : Bool) (va_n : Nat) (va_c : List D) (vb_f : Bool) (vb_n : Nat) (vb_c : List D) : evFnT (TEf call L C) O0 N103 FinM.canon Tryz.f103 [D.slc va_f va_n va_c, D.slc vb_f vb_n vb_c] =
  (F103_26 call L C L va_f va_n va_c vb_f vb_n vb_c ([D.int IntKind.i64 (va_n : Int), D.int IntKind.i64 9, D.int IntKind.i64 6, D.int IntKind.i64 3, D.int IntKind.i64 1]) (0)) := by kernel_rfl

def N104 : NTab := fun p => match p with
  | 58 => some { keep := [0, 3, 9, 10, 11], kl := [], ren := [(31, 31)] }
  | 59802 => some { keep := [0, 3, 5, 6, 9, 10, 11, 15, 16, 17], kl := [], ren := [(31, 31)] }
  | _ => none
noncomputable def F104_59802 (call : FuncId → List D → Option D) (L : Nat) (C : Nat → Nat) (n : Nat) (n_2 : Nat) (vl_f : Bool) (vl_n : Nat) (vl_c : List D) (t10 : Int) (t11 : Int) (vout_1 : Ow) (va_f : Bool) (va_n : Nat) (va_c : List D) (vn : Int) (t16 : Int) (t17 : Int) : Option D :=
  loopAt (TEf call L C) O0 N104 FinM.canon Tryz.f104 [true, true, false, true, false, false, true, true, false, false, true, true, false, true, false] [n]  n_2 (St.mk [D.slc vl_f vl_n vl_c, J, J, ownD 31 vout_1, J, D.slc va_f va_n va_c, D.int IntKind.i64 vn, J, J, D.slc vl_f vl_n vl_c, D.int IntKind.i64 t10, D.int IntKind.i64 t11, J, J, J, D.slc vl_f vl_n vl_c, D.int IntKind.i64 t16, D.int IntKind.i64 t17, J, J, J, J, J, J, J, J, J, J, J, J, J, J, J, J] [Z, Z, Z, Z, Z, Z, Z, Z, Z, Z, Z, Z, Z, Z, Z, Z, Z, Z, Z, Z, Z, Z, Z, Z, Z, Z, Z, Z, Z, Z, Z, ownO 3 1 vout_1, Z, Z])
noncomputable def F104_58 (call : FuncId → List D → Option D) (L : Nat) (C : Nat → Nat) (n : Nat) (vl_f : Bool) (vl_n : Nat) (vl_c : List D) (vout : Ow) (t10 : Int) (t11 : Int) : Option D :=
  loopAt (TEf call L C) O0 N104 FinM.canon Tryz.f104 [true, true, false, true, false] []  n (St.mk [D.slc vl_f vl_n vl_c, J, J, ownD 31 vout, J, J, J, J, J, D.slc vl_f vl_n vl_c, D.int IntKind.i64 t10, D.int IntKind.i64 t11, J, J, J, J, J, J, J, J, J, J, J, J, J, J, J, J, J, J, J, J, J, J] [Z, Z, Z, Z, Z, Z, Z, Z, Z, Z, Z, Z, Z, Z, Z, Z, Z, Z, Z, Z, Z, Z, Z, Z, Z, Z, Z, Z, Z, Z, Z, ownO 3 1 vout, Z, Z])
theorem F104_59802_eqn (call : FuncId → List D → Option D) (L : Nat) (C : Nat → Nat) (n : Nat) (n_2 : Nat) (vl_f : Bool) (vl_n : Nat) (vl_c : List D) (t10 : Int) (t11 : Int) (va_f : Bool) (va_n : Nat) (va_c : List D) (vn : Int) (t16 : Int) (t17 : Int) : F104_59802 call L C n (n_2 + 1) vl_f vl_n vl_c t10 t11 (Ow.nil) (va_f) (va_n) (va_c) (vn) (t16) (t17) =
  (ifK (decide (t17 < t16))
    (chkK (decide (0 ≤ t17 ∧ t17 < (vl_n : Int)))
      (cellK (vl_c) (Int.toNat t17 * 1) fun d_1 =>
      (slcK (d_1) fun f_1 n_3 c_1 =>
      (optK (call 103 [D.slc f_1 n_3 c_1, D.slc va_f va_n va_c]) fun r =>
        (intK IntKind.i64 (r) fun x =>
        (ifK (decide (x < 0))
          (F104_59802 call L C n n_2 vl_f vl_n vl_c t10 t11 (Ow.nil) (va_f) (va_n) (va_c) (IntKind.wrap IntKind.i64 (vn + 1)) (t16) (IntKind.wrap IntKind.i64 (t17 + 1)))
          (F104_59802 call L C n n_2 vl_f vl_n vl_c t10 t11 (Ow.nil) (va_f) (va_n) (va_c) (vn) (t16) (IntKind.wrap IntKind.i64 (t17 + 1)))))))))
    (F104_58 call L C n vl_f vl_n vl_c (Ow.own 1 [D.int IntKind.i64 vn]) (t10) (IntKind.wrap IntKind.i64 (t11 + 1)))) := by kernel_rfl
theorem F104_59802_eqo (call : FuncId → List D → Option D) (L : Nat) (C : Nat → Nat) (n : Nat) (n_2 : Nat) (vl_f : Bool) (vl_n : Nat) (vl_c : List D) (t10 : Int) (t11 : Int) (vout_1_n : Nat) (vout_1_c : List D) (va_f : Bool) (va_n : Nat) (va_c : List D) (vn : Int) (t16 : Int) (t17 : Int) : F104_59802 call L C n (n_2 + 1) vl_f vl_n vl_c t10 t11 (Ow.own vout_1_n vout_1_c) (va_f) (va_n) (va_c) (vn) (t16) (t17) =
  (ifK (decide (t17 < t16))
    (chkK (decide (0 ≤ t17 ∧ t17 < (vl_n : Int)))
      (cellK (vl_c) (Int.toNat t17 * 1) fun d_2 =>
      (slcK (d_2) fun f_2 n_4 c_2 =>
      (optK (call 103 [D.slc f_2 n_4 c_2, D.slc va_f va_n va_c]) fun r_1 =>
        (intK IntKind.i64 (r_1) fun x_1 =>
        (ifK (decide (x_1 < 0))
          (F104_59802 call L C n n_2 vl_f vl_n vl_c t10 t11 (Ow.own vout_1_n vout_1_c) (va_f) (va_n) (va_c) (IntKind.wrap IntKind.i64 (vn + 1)) (t16) (IntKind.wrap IntKind.i64 (t17 + 1)))
          (F104_59802 call L C n n_2 vl_f vl_n vl_c t10 t11 (Ow.own vout_1_n vout_1_c) (va_f) (va_n) (va_c) (vn) (t16) (IntKind.wrap IntKind.i64 (t17 + 1)))))))))
    (chkK (decide ((vout_1_n + 1) * 8 ≤ limit ∧ vout_1_n + 1 ≤ 9223372036854775807))
      (F104_58 call L C n vl_f vl_n vl_c (Ow.own (vout_1_n + 1) (vout_1_c ++ [D.int IntKind.i64 vn])) (t10) (IntKind.wrap IntKind.i64 (t11 + 1))))) := by kernel_rfl
theorem F104_58_eqn (call : FuncId → List D → Option D) (L : Nat) (C : Nat → Nat) (n : Nat) (vl_f : Bool) (vl_n : Nat) (vl_c : List D) (t10 : Int) (t11 : Int) : F104_58 call L C  (n + 1) vl_f vl_n vl_c (Ow.nil) (t10) (t11) =
  (ifK (decide (t11 < t10))
    (chkK (decide (0 ≤ t11 ∧ t11 < (vl_n : Int)))
      (cellK (vl_c) (Int.toNat t11 * 1) fun d =>
      (slcK (d) fun f n_1 c =>
      (F104_59802 call L C n L vl_f vl_n vl_c t10 t11 (Ow.nil) (f) (n_1) (c) (1) ((vl_n : Int)) (0)))))
    (some (D.slc true 0 []))) := by kernel_rfl
theorem F104_58_eqo (call : FuncId → List D → Option D) (L : Nat) (C : Nat → Nat) (n : Nat) (vl_f : Bool) (vl_n : Nat) (vl_c : List D) (vout_n : Nat) (vout_c : List D) (t10 : Int) (t11 : Int) : F104_58 call L C  (n + 1) vl_f vl_n vl_c (Ow.own vout_n vout_c) (t10) (t11) =
  (ifK (decide (t11 < t10))
    (chkK (decide (0 ≤ t11 ∧ t11 < (vl_n : Int)))
      (cellK (vl_c) (Int.toNat t11 * 1) fun d_3 =>
      (slcK (d_3) fun f_3 n_5 c_3 =>
      (F104_59802 call L C n L vl_f vl_n vl_c t10 t11 (Ow.own vout_n vout_c) (f_3) (n_5) (c_3) (1) ((vl_n : Int)) (0)))))
    (some (D.slc false vout_n vout_c))) := by kernel_rfl
theorem F104_eq (call : FuncId → List D → Option D) (L : Nat) (C : Nat → Nat) (vl_f : Bool) (vl_n : Nat) (vl_c : List D) : evFnT (TEf call L C) O0 N104 FinM.canon Tryz.f104 [D.slc vl_f vl_n vl_c] =
  (F104_58 call L C L vl_f vl_n vl_c (Ow.nil) ((vl_n : Int)) (0)) := by kernel_rfl

def N94 : NTab := fun p => match p with
  | 58 => some { keep := [1, 5, 8, 9, 10], kl := [], ren := [] }
  | _ => none
noncomputable def F94_58 (call : FuncId → List D → Option D) (L : Nat) (C : Nat → Nat) (n : Nat) (vl_f : Bool) (vl_n : Nat) (vl_c : List D) (vout : Int) (t9 : Int) (t10 : Int) : Option D :=
  loopAt (TEf call L C) O0 N94 FinM.canon Tryz.f94 [true, true, false, true, false] []  n (St.mk [J, D.fn (Fn.func 97) [] [], J, J, J, D.int IntKind.i64 vout, J, J, D.slc vl_f vl_n vl_c, D.int IntKind.i64 t9, D.int IntKind.i64 t10, J, J, J, J, J, J, J, J, J, J] [Z, Z, Z, Z, Z, Z, Z, Z, Z, Z, Z, Z, Z, Z, Z, Z, Z, Z, Z, Z, Z])
theorem F94_58_eq (call : FuncId → List D → Option D) (L : Nat) (C : Nat → Nat) (n : Nat) (vl_f : Bool) (vl_n : Nat) (vl_c : List D) (vout : Int) (t9 : Int) (t10 : Int) : F94_58 call L C  (n + 1) vl_f vl_n vl_c (vout) (t9) (t10) =
  (ifK (decide (t10 < t9))
    (chkK (decide (0 ≤ t10 ∧ t10 < (vl_n : Int)))
      (cellK (vl_c) (Int.toNat t10 * 1) fun d =>
      (intK IntKind.i64 (d) fun x =>
      (optK (call 97 [D.int IntKind.i64 x]) fun r =>
        (intK IntKind.i64 (r) fun x_1 =>
        (F94_58 call L C n vl_f vl_n vl_c (IntKind.wrap IntKind.i64 (vout + x_1)) (t9) (IntKind.wrap IntKind.i64 (t10 + 1))))))))
    (some (D.int IntKind.i64 vout))) := by kernel_rfl
theorem F94_eq (call : FuncId → List D → Option D) (L : Nat) (C : Nat → Nat) (vl_f : Bool) (vl_n : Nat) (vl_c : List D) : evFnT (TEf call L C) O0 N94 FinM.canon Tryz.f94 [D.slc vl_f vl_n vl_c, D.fn (Fn.func 97) [] []] =
  (F94_58 call L C L vl_f vl_n vl_c (0) ((vl_n : Int)) (0)) := by kernel_rfl

def N150 : NTab := fun p => match p with
  | 26 => some { keep := [0, 1, 7, 8], kl := [], ren := [] }
  | _ => none
end Go.Pd
end

section
namespace Go.Pd
open Go Go.Proofs Go.RowKit

/-- A number out of range is an error. -/
def numGo : List Int → Int
  | [] => 0
  | x :: r => ifK (decide (x < -9999)) 3 (ifK (decide (x > 9999)) 3 (numGo r))
def numErr (l : List Int) (most : Int) : Int := ifK ((l.length : Int) == 0) 12 (ifK (decide ((l.length : Int) > most)) 5 (numGo l))
def sumL : List Int → Int
  | [] => 0
  | x :: r => x + sumL r
def BndL (l : List Int) : Prop := ∀ x ∈ l, -9999 ≤ x ∧ x ≤ 9999
def fst3 (x y z : Int) : Int := ifK (x != 0) x (ifK (y != 0) y z)
end Go.Pd
end

section
namespace Go.Pd
open Go Go.Proofs Go.RowKit

theorem BndL.tail {x : Int} {r : List Int} (h : BndL (x :: r)) : BndL r := fun y hy => h y (List.mem_cons_of_mem _ hy)
theorem BndL.drop {l : List Int} (h : BndL l) (k : Nat) : BndL (l.drop k) := fun y hy => h y (List.mem_of_mem_drop hy)
/-- The reference's sum of the last numbers. -/
theorem go100 {call : FuncId → List D → Option D} {f : Bool} : ∀ (r pre : List Int) (fuel : Nat) (acc : Int), (pre ++ r).length ≤ 1000000 → BndL r → -(9999 * (pre.length : Int)) ≤ acc → acc ≤ 9999 * (pre.length : Int) → r.length < fuel →
    F100_58 call LL C1 fuel f (pre ++ r).length (ints (pre ++ r)) acc (pre.length : Int) = some (.int .i64 (acc + sumL r))
  | [], pre, fuel + 1, acc, _, _, _, _, _ => by rw [F100_58_eq, end_pre, ifK_false, show sumL [] = 0 from rfl, Int.add_zero]
  | x :: r, pre, fuel + 1, acc, hB, hr, h1, h2, hf => by
    have hx := hr x (by simp)
    have hlen : (pre ++ x :: r).length = pre.length + r.length + 1 := by simp; omega
    have ih := go100 (call := call) (f := f) r (pre ++ [x]) fuel (acc + x) (by rw [app1]; exact hB) hr.tail (by simp; omega) (by simp; omega) (by simp at hf; omega)
    rw [app1] at ih
    rw [F100_58_eq, lt_pre, ifK_true, in_pre, chkK_true, cell_ints, intK_int, step_pre pre x r (by omega), wrap_id (by omega), ih, show sumL (x :: r) = x + sumL r from rfl, Int.add_assoc]
theorem ok100 {f : Bool} (l : List Int) (hl : l.length ≤ 1000) (hb : BndL l) (k : Nat) (hk : k ≤ l.length) : OK5 100 [.slc f l.length (ints l), .int .i64 k] (.int .i64 (sumL (l.drop (l.length - k)))) := by
  refine fnT none_ok Tryz.func100 (ord := O0) (N := N100) (by kernel_rfl) ((F100_eq _ _ _ _ _ _ _).trans ?_)
  rw [wrap_id (by omega)]
  have := go100 (call := callOf fun _ _ => none) (f := f) (l.drop (l.length - k)) (l.take (l.length - k)) LL 0 (by rw [List.take_append_drop]; omega) (hb.drop _) (by omega) (by omega) (by simp; unfold LL; omega)
  rw [List.take_append_drop] at this
  rw [show ((l.take (l.length - k)).length : Int) = (l.length : Int) - k by rw [List.length_take]; omega, Int.zero_add] at this
  exact this
theorem ok97 (x : Int) : OK5 97 [.int .i64 x] (.int .i64 x) := fnT none_ok Tryz.func97 (ord := O0) (N := N0) (by kernel_rfl) ((F97_eq _ _ _ x).trans rfl)
def b97 : FuncId → List D → Option D := fun k ds => match k, ds with
  | 97, [.int .i64 x] => some (.int .i64 x)
  | _, _ => none
theorem b97_ok : CallsT b97 := by
  intro k ds r h
  unfold b97 at h
  split at h
  · cases h; exact ok97 _
  · cases h
theorem go94 {f : Bool} : ∀ (r pre : List Int) (fuel : Nat) (acc : Int), (pre ++ r).length ≤ 1000000 → BndL r → -(9999 * (pre.length : Int)) ≤ acc → acc ≤ 9999 * (pre.length : Int) → r.length < fuel →
    F94_58 (callOf b97) LL C1 fuel f (pre ++ r).length (ints (pre ++ r)) acc (pre ++ r).length (pre.length : Int) = some (.int .i64 (acc + sumL r))
  | [], pre, fuel + 1, acc, _, _, _, _, _ => by rw [F94_58_eq, end_pre, ifK_false, show sumL [] = 0 from rfl, Int.add_zero]
  | x :: r, pre, fuel + 1, acc, hB, hr, h1, h2, hf => by
    have hx := hr x (by simp)
    have hlen : (pre ++ x :: r).length = pre.length + r.length + 1 := by simp; omega
    have ih := go94 (f := f) r (pre ++ [x]) fuel (acc + x) (by rw [app1]; exact hB) hr.tail (by simp; omega) (by simp; omega) (by simp at hf; omega)
    rw [app1] at ih
    have hc : ∀ x, callOf b97 97 [.int .i64 x] = some (.int .i64 x) := fun _ => rfl
    rw [F94_58_eq, lt_pre, ifK_true, in_pre, chkK_true, cell_ints, intK_int, hc, optK_some, intK_int, step_pre pre x r (by omega), wrap_id (by omega), ih, show sumL (x :: r) = x + sumL r from rfl, Int.add_assoc]
/-- The program's sum of numbers. -/
theorem ok94 {f : Bool} (l : List Int) (hl : l.length ≤ 1000) (hb : BndL l) : OK5 94 [.slc f l.length (ints l), .fn (.func 97) [] []] (.int .i64 (sumL l)) := by
  refine fnT b97_ok Tryz.func94 (ord := O0) (N := N94) (by kernel_rfl) ((F94_eq _ _ _ _ _ _).trans ?_)
  have := go94 (f := f) l [] LL 0 (by simp; omega) hb (by simp) (by simp) (by unfold LL; omega)
  rw [Int.zero_add] at this
  exact this
/-- Count-back by so many last numbers, one after another. -/
def cbGo (a b : List Int) : List Nat → Int
  | [] => 0
  | c :: cs => ifK (decide (c > a.length)) (cbGo a b cs) (ifK (decide (sumL (a.drop (a.length - c)) < sumL (b.drop (a.length - c)))) (-1) (ifK (decide (sumL (a.drop (a.length - c)) > sumL (b.drop (a.length - c)))) 1 (cbGo a b cs)))
def cbV (a b : List Int) : Int := cbGo a b [a.length, 9, 6, 3, 1]
/-- Numbers out of their cells. -/
def unints : List D → Option (List Int)
  | [] => some []
  | .int .i64 x :: r => (unints r).map (x :: ·)
  | _ :: _ => none
theorem unints_ints : ∀ l, unints (ints l) = some l
  | [] => rfl
  | x :: l => by
    rw [show ints (x :: l) = .int .i64 x :: ints l from rfl]
    unfold unints
    rw [unints_ints l]
    rfl
theorem unints_inv : ∀ {cs : List D} {l : List Int}, unints cs = some l → cs = ints l
  | [], l, h => by cases h; rfl
  | d :: cs, l, h => by
    unfold unints at h
    split at h
    · rename_i he
      cases he
    · rename_i x r hh
      cases hh
      cases hr : unints cs with
      | none => rw [hr] at h; cases h
      | some l' =>
        rw [hr] at h
        cases h
        rw [unints_inv hr]
        rfl
    · cases h
open Classical in
noncomputable def bSum : FuncId → List D → Option D := fun k ds => match k, ds with
  | 100, [.slc _ n cs, .int .i64 c] => (match unints cs with
    | some l => if l.length = n ∧ n ≤ 1000 ∧ BndL l ∧ 0 ≤ c ∧ c ≤ n then some (.int .i64 (sumL (l.drop (n - c.toNat)))) else none
    | none => none)
  | 94, [.slc _ n cs, .fn (.func 97) [] []] => (match unints cs with
    | some l => if l.length = n ∧ n ≤ 1000 ∧ BndL l then some (.int .i64 (sumL l)) else none
    | none => none)
  | 113, [.int .i64 x, .int .i64 y] => some (.int .i64 (cmpV x y))
  | _, _ => none
theorem bSum_ok : CallsT bSum := by
  intro k ds r h
  unfold bSum at h
  split at h
  · rename_i f n cs c
    split at h
    · rename_i l hl
      split at h
      · rename_i hc
        obtain ⟨rfl, h1, h2, h3, h4⟩ := hc
        cases h
        obtain ⟨k, rfl⟩ : ∃ k : Nat, c = k := ⟨c.toNat, by omega⟩
        rw [unints_inv hl]
        exact ok100 l h1 h2 k (by omega)
      · cases h
    · cases h
  · rename_i f n cs
    split at h
    · rename_i l hl
      split at h
      · rename_i hc
        obtain ⟨rfl, h1, h2⟩ := hc
        cases h
        rw [unints_inv hl]
        exact ok94 l h1 h2
      · cases h
    · cases h
  · cases h
    exact b2_ok _ _ _ rfl
  · cases h
theorem at100 {f : Bool} {l : List Int} (hl : l.length ≤ 1000) (hb : BndL l) {c : Nat} (hc : c ≤ l.length) : callOf bSum 100 [.slc f l.length (ints l), .int .i64 c] = some (.int .i64 (sumL (l.drop (l.length - c)))) := by
  show bSum 100 [.slc f l.length (ints l), .int .i64 c] = _
  unfold bSum
  simp only [unints_ints]
  rw [if_pos ⟨rfl, hl, hb, by omega, by omega⟩]
  simp
theorem at94 {f : Bool} {l : List Int} {n : Nat} (hn : n = l.length) (hl : l.length ≤ 1000) (hb : BndL l) : callOf bSum 94 [.slc f n (ints l), .fn (.func 97) [] []] = some (.int .i64 (sumL l)) := by
  subst hn
  show bSum 94 [.slc f l.length (ints l), .fn (.func 97) [] []] = _
  unfold bSum
  simp only [unints_ints]
  rw [if_pos ⟨rfl, hl, hb⟩]
theorem at113 (x y : Int) : callOf bSum 113 [.int .i64 x, .int .i64 y] = some (.int .i64 (cmpV x y)) := rfl
/-- One step of the reference's count-back. -/
theorem step49 {a : List Int} {b : List Int} {f : Bool} {g : Bool} (hab : a.length = b.length) (ha : a.length ≤ 1000) (hba : BndL a) (hbb : BndL b) (cs : List Int) (c : Nat) (i : Nat) (hi : i < 5) (hc : cs[i]? = some (c : Int)) (fuel : Nat) :
    F49_58 (callOf bSum) LL C1 (fuel + 1) f a.length (ints a) g b.length (ints b) (ints cs) i = ifK (decide (c > a.length)) (F49_58 (callOf bSum) LL C1 fuel f a.length (ints a) g b.length (ints b) (ints cs) ((i + 1 : Nat) : Int))
      (ifK (decide (sumL (a.drop (a.length - c)) < sumL (b.drop (a.length - c)))) (some (.int .i64 (-1))) (ifK (decide (sumL (a.drop (a.length - c)) > sumL (b.drop (a.length - c)))) (some (.int .i64 1))
        (F49_58 (callOf bSum) LL C1 fuel f a.length (ints a) g b.length (ints b) (ints cs) ((i + 1 : Nat) : Int)))) := by
  have h1 : decide ((i : Int) < (5 : Int)) = true := by simp; omega
  have h2 : decide ((0 : Int) ≤ (i : Int) ∧ (i : Int) < (5 : Int)) = true := by simp; omega
  have hcell : ∀ {γ : Type} (k : D → Option γ), cellK (ints cs) (Int.toNat (i : Int) * 1) k = k (.int .i64 c) := fun k => cellK_some (by simp [ints, hc]) k
  have hw : IntKind.wrap .i64 ((i : Int) + 1) = ((i + 1 : Nat) : Int) := by rw [wrap_id (by omega)]; rfl
  have hd : decide ((c : Int) > (a.length : Int)) = decide (c > a.length) := by
    by_cases h : c > a.length
    · simp [h]
    · simp [h]
  rw [F49_58_eq, h1, ifK_true, h2, chkK_true, hcell, intK_int, hd, chkK_true, hcell, intK_int, hw]
  cases hgt : decide (c > a.length) with
  | true => rw [ifK_true, ifK_true]
  | false =>
    simp only [decide_eq_false_iff_not] at hgt
    rw [ifK_false, ifK_false, at100 ha hba (by omega), optK_some, intK_int, chkK_true, hcell, intK_int, at100 (by omega) hbb (by omega), optK_some, intK_int, hab]
theorem go49 {a : List Int} {b : List Int} {f : Bool} {g : Bool} (hab : a.length = b.length) (ha : a.length ≤ 1000) (hba : BndL a) (hbb : BndL b) (cs : List Nat) (hcs : cs.length = 5) : ∀ (r : List Nat) (i fuel : Nat), i + r.length = 5 → cs.drop i = r → r.length < fuel → F49_58 (callOf bSum) LL C1 fuel f a.length (ints a) g b.length (ints b) (ints (cs.map fun (c : Nat) => (c : Int))) i = some (.int .i64 (cbGo a b r))
  | [], i, fuel + 1, hi, _, _ => by
    have h1 : decide ((i : Int) < (5 : Int)) = false := by simp at hi; simp; omega
    rw [F49_58_eq, h1, ifK_false]
    rfl
  | c :: r, i, fuel + 1, hi, hr, hf => by
    have hi5 : i < 5 := by simp at hi; omega
    have hget : cs[i]? = some c := by
      have := congrArg (fun l => l[0]?) hr
      simpa using this
    have hdrop : cs.drop (i + 1) = r := by
      have := congrArg (fun l => l.drop 1) hr
      simpa using this
    have ih := go49 (a := a) (b := b) (f := f) (g := g) hab ha hba hbb cs hcs r (i + 1) fuel (by simp at hi; omega) hdrop (by simp at hf; omega)
    rw [step49 hab ha hba hbb _ c i hi5 (by simp [hget]) fuel, ih]
    rw [show cbGo a b (c :: r) = ifK (decide (c > a.length)) (cbGo a b r) (ifK (decide (sumL (a.drop (a.length - c)) < sumL (b.drop (a.length - c)))) (-1) (ifK (decide (sumL (a.drop (a.length - c)) > sumL (b.drop (a.length - c)))) 1 (cbGo a b r))) from rfl]
    generalize decide (c > a.length) = q1
    generalize decide (sumL (a.drop (a.length - c)) < sumL (b.drop (a.length - c))) = q2
    generalize decide (sumL (a.drop (a.length - c)) > sumL (b.drop (a.length - c))) = q3
    cases q1 <;> cases q2 <;> cases q3 <;> rfl
/-- The reference's count-back. -/
theorem ok49 {a : List Int} {b : List Int} {f : Bool} {g : Bool} (hab : a.length = b.length) (ha : a.length ≤ 1000) (hba : BndL a) (hbb : BndL b) : OK5 49 [.slc f a.length (ints a), .slc g b.length (ints b)] (.int .i64 (cbV a b)) := by
  refine fnT bSum_ok Tryz.func49 (ord := O0) (N := N49) (by kernel_rfl) ((F49_eq _ _ _ _ _ _ _ _ _).trans ?_)
  exact go49 hab ha hba hbb [a.length, 9, 6, 3, 1] rfl _ 0 LL rfl rfl (by unfold LL; simp)
/-- One step of the program's count-back. -/
theorem step103 {a : List Int} {b : List Int} {f : Bool} {g : Bool} (hab : a.length = b.length) (ha : a.length ≤ 1000) (hba : BndL a) (hbb : BndL b) (cs : List Int) (c : Nat) (hcb : c ≤ 1000) (i : Nat) (hi : i < 5) (hc : cs[i]? = some (c : Int)) (fuel : Nat) :
    F103_26 (callOf bSum) LL C1 (fuel + 1) f a.length (ints a) g b.length (ints b) (ints cs) i = ifK (decide (c > a.length)) (F103_26 (callOf bSum) LL C1 fuel f a.length (ints a) g b.length (ints b) (ints cs) ((i + 1 : Nat) : Int))
      (ifK (cmpV (sumL (a.drop (a.length - c))) (sumL (b.drop (a.length - c))) != 0) (some (.int .i64 (cmpV (sumL (a.drop (a.length - c))) (sumL (b.drop (a.length - c))))))
        (F103_26 (callOf bSum) LL C1 fuel f a.length (ints a) g b.length (ints b) (ints cs) ((i + 1 : Nat) : Int))) := by
  have h1 : decide ((i : Int) < (5 : Int)) = true := by simp; omega
  have h2 : decide ((0 : Int) ≤ (i : Int) ∧ (i : Int) < (5 : Int)) = true := by simp; omega
  have hcell : ∀ {γ : Type} (k : D → Option γ), cellK (ints cs) (Int.toNat (i : Int) * 1) k = k (.int .i64 c) := fun k => cellK_some (by simp [ints, hc]) k
  have hw : IntKind.wrap .i64 ((i : Int) + 1) = ((i + 1 : Nat) : Int) := by rw [wrap_id (by omega)]; rfl
  rw [F103_26_eq, h1, ifK_true, h2, chkK_true, hcell, intK_int, hw, wrap_id (x := (a.length : Int) - c) (by omega)]
  by_cases hgt : c > a.length
  · have e1 : decide ((a.length : Int) - c ≥ 0) = false := by simp; omega
    rw [e1, ifK_false, show decide (c > a.length) = true by simpa using hgt, ifK_true]
  · have e1 : decide ((a.length : Int) - c ≥ 0) = true := by simp; omega
    have e2 : decide ((0 : Int) ≤ (a.length : Int) - c ∧ (a.length : Int) - c ≤ (a.length : Int) ∧ (a.length : Int) ≤ (a.length : Int)) = true := by simp; omega
    have e3 : decide ((0 : Int) ≤ (a.length : Int) - c ∧ (a.length : Int) - c ≤ (b.length : Int) ∧ (b.length : Int) ≤ (b.length : Int)) = true := by simp; omega
    have t1 : Int.toNat ((a.length : Int) - ((a.length : Int) - c)) = c := by omega
    have t2 : Int.toNat ((b.length : Int) - ((a.length : Int) - c)) = c := by omega
    have t3 : Int.toNat ((a.length : Int) - c) = a.length - c := by omega
    have d1 : List.take (c * 1) (List.drop ((a.length - c) * 1) (ints a)) = ints (a.drop (a.length - c)) := by
      rw [Nat.mul_one, Nat.mul_one]
      unfold ints
      rw [← List.map_drop, List.take_of_length_le (by simp; omega)]
    have d2 : List.take (c * 1) (List.drop ((a.length - c) * 1) (ints b)) = ints (b.drop (a.length - c)) := by
      rw [Nat.mul_one, Nat.mul_one]
      unfold ints
      rw [← List.map_drop, List.take_of_length_le (by simp; omega)]
    rw [e1, ifK_true, e2, chkK_true, t1, t2, t3, d1, d2, at94 (by simp; omega) (by simp; omega) (hba.drop _), optK_some, intK_int, e3, chkK_true, at94 (by simp; omega) (by simp; omega) (hbb.drop _), optK_some, intK_int, at113, optK_some, intK_int,
      show decide (c > a.length) = false by simpa using hgt, ifK_false]
theorem go103 {a : List Int} {b : List Int} {f : Bool} {g : Bool} (hab : a.length = b.length) (ha : a.length ≤ 1000) (hba : BndL a) (hbb : BndL b) (cs : List Nat) (hcs : cs.length = 5) (hcb : ∀ c ∈ cs, c ≤ 1000) : ∀ (r : List Nat) (i fuel : Nat), i + r.length = 5 → cs.drop i = r → r.length < fuel → F103_26 (callOf bSum) LL C1 fuel f a.length (ints a) g b.length (ints b) (ints (cs.map fun (c : Nat) => (c : Int))) i = some (.int .i64 (cbGo a b r))
  | [], i, fuel + 1, hi, _, _ => by
    have h1 : decide ((i : Int) < (5 : Int)) = false := by simp at hi; simp; omega
    rw [F103_26_eq, h1, ifK_false]
    rfl
  | c :: r, i, fuel + 1, hi, hr, hf => by
    have hi5 : i < 5 := by simp at hi; omega
    have hget : cs[i]? = some c := by
      have := congrArg (fun l => l[0]?) hr
      simpa using this
    have hdrop : cs.drop (i + 1) = r := by
      have := congrArg (fun l => l.drop 1) hr
      simpa using this
    have ih := go103 (a := a) (b := b) (f := f) (g := g) hab ha hba hbb cs hcs hcb r (i + 1) fuel (by simp at hi; omega) hdrop (by simp at hf; omega)
    rw [step103 hab ha hba hbb _ c (hcb c (List.mem_of_getElem? hget)) i hi5 (by simp [hget]) fuel, ih]
    rw [show cbGo a b (c :: r) = ifK (decide (c > a.length)) (cbGo a b r) (ifK (decide (sumL (a.drop (a.length - c)) < sumL (b.drop (a.length - c)))) (-1) (ifK (decide (sumL (a.drop (a.length - c)) > sumL (b.drop (a.length - c)))) 1 (cbGo a b r))) from rfl]
    unfold cmpV
    generalize decide (c > a.length) = q1
    generalize decide (sumL (a.drop (a.length - c)) < sumL (b.drop (a.length - c))) = q2
    generalize decide (sumL (a.drop (a.length - c)) > sumL (b.drop (a.length - c))) = q3
    cases q1 <;> cases q2 <;> cases q3 <;> rfl
/-- The program's count-back. -/
theorem ok103 {a : List Int} {b : List Int} {f : Bool} {g : Bool} (hab : a.length = b.length) (ha : a.length ≤ 1000) (hba : BndL a) (hbb : BndL b) : OK5 103 [.slc f a.length (ints a), .slc g b.length (ints b)] (.int .i64 (cbV a b)) := by
  refine fnT bSum_ok Tryz.func103 (ord := O0) (N := N103) (by kernel_rfl) ((F103_eq _ _ _ _ _ _ _ _ _).trans ?_)
  exact go103 hab ha hba hbb [a.length, 9, 6, 3, 1] rfl (by simp; exact ha) _ 0 LL rfl rfl (by unfold LL; simp)
end Go.Pd
end

section
namespace Go.Pd
open Go Go.Proofs Go.RowKit

theorem roomK {i : Nat} (h : i ≤ 1000000) : decide ((i + 1) * 8 ≤ limit ∧ i + 1 ≤ 9223372036854775807) = true := by
  simp only [decide_eq_true_eq]
  rw [show limit = 140737488355328 from rfl]
  omega
open Classical in
noncomputable def bCb : FuncId → List D → Option D := fun k ds => match k, ds with
  | 49, [.slc _ n c, .slc _ m d] => (match unints c, unints d with
    | some a, some b => if a.length = n ∧ b.length = m ∧ n = m ∧ n ≤ 1000 ∧ BndL a ∧ BndL b then some (.int .i64 (cbV a b)) else none
    | _, _ => none)
  | 103, [.slc _ n c, .slc _ m d] => (match unints c, unints d with
    | some a, some b => if a.length = n ∧ b.length = m ∧ n = m ∧ n ≤ 1000 ∧ BndL a ∧ BndL b then some (.int .i64 (cbV a b)) else none
    | _, _ => none)
  | _, _ => none
theorem bCb_ok : CallsT bCb := by
  intro k ds r h
  unfold bCb at h
  split at h
  · split at h
    · rename_i a b ha hb
      split at h
      · rename_i hc
        obtain ⟨rfl, rfl, h1, h2, h3, h4⟩ := hc
        cases h
        rw [unints_inv ha, unints_inv hb]
        exact ok49 h1 h2 h3 h4
      · cases h
    · cases h
  · split at h
    · rename_i a b ha hb
      split at h
      · rename_i hc
        obtain ⟨rfl, rfl, h1, h2, h3, h4⟩ := hc
        cases h
        rw [unints_inv ha, unints_inv hb]
        exact ok103 h1 h2 h3 h4
      · cases h
    · cases h
  · cases h
theorem at49 {f g : Bool} {a b : List Int} (hab : a.length = b.length) (ha : a.length ≤ 1000) (hba : BndL a) (hbb : BndL b) : callOf bCb 49 [.slc f a.length (ints a), .slc g b.length (ints b)] = some (.int .i64 (cbV a b)) := by
  show bCb 49 [.slc f a.length (ints a), .slc g b.length (ints b)] = _
  unfold bCb
  simp only [unints_ints]
  rw [if_pos ⟨rfl, rfl, hab, ha, hba, hbb⟩]
theorem at103 {f g : Bool} {a b : List Int} (hab : a.length = b.length) (ha : a.length ≤ 1000) (hba : BndL a) (hbb : BndL b) : callOf bCb 103 [.slc f a.length (ints a), .slc g b.length (ints b)] = some (.int .i64 (cbV a b)) := by
  show bCb 103 [.slc f a.length (ints a), .slc g b.length (ints b)] = _
  unfold bCb
  simp only [unints_ints]
  rw [if_pos ⟨rfl, rfl, hab, ha, hba, hbb⟩]
/-- The rank of a list: 1, and one for each that precedes it. -/
def rkGo (a : List Int) : List (List Int) → Int → Int
  | [], n => n
  | b :: r, n => rkGo a r (ifK (decide (cbV b a < 0)) (n + 1) n)
def ranksV (l : List (List Int)) : List Int := l.map fun a => rkGo a l 1
/-- A slice that grows from nil. -/
def owI : List Int → Ow
  | [] => .nil
  | x :: l => .own (l.length + 1) (ints (x :: l))
def sameLen (k : Nat) (l : List (List Int)) : Prop := ∀ x ∈ l, x.length = k ∧ BndL x
theorem inner51 {f : Bool} {l : List (List Int)} {k : Nat} (hk : k ≤ 1000) (hs : sameLen k l) (hl : l.length ≤ 1000) (fo i : Nat) (a : List Int) (ha : l[i]? = some a) (outs : List Int) (ho : outs.length ≤ 1000) :
    ∀ (r pre : List (List Int)) (fuel : Nat) (n : Int), l = pre ++ r → 0 ≤ n → n + r.length ≤ 3000 → r.length < fuel →
    F51_14922 (callOf bCb) LL C1 fo fuel f l.length (rows l) i (owI outs) n (pre.length : Int) = F51_58 (callOf bCb) LL C1 fo f l.length (rows l) (owI (outs ++ [rkGo a r n])) ((i + 1 : Nat) : Int) := by
  intro r
  induction r with
  | nil =>
    intro pre fuel n hp hn hn2 hf
    cases fuel with
    | zero => exact absurd hf (Nat.lt_irrefl _)
    | succ fuel =>
        have h1 : decide ((pre.length : Int) < (l.length : Int)) = false := by rw [hp]; simp
        have hi : i < l.length := (List.getElem?_eq_some_iff.1 ha).1
        have hw : IntKind.wrap .i64 ((i : Int) + 1) = ((i + 1 : Nat) : Int) := by rw [wrap_id (by omega)]; rfl
        cases outs with
        | nil =>
          show F51_14922 (callOf bCb) LL C1 fo (fuel + 1) f l.length (rows l) i .nil n (pre.length : Int) = _
          rw [F51_14922_eqn, h1, ifK_false, hw]
          rfl
        | cons o os =>
          show F51_14922 (callOf bCb) LL C1 fo (fuel + 1) f l.length (rows l) i (.own (os.length + 1) (ints (o :: os))) n (pre.length : Int) = _
          rw [F51_14922_eqo, h1, ifK_false, hw, roomK (by simp at ho; omega), chkK_true]
          show _ = F51_58 (callOf bCb) LL C1 fo f l.length (rows l) (.own ((os ++ [n]).length + 1) (ints (o :: (os ++ [n])))) _
          have e2 : ints (o :: (os ++ [n])) = ints (o :: os) ++ [.int .i64 n] := by simp [ints]
          rw [e2, List.length_append, List.length_singleton]
  | cons b r ih =>
    intro pre fuel n hp hn hn2 hf
    cases fuel with
    | zero => exact absurd hf (Nat.not_lt_zero _)
    | succ fuel =>
        have hb : l[pre.length]? = some b := by rw [hp]; simp
        have hmem : b ∈ l := List.mem_of_getElem? hb
        have hlen : l.length = pre.length + r.length + 1 := by rw [hp]; simp; omega
        have h1 : decide ((pre.length : Int) < (l.length : Int)) = true := by simp; omega
        have h2 : decide ((0 : Int) ≤ (pre.length : Int) ∧ (pre.length : Int) < (l.length : Int)) = true := by simp; omega
        have hi : i < l.length := (List.getElem?_eq_some_iff.1 ha).1
        have h3 : decide ((0 : Int) ≤ (i : Int) ∧ (i : Int) < (l.length : Int)) = true := by simp; omega
        have c1 : ∀ {γ : Type} (k : D → Option γ), cellK (rows l) (Int.toNat (pre.length : Int) * 1) k = k (.slc false b.length (ints b)) := fun k => cellK_some (by simp [rows, hb]) k
        have c2 : ∀ {γ : Type} (k : D → Option γ), cellK (rows l) (Int.toNat (i : Int) * 1) k = k (.slc false a.length (ints a)) := fun k => cellK_some (by simp [rows, ha]) k
        have hw : IntKind.wrap .i64 ((pre.length : Int) + 1) = ((pre ++ [b]).length : Int) := by rw [wrap_id (by omega)]; simp
        have hwn : IntKind.wrap .i64 (n + 1) = n + 1 := wrap_id (by simp at hn2; omega)
        have sb := hs b hmem
        have sa := hs a (List.mem_of_getElem? ha)
        have hc := at49 (f := false) (g := false) (by rw [sb.1, sa.1]) (by rw [sb.1]; exact hk) sb.2 sa.2
        have ih1 := ih (pre ++ [b]) fuel (n + 1) (by rw [hp]; simp) (by omega) (by simp at hn2; omega) (by simp at hf; omega)
        have ih2 := ih (pre ++ [b]) fuel n (by rw [hp]; simp) hn (by simp at hn2; omega) (by simp at hf; omega)
        rw [show rkGo a (b :: r) n = rkGo a r (ifK (decide (cbV b a < 0)) (n + 1) n) from rfl]
        cases outs with
        | nil =>
          have e0 : owI [] = .nil := rfl
          rw [e0] at ih1 ih2 ⊢
          rw [F51_14922_eqn, h1, ifK_true, h2, chkK_true, c1, slcK_slc, h3, chkK_true, c2, slcK_slc, hc, optK_some, intK_int, hw, hwn, ih1, ih2]
          cases decide (cbV b a < 0) <;> rfl
        | cons o os =>
          have e0 : owI (o :: os) = .own (os.length + 1) (ints (o :: os)) := rfl
          rw [e0] at ih1 ih2 ⊢
          rw [F51_14922_eqo, h1, ifK_true, h2, chkK_true, c1, slcK_slc, h3, chkK_true, c2, slcK_slc, hc, optK_some, intK_int, hw, hwn, ih1, ih2]
          cases decide (cbV b a < 0) <;> rfl
theorem outer51 {f : Bool} {l : List (List Int)} {k : Nat} (hk : k ≤ 1000) (hs : sameLen k l) (hl : l.length ≤ 1000) : ∀ (r pre : List (List Int)) (fuel : Nat), l = pre ++ r → 0 < l.length → r.length < fuel →
    F51_58 (callOf bCb) LL C1 fuel f l.length (rows l) (owI (pre.map fun a => rkGo a l 1)) (pre.length : Int) = some (.slc false l.length (ints (ranksV l)))
  | [], pre, fuel + 1, hp, h0, _ => by
    have hpl : pre = l := by rw [hp]; simp
    have h1 : decide ((pre.length : Int) < (l.length : Int)) = false := by rw [hpl]; simp
    cases pre with
    | nil => rw [← hpl] at h0; cases h0
    | cons o os =>
      show F51_58 (callOf bCb) LL C1 (fuel + 1) f l.length (rows l) (.own ((os.map fun a => rkGo a l 1).length + 1) (ints ((o :: os).map fun a => rkGo a l 1))) ((o :: os).length : Int) = _
      rw [F51_58_eqo, h1, ifK_false, hpl, List.length_map]
      have hl2 : os.length + 1 = l.length := by rw [← hpl]; rfl
      rw [hl2]
      rfl
  | a :: r, pre, fuel + 1, hp, h0, hf => by
    have ha : l[pre.length]? = some a := by rw [hp]; simp
    have hlen : l.length = pre.length + r.length + 1 := by rw [hp]; simp; omega
    have h1 : decide ((pre.length : Int) < (l.length : Int)) = true := by simp; omega
    have hin := inner51 (f := f) hk hs hl fuel pre.length a ha (pre.map fun a => rkGo a l 1) (by simp; omega) l [] LL 1 rfl (by omega) (by omega) (by unfold LL; omega)
    rw [show ((([] : List (List Int)).length : Nat) : Int) = 0 from rfl] at hin
    have ih := outer51 (f := f) hk hs hl r (pre ++ [a]) fuel (by rw [hp]; simp) h0 (by simp at hf; omega)
    rw [List.map_append, List.length_append] at ih
    rw [show (pre.length + [a].length : Nat) = pre.length + 1 from rfl, show (List.map (fun a => rkGo a l 1) [a]) = [rkGo a l 1] from rfl] at ih
    rw [← ih, ← hin]
    cases pre with
    | nil =>
      show F51_58 (callOf bCb) LL C1 (fuel + 1) f l.length (rows l) .nil _ = F51_14922 (callOf bCb) LL C1 fuel LL f l.length (rows l) _ .nil 1 0
      rw [F51_58_eqn, h1, ifK_true]
    | cons o os =>
      show F51_58 (callOf bCb) LL C1 (fuel + 1) f l.length (rows l) (.own ((os.map fun a => rkGo a l 1).length + 1) (ints ((o :: os).map fun a => rkGo a l 1))) _ = F51_14922 (callOf bCb) LL C1 fuel LL f l.length (rows l) _ (.own ((os.map fun a => rkGo a l 1).length + 1) (ints ((o :: os).map fun a => rkGo a l 1))) 1 0
      rw [F51_58_eqo, h1, ifK_true]
/-- The reference's ranks. -/
theorem ok51 {f : Bool} {l : List (List Int)} {k : Nat} (hk : k ≤ 1000) (hs : sameLen k l) (hl : l.length ≤ 1000) (h0 : 0 < l.length) : OK5 51 [.slc f l.length (rows l)] (.slc false l.length (ints (ranksV l))) := by
  refine fnT bCb_ok Tryz.func51 (ord := O0) (N := N51) (by kernel_rfl) ((F51_eq _ _ _ _ _ _).trans ?_)
  exact outer51 (f := f) hk hs hl l [] LL rfl h0 (by unfold LL; omega)
theorem inner104 {f : Bool} {l : List (List Int)} {k : Nat} (hk : k ≤ 1000) (hs : sameLen k l) (hl : l.length ≤ 1000) (fo i : Nat) (hi : i < l.length) (a : List Int) (ha : a.length = k ∧ BndL a) (outs : List Int) (ho : outs.length ≤ 1000) :
    ∀ (r pre : List (List Int)) (fuel : Nat) (n : Int), l = pre ++ r → 0 ≤ n → n + r.length ≤ 3000 → r.length < fuel →
    F104_59802 (callOf bCb) LL C1 fo fuel f l.length (rows l) l.length i (owI outs) false a.length (ints a) n l.length (pre.length : Int) = F104_58 (callOf bCb) LL C1 fo f l.length (rows l) (owI (outs ++ [rkGo a r n])) l.length ((i + 1 : Nat) : Int) := by
  intro r
  induction r with
  | nil =>
    intro pre fuel n hp hn hn2 hf
    cases fuel with
    | zero => exact absurd hf (Nat.lt_irrefl _)
    | succ fuel =>
        have h1 : decide ((pre.length : Int) < (l.length : Int)) = false := by rw [hp]; simp
        have hw : IntKind.wrap .i64 ((i : Int) + 1) = ((i + 1 : Nat) : Int) := by rw [wrap_id (by omega)]; rfl
        cases outs with
        | nil =>
          show F104_59802 (callOf bCb) LL C1 fo (fuel + 1) f l.length (rows l) l.length i .nil false a.length (ints a) n l.length (pre.length : Int) = _
          rw [F104_59802_eqn, h1, ifK_false, hw]
          rfl
        | cons o os =>
          show F104_59802 (callOf bCb) LL C1 fo (fuel + 1) f l.length (rows l) l.length i (.own (os.length + 1) (ints (o :: os))) false a.length (ints a) n l.length (pre.length : Int) = _
          rw [F104_59802_eqo, h1, ifK_false, hw, roomK (by simp at ho; omega), chkK_true]
          show _ = F104_58 (callOf bCb) LL C1 fo f l.length (rows l) (.own ((os ++ [n]).length + 1) (ints (o :: (os ++ [n])))) _ _
          have e2 : ints (o :: (os ++ [n])) = ints (o :: os) ++ [.int .i64 n] := by simp [ints]
          rw [e2, List.length_append, List.length_singleton]
  | cons b r ih =>
    intro pre fuel n hp hn hn2 hf
    cases fuel with
    | zero => exact absurd hf (Nat.not_lt_zero _)
    | succ fuel =>
        have hb : l[pre.length]? = some b := by rw [hp]; simp
        have hmem : b ∈ l := List.mem_of_getElem? hb
        have hlen : l.length = pre.length + r.length + 1 := by rw [hp]; simp; omega
        have h1 : decide ((pre.length : Int) < (l.length : Int)) = true := by simp; omega
        have h2 : decide ((0 : Int) ≤ (pre.length : Int) ∧ (pre.length : Int) < (l.length : Int)) = true := by simp; omega
        have c1 : ∀ {γ : Type} (k : D → Option γ), cellK (rows l) (Int.toNat (pre.length : Int) * 1) k = k (.slc false b.length (ints b)) := fun k => cellK_some (by simp [rows, hb]) k
        have hw : IntKind.wrap .i64 ((pre.length : Int) + 1) = ((pre ++ [b]).length : Int) := by rw [wrap_id (by omega)]; simp
        have hwn : IntKind.wrap .i64 (n + 1) = n + 1 := wrap_id (by simp at hn2; omega)
        have sb := hs b hmem
        have hc := at103 (f := false) (g := false) (by rw [sb.1, ha.1]) (by rw [sb.1]; exact hk) sb.2 ha.2
        have ih1 := ih (pre ++ [b]) fuel (n + 1) (by rw [hp]; simp) (by omega) (by simp at hn2; omega) (by simp at hf; omega)
        have ih2 := ih (pre ++ [b]) fuel n (by rw [hp]; simp) hn (by simp at hn2; omega) (by simp at hf; omega)
        rw [show rkGo a (b :: r) n = rkGo a r (ifK (decide (cbV b a < 0)) (n + 1) n) from rfl]
        cases outs with
        | nil =>
          have e0 : owI [] = .nil := rfl
          rw [e0] at ih1 ih2 ⊢
          rw [F104_59802_eqn, h1, ifK_true, h2, chkK_true, c1, slcK_slc, hc, optK_some, intK_int, hw, hwn, ih1, ih2]
          cases decide (cbV b a < 0) <;> rfl
        | cons o os =>
          have e0 : owI (o :: os) = .own (os.length + 1) (ints (o :: os)) := rfl
          rw [e0] at ih1 ih2 ⊢
          rw [F104_59802_eqo, h1, ifK_true, h2, chkK_true, c1, slcK_slc, hc, optK_some, intK_int, hw, hwn, ih1, ih2]
          cases decide (cbV b a < 0) <;> rfl
theorem outer104 {f : Bool} {l : List (List Int)} {k : Nat} (hk : k ≤ 1000) (hs : sameLen k l) (hl : l.length ≤ 1000) : ∀ (r pre : List (List Int)) (fuel : Nat), l = pre ++ r → 0 < l.length → r.length < fuel →
    F104_58 (callOf bCb) LL C1 fuel f l.length (rows l) (owI (pre.map fun a => rkGo a l 1)) l.length (pre.length : Int) = some (.slc false l.length (ints (ranksV l)))
  | [], pre, fuel + 1, hp, h0, _ => by
    have hpl : pre = l := by rw [hp]; simp
    have h1 : decide ((pre.length : Int) < (l.length : Int)) = false := by rw [hpl]; simp
    cases pre with
    | nil => rw [← hpl] at h0; cases h0
    | cons o os =>
      show F104_58 (callOf bCb) LL C1 (fuel + 1) f l.length (rows l) (.own ((os.map fun a => rkGo a l 1).length + 1) (ints ((o :: os).map fun a => rkGo a l 1))) l.length ((o :: os).length : Int) = _
      rw [F104_58_eqo, h1, ifK_false, hpl, List.length_map]
      have hl2 : os.length + 1 = l.length := by rw [← hpl]; rfl
      rw [hl2]
      rfl
  | a :: r, pre, fuel + 1, hp, h0, hf => by
    have ha : l[pre.length]? = some a := by rw [hp]; simp
    have hlen : l.length = pre.length + r.length + 1 := by rw [hp]; simp; omega
    have h1 : decide ((pre.length : Int) < (l.length : Int)) = true := by simp; omega
    have h2 : decide ((0 : Int) ≤ (pre.length : Int) ∧ (pre.length : Int) < (l.length : Int)) = true := by simp; omega
    have c1 : ∀ {γ : Type} (k : D → Option γ), cellK (rows l) (Int.toNat (pre.length : Int) * 1) k = k (.slc false a.length (ints a)) := fun k => cellK_some (by simp [rows, ha]) k
    have hin := inner104 (f := f) hk hs hl fuel pre.length (by omega) a (hs a (List.mem_of_getElem? ha)) (pre.map fun a => rkGo a l 1) (by simp; omega) l [] LL 1 rfl (by omega) (by omega) (by unfold LL; omega)
    rw [show ((([] : List (List Int)).length : Nat) : Int) = 0 from rfl] at hin
    have ih := outer104 (f := f) hk hs hl r (pre ++ [a]) fuel (by rw [hp]; simp) h0 (by simp at hf; omega)
    rw [List.map_append, List.length_append] at ih
    rw [show (pre.length + [a].length : Nat) = pre.length + 1 from rfl, show (List.map (fun a => rkGo a l 1) [a]) = [rkGo a l 1] from rfl] at ih
    rw [← ih, ← hin]
    cases pre with
    | nil =>
      show F104_58 (callOf bCb) LL C1 (fuel + 1) f l.length (rows l) .nil l.length _ = F104_59802 (callOf bCb) LL C1 fuel LL f l.length (rows l) l.length _ .nil false a.length (ints a) 1 l.length 0
      rw [F104_58_eqn, h1, ifK_true, h2, chkK_true, c1, slcK_slc]
    | cons o os =>
      show F104_58 (callOf bCb) LL C1 (fuel + 1) f l.length (rows l) (.own ((os.map fun a => rkGo a l 1).length + 1) (ints ((o :: os).map fun a => rkGo a l 1))) l.length _ = F104_59802 (callOf bCb) LL C1 fuel LL f l.length (rows l) l.length _ (.own ((os.map fun a => rkGo a l 1).length + 1) (ints ((o :: os).map fun a => rkGo a l 1))) false a.length (ints a) 1 l.length 0
      rw [F104_58_eqo, h1, ifK_true, h2, chkK_true, c1, slcK_slc]
/-- The program's ranks. -/
theorem ok104 {f : Bool} {l : List (List Int)} {k : Nat} (hk : k ≤ 1000) (hs : sameLen k l) (hl : l.length ≤ 1000) (h0 : 0 < l.length) : OK5 104 [.slc f l.length (rows l)] (.slc false l.length (ints (ranksV l))) := by
  refine fnT bCb_ok Tryz.func104 (ord := O0) (N := N104) (by kernel_rfl) ((F104_eq _ _ _ _ _ _).trans ?_)
  exact outer104 (f := f) hk hs hl l [] LL rfl h0 (by unfold LL; omega)
end Go.Pd
end

section
namespace Go.Pd
open Go Go.Proofs Go.RowKit

/-- Lists of numbers out of their cells. -/
def unrows : List D → Option (List (List Int))
  | [] => some []
  | .slc false n cs :: r => (match unints cs with
    | some l => if l.length = n then (unrows r).map (l :: ·) else none
    | none => none)
  | _ :: _ => none
theorem unrows_rows : ∀ l, unrows (rows l) = some l
  | [] => rfl
  | x :: l => by
    rw [show rows (x :: l) = .slc false x.length (ints x) :: rows l from rfl]
    unfold unrows
    rw [unints_ints]
    dsimp only
    rw [if_pos rfl, unrows_rows l]
    rfl
open Classical in
noncomputable def bT : FuncId → List D → Option D := fun k ds => match k, ds with
  | 33, [.slc _ n c, .int .i64 m] => (match unints c with
    | some l => if l.length = n ∧ m ≤ 1000 then some (.int .i64 (numErr l m)) else none
    | none => none)
  | 93, [.slc _ n c, .int .i64 m] => (match unints c with
    | some l => if l.length = n ∧ n < 4611686018427387904 then some (.int .i64 (numErr l m)) else none
    | none => none)
  | 83, [.bool b, .int .i64 e] => some (.int .i64 (ifK b e 0))
  | 24, [.bool b, .int .i64 e] => some (.int .i64 (ifK b e 0))
  | 81, [.slc true 2 [.int .i64 x, .int .i64 y]] => some (.int .i64 (fst2 x y))
  | 81, [.slc true 3 [.int .i64 x, .int .i64 y, .int .i64 z]] => some (.int .i64 (fst3 x y z))
  | 22, [.slc true 3 [.int .i64 x, .int .i64 y, .int .i64 z]] => some (.int .i64 (fst3 x y z))
  | 51, [.slc _ n c] => (match unrows c with
    | some l => if l.length = n ∧ n ≤ 1000 ∧ 0 < n ∧ ∃ k, k ≤ 1000 ∧ sameLen k l then some (.slc false n (ints (ranksV l))) else none
    | none => none)
  | 104, [.slc _ n c] => (match unrows c with
    | some l => if l.length = n ∧ n ≤ 1000 ∧ 0 < n ∧ ∃ k, k ≤ 1000 ∧ sameLen k l then some (.slc false n (ints (ranksV l))) else none
    | none => none)
  | k, ds => bCb k ds
section
variable {f : Bool}
theorem at51 {l : List (List Int)} {k : Nat} (hk : k ≤ 1000) (hs : sameLen k l) (hl : l.length ≤ 1000) (h0 : 0 < l.length) : callOf bT 51 [.slc f l.length (rows l)] = some (.slc false l.length (ints (ranksV l))) := by
  show bT 51 [.slc f l.length (rows l)] = _
  unfold bT
  simp only [unrows_rows]
  rw [if_pos ⟨rfl, hl, h0, k, hk, hs⟩]
end
/-- Two lists that are compared: their error. -/
def cbErr (a b : List Int) : Int := fst3 (numErr a 36) (numErr b 36) (ifK ((a.length : Int) != b.length) 2 0)
/-- Lists that are ranked: the error of the first one with an error. -/
def liGo (k : Nat) : List (List Int) → Int
  | [] => 0
  | x :: r => ifK (numErr x 36 != 0) (numErr x 36) (ifK ((x.length : Int) != k) 2 (liGo k r))
def listsErr (l : List (List Int)) : Int := ifK ((l.length : Int) == 0) 12 (ifK (decide ((l.length : Int) > 200)) 5 (liGo (l.headD []).length l))
/-- What the program's ranks are. -/
def ranksR (l : List (List Int)) : D := ifK (listsErr l != 0) (.tup [.slc true 0 [], .int .i64 (listsErr l)]) (.tup [.slc false l.length (ints (ranksV l)), .int .i64 0])
/-- Are lists short? -/
def shGo : List (List Int) → Bool
  | [] => true
  | x :: r => ifK (decide ((x.length : Int) > 39)) false (shGo r)
def shortV (l : List (List Int)) : Bool := ifK (decide ((l.length : Int) > 8)) (ifK (decide ((l.length : Int) ≤ 200)) false (ifK (decide ((l.length : Int) > 203)) false (shGo l))) (ifK (decide ((l.length : Int) > 203)) false (shGo l))
theorem shGo_true : ∀ {l : List (List Int)}, shGo l = true → ∀ x ∈ l, x.length ≤ 39
  | [], _, x, hx => by cases hx
  | y :: r, h, x, hx => by
    unfold shGo at h
    cases h1 : decide ((y.length : Int) > 39) with
    | true => rw [h1, ifK_true] at h; cases h
    | false =>
      rw [h1, ifK_false] at h
      simp only [decide_eq_false_iff_not] at h1
      rcases List.mem_cons.1 hx with rfl | hx
      · omega
      · exact shGo_true h x hx
theorem shortV_true {l : List (List Int)} (h : shortV l = true) : ∀ x ∈ l, x.length ≤ 39 := by
  unfold shortV at h
  have key : shGo l = true := by
    revert h
    cases decide ((l.length : Int) > 8) <;> cases decide ((l.length : Int) ≤ 200) <;> cases decide ((l.length : Int) > 203) <;> simp
  exact shGo_true key
theorem go46 {call : FuncId → List D → Option D} {f : Bool} {l : List (List Int)} (hl : l.length ≤ 203) : ∀ (r pre : List (List Int)) (fuel : Nat), l = pre ++ r → r.length < fuel →
    F46_58 call LL C1 fuel f l.length (rows l) l.length (pre.length : Int) = some (.bool (shGo r)) := by
  intro r
  induction r with
  | nil =>
    intro pre fuel hp hf
    cases fuel with
    | zero => exact absurd hf (Nat.not_lt_zero _)
    | succ fuel =>
      have h1 : decide ((pre.length : Int) < (l.length : Int)) = false := by rw [hp]; simp
      rw [F46_58_eq, h1, ifK_false]
      rfl
  | cons x r ih =>
    intro pre fuel hp hf
    cases fuel with
    | zero => exact absurd hf (Nat.not_lt_zero _)
    | succ fuel =>
      have hx : l[pre.length]? = some x := by rw [hp]; simp
      have hlen : l.length = pre.length + r.length + 1 := by rw [hp]; simp; omega
      have h1 : decide ((pre.length : Int) < (l.length : Int)) = true := by simp; omega
      have h2 : decide ((0 : Int) ≤ (pre.length : Int) ∧ (pre.length : Int) < (l.length : Int)) = true := by simp; omega
      have c1 : ∀ {γ : Type} (k : D → Option γ), cellK (rows l) (Int.toNat (pre.length : Int) * 1) k = k (.slc false x.length (ints x)) := fun k => cellK_some (by simp [rows, hx]) k
      have hw : IntKind.wrap .i64 ((pre.length : Int) + 1) = ((pre ++ [x]).length : Int) := by rw [wrap_id (by omega)]; simp
      have ih' := ih (pre ++ [x]) fuel (by rw [hp]; simp) (by simp at hf; omega)
      rw [F46_58_eq, h1, ifK_true, h2, chkK_true, c1, slcK_slc, hw, ih', show shGo (x :: r) = ifK (decide ((x.length : Int) > 39)) false (shGo r) from rfl]
      cases decide ((x.length : Int) > 39) <;> rfl
theorem ok46 {f : Bool} (l : List (List Int)) : OK5 46 [.slc f l.length (rows l)] (.bool (shortV l)) := by
  refine fnT none_ok Tryz.func46 (ord := O0) (N := N46) (by kernel_rfl) ((F46_eq _ _ _ _ _ _).trans ?_)
  have h7 : decide ((l.length : Int) > 203) = false → F46_7 (callOf fun _ _ => none) LL C1 f l.length (rows l) = some (.bool (shGo l)) := fun h => by
    simp only [decide_eq_false_iff_not] at h
    rw [F46_7_eq _ _ _ _ _ _ (fun _ => rfl : ∀ t, C1 t = 1)]
    exact go46 (f := f) (by omega) l [] LL rfl (by unfold LL; omega)
  unfold shortV
  cases h3 : decide ((l.length : Int) > 203) with
  | true => cases decide ((l.length : Int) > 8) <;> cases decide ((l.length : Int) ≤ 200) <;> rfl
  | false =>
    rw [h7 h3]
    cases decide ((l.length : Int) > 8) <;> cases decide ((l.length : Int) ≤ 200) <;> rfl
end Go.Pd
end

section
namespace Go.Pd
open Go Go.Proofs Go.RowKit

theorem go20i {call : FuncId → List D → Option D} {f g : Bool} : ∀ (r pre : List Int) (fuel : Nat), (pre ++ r).length ≤ 4611686018427387904 → r.length < fuel → F20_58 call LL C1 fuel f (pre ++ r).length (ints (pre ++ r)) g (pre ++ r).length (ints (pre ++ r)) (pre.length : Int) = some (.bool true)
  | [], pre, fuel + 1, _, _ => by rw [F20_58_eq, end_pre, ifK_false]
  | x :: r, pre, fuel + 1, hB, hf => by
    have ih := go20i (call := call) (f := f) (g := g) r (pre ++ [x]) fuel (by rw [app1]; exact hB) (by simp at hf; omega)
    rw [app1] at ih
    rw [F20_58_eq, lt_pre, ifK_true, in_pre, chkK_true, cell_ints, intK_int, chkK_true, cell_ints, intK_int, step_pre _ _ _ hB, ih, show (x != x) = false by simp, ifK_false]
theorem ok20i {f g : Bool} (l : List Int) (hl : l.length < 4611686018427387904) : OK5 20 [.slc f l.length (ints l), .slc g l.length (ints l)] (.bool true) := by
  refine fnT none_ok Tryz.func20 (ord := O0) (N := N20) (by kernel_rfl) ((F20_eq _ _ _ _ _ _ _ _ _).trans ?_)
  rw [show ((l.length : Int) != l.length) = false by simp, ifK_false]
  exact go20i (f := f) (g := g) l [] LL (by simp; omega) (by unfold LL; omega)
open Classical in
/-- What FormatTies calls. -/
noncomputable def b7 (l : List (List Int)) : FuncId → List D → Option D := fun k ds => match k, ds with
  | 16, [] => some (.bool true)
  | 46, ds => if ds = [.slc false l.length (rows l)] then some (.bool (shortV l)) else none
  | 50, ds => if ds = [.slc false l.length (rows l)] then some (.int .i64 (listsErr l)) else none
  | 48, ds => if ds = [.slc false l.length (rows l)] ∧ ∀ x ∈ l, x.length < 4611686018427387904 then some (ranksR l) else none
  | 47, [.slc _ n c, .slc _ m d] => (match unints c, unints d with
    | some a, some b => if a.length = n ∧ b.length = m ∧ n < 4611686018427387904 ∧ m < 4611686018427387904 then some (ifK (cbErr a b != 0) (.tup [.int .i64 0, .int .i64 (cbErr a b)]) (.tup [.int .i64 (cbV a b), .int .i64 0])) else none
    | _, _ => none)
  | 20, [.slc _ n c, .slc _ m d] => (match unints c with
    | some a => if a.length = n ∧ n = m ∧ c = d ∧ n < 4611686018427387904 then some (.bool true) else none
    | none => none)
  | 20, [.slc true 0 [], .nils] => some (.bool true)
  | k, ds => bT k ds
section
variable {l : List (List Int)}
theorem t16 : callOf (b7 l) 16 [] = some (.bool true) := rfl
theorem t46 : callOf (b7 l) 46 [.slc false l.length (rows l)] = some (.bool (shortV l)) := by
  show b7 l 46 [.slc false l.length (rows l)] = _
  unfold b7
  exact if_pos rfl
theorem t20 {f g : Bool} {a : List Int} {n : Nat} (hn : n = a.length) (ha : a.length < 4611686018427387904) : callOf (b7 l) 20 [.slc f n (ints a), .slc g n (ints a)] = some (.bool true) := by
  subst hn
  show b7 l 20 [.slc f a.length (ints a), .slc g a.length (ints a)] = _
  unfold b7
  simp only [unints_ints]
  rw [if_pos ⟨trivial, trivial, trivial, ha⟩]
theorem t20n : callOf (b7 l) 20 [.slc true 0 [], .nils] = some (.bool true) := rfl
theorem t24 (b : Bool) (e : Int) : callOf (b7 l) 24 [.bool b, .int .i64 e] = some (.int .i64 (ifK b e 0)) := rfl
theorem t22 (x y z : Int) : callOf (b7 l) 22 [.slc true 3 [.int .i64 x, .int .i64 y, .int .i64 z]] = some (.int .i64 (fst3 x y z)) := rfl
theorem t51 {f : Bool} {k : Nat} (hk : k ≤ 1000) (hs : sameLen k l) (hl : l.length ≤ 1000) (h0 : 0 < l.length) : callOf (b7 l) 51 [.slc f l.length (rows l)] = some (.slc false l.length (ints (ranksV l))) := at51 (f := f) hk hs hl h0
end
end Go.Pd
end
