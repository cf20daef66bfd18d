/-
  Chapter 5: what functions make of open arguments (printed by the desk's tool, each proved by the kernel): net strokes and states.
  Chapter 5: net strokes and states: their lists, checks, the match by the reference.
  Chapter 5: the match of two lists of net strokes, by the program and by the reference.
  Chapter 5: the reference's texts of small numbers, by the kernel.
  Chapter 5, FormatSides: Sides, the words of a state, the law.
  Chapter 5, FormatSides: the law.
-/
import Derived.Test.YtanpmgfaieekhaaGreatDoorFmA
import Derived.KernelRfl
import Derived.Test.YtanpmgfaieekhaaGreatDoorFmT
import Derived.Test.YtanpmgfaieekhaaGreatDoorFmB
import Derived.Test.YtanpmgfaieekhaaGreatDoorFmD
import Derived.Test.YtanpmgfaieekhaaGreatDoorFmE
section
namespace Go.Pd
open Go Go.Proofs
set_option maxRecDepth 100000
def N25 : NTab := fun p => match p with
  | 122 => some { keep := [0, 1, 5, 6, 7], kl := [], ren := [(54, 54)] }
  | 3913 => some { keep := [0, 1, 5, 6, 7], kl := [], ren := [(54, 54)] }
  | _ => none
noncomputable def F25_3913 (call : FuncId → List D → Option D) (L : Nat) (C : Nat → Nat) (n : Nat) (va_f : Bool) (va_n : Nat) (va_c : List D) (vb_f : Bool) (vb_n : Nat) (vb_c : List D) (vup : Int) (vi : Int) (vl_1 : Ow) : Option D :=
  cutAt (TEf call L C) O0 N25 FinM.canon Tryz.f25 [true, true, true, false, true, false, false, true, false, false, true] [n]  (C 3913) (St.mk [D.slc va_f va_n va_c, D.slc vb_f vb_n vb_c, J, J, J, ownD 54 vl_1, D.int IntKind.i64 vup, D.int IntKind.i64 vi, J, J, J, J, J, J, J, J, J, J, J, J, J, J, J, J, J, J, J, J, J, J, J, J, J, J, J, J, J, J, J, J, J, J, J, J, J, J, J, J, J, J, J, J, J, J, J, J, J, J, J, J] [Z, Z, Z, Z, Z, Z, Z, Z, Z, Z, Z, Z, Z, Z, Z, Z, Z, Z, Z, Z, Z, Z, Z, Z, Z, Z, Z, Z, Z, Z, Z, Z, Z, Z, Z, Z, Z, Z, Z, Z, Z, Z, Z, Z, Z, Z, Z, Z, Z, Z, Z, Z, Z, Z, ownO 102 3 vl_1, Z, Z, Z, Z, Z])
noncomputable def F25_122 (call : FuncId → List D → Option D) (L : Nat) (C : Nat → Nat) (n : Nat) (va_f : Bool) (va_n : Nat) (va_c : List D) (vb_f : Bool) (vb_n : Nat) (vb_c : List D) (vl : Ow) (vup : Int) (vi : Int) : Option D :=
  loopAt (TEf call L C) O0 N25 FinM.canon Tryz.f25 [true, true, true, false, true, false] []  n (St.mk [D.slc va_f va_n va_c, D.slc vb_f vb_n vb_c, J, J, J, ownD 54 vl, D.int IntKind.i64 vup, D.int IntKind.i64 vi, J, J, J, J, J, J, J, J, J, J, J, J, J, J, J, J, J, J, J, J, J, J, J, J, J, J, J, J, J, J, J, J, J, J, J, J, J, J, J, J, J, J, J, J, J, J, J, J, J, J, J, J] [Z, Z, Z, Z, Z, Z, Z, Z, Z, Z, Z, Z, Z, Z, Z, Z, Z, Z, Z, Z, Z, Z, Z, Z, Z, Z, Z, Z, Z, Z, Z, Z, Z, Z, Z, Z, Z, Z, Z, Z, Z, Z, Z, Z, Z, Z, Z, Z, Z, Z, Z, Z, Z, Z, ownO 102 3 vl, Z, Z, Z, Z, Z])
theorem F25_3913_eqn (call : FuncId → List D → Option D) (L : Nat) (C : Nat → Nat) (n : Nat) (va_f : Bool) (va_n : Nat) (va_c : List D) (vb_f : Bool) (vb_n : Nat) (vb_c : List D) (vup : Int) (vi : Int) (hC : ∀ t, C t = 1) : F25_3913 call L C n va_f va_n va_c vb_f vb_n vb_c vup vi (Ow.nil) =
  (chkK (decide (0 ≤ vi ∧ vi < (va_n : Int)))
    (cellK (va_c) (Int.toNat vi * 2 + 0) fun d_2 =>
    (intK IntKind.i64 (d_2) fun x =>
    (cellK (va_c) (Int.toNat vi * 2 + 1) fun d_3 =>
    (strK (d_3) fun s_2 =>
    (chkK (decide (0 ≤ vi ∧ vi < (vb_n : Int)))
      (cellK (vb_c) (Int.toNat vi * 2 + 0) fun d_4 =>
      (intK IntKind.i64 (d_4) fun x_1 =>
      (cellK (vb_c) (Int.toNat vi * 2 + 1) fun d_5 =>
      (strK (d_5) fun s_3 =>
      (optK (call 91 [D.agg [D.int IntKind.i64 x, D.str s_2], D.agg [D.int IntKind.i64 x_1, D.str s_3]]) fun r =>
        (intK IntKind.i64 (r) fun x_2 =>
        (optK (call 68 [D.int IntKind.i64 (IntKind.wrap IntKind.i64 (vup + x_2)), D.int IntKind.i64 (IntKind.wrap IntKind.i64 (IntKind.wrap IntKind.i64 ((va_n : Int) - vi) - 1))]) fun r_1 =>
          (boolK (r_1) fun b =>
          (optK (call 68 [D.int IntKind.i64 (IntKind.wrap IntKind.i64 (vup + x_2)), D.int IntKind.i64 (IntKind.wrap IntKind.i64 (IntKind.wrap IntKind.i64 ((va_n : Int) - vi) - 1))]) fun r_2 =>
            (boolK (r_2) fun b_1 =>
            (ifK (b_1)
              (some (D.slc false 1 [D.int IntKind.i64 (IntKind.wrap IntKind.i64 (vup + x_2)), D.int IntKind.i64 (IntKind.wrap IntKind.i64 (IntKind.wrap IntKind.i64 ((va_n : Int) - vi) - 1)), D.bool b]))
              (F25_122 call L C n va_f va_n va_c vb_f vb_n vb_c (Ow.own 1 [D.int IntKind.i64 (IntKind.wrap IntKind.i64 (vup + x_2)), D.int IntKind.i64 (IntKind.wrap IntKind.i64 (IntKind.wrap IntKind.i64 ((va_n : Int) - vi) - 1)), D.bool b]) (IntKind.wrap IntKind.i64 (vup + x_2)) (IntKind.wrap IntKind.i64 (vi + 1)))))))))))))))))))) := by
  unfold F25_3913
  rw [hC]
  kernel_rfl
theorem F25_3913_eqo (call : FuncId → List D → Option D) (L : Nat) (C : Nat → Nat) (n : Nat) (va_f : Bool) (va_n : Nat) (va_c : List D) (vb_f : Bool) (vb_n : Nat) (vb_c : List D) (vup : Int) (vi : Int) (vl_1_n : Nat) (vl_1_c : List D) (hC : ∀ t, C t = 1) : F25_3913 call L C n va_f va_n va_c vb_f vb_n vb_c vup vi (Ow.own vl_1_n vl_1_c) =
  (chkK (decide (0 ≤ vi ∧ vi < (va_n : Int)))
    (cellK (va_c) (Int.toNat vi * 2 + 0) fun d_6 =>
    (intK IntKind.i64 (d_6) fun x_3 =>
    (cellK (va_c) (Int.toNat vi * 2 + 1) fun d_7 =>
    (strK (d_7) fun s_4 =>
    (chkK (decide (0 ≤ vi ∧ vi < (vb_n : Int)))
      (cellK (vb_c) (Int.toNat vi * 2 + 0) fun d_8 =>
      (intK IntKind.i64 (d_8) fun x_4 =>
      (cellK (vb_c) (Int.toNat vi * 2 + 1) fun d_9 =>
      (strK (d_9) fun s_5 =>
      (optK (call 91 [D.agg [D.int IntKind.i64 x_3, D.str s_4], D.agg [D.int IntKind.i64 x_4, D.str s_5]]) fun r_3 =>
        (intK IntKind.i64 (r_3) fun x_5 =>
        (optK (call 68 [D.int IntKind.i64 (IntKind.wrap IntKind.i64 (vup + x_5)), D.int IntKind.i64 (IntKind.wrap IntKind.i64 (IntKind.wrap IntKind.i64 ((va_n : Int) - vi) - 1))]) fun r_4 =>
          (boolK (r_4) fun b_2 =>
          (chkK (decide ((vl_1_n + 1) * 24 ≤ limit ∧ vl_1_n + 1 ≤ 9223372036854775807))
            (optK (call 68 [D.int IntKind.i64 (IntKind.wrap IntKind.i64 (vup + x_5)), D.int IntKind.i64 (IntKind.wrap IntKind.i64 (IntKind.wrap IntKind.i64 ((va_n : Int) - vi) - 1))]) fun r_5 =>
              (boolK (r_5) fun b_3 =>
              (ifK (b_3)
                (some (D.slc false (vl_1_n + 1) (vl_1_c ++ [D.int IntKind.i64 (IntKind.wrap IntKind.i64 (vup + x_5)), D.int IntKind.i64 (IntKind.wrap IntKind.i64 (IntKind.wrap IntKind.i64 ((va_n : Int) - vi) - 1)), D.bool b_2])))
                (F25_122 call L C n va_f va_n va_c vb_f vb_n vb_c (Ow.own (vl_1_n + 1) (vl_1_c ++ [D.int IntKind.i64 (IntKind.wrap IntKind.i64 (vup + x_5)), D.int IntKind.i64 (IntKind.wrap IntKind.i64 (IntKind.wrap IntKind.i64 ((va_n : Int) - vi) - 1)), D.bool b_2])) (IntKind.wrap IntKind.i64 (vup + x_5)) (IntKind.wrap IntKind.i64 (vi + 1))))))))))))))))))))) := by
  unfold F25_3913
  rw [hC]
  kernel_rfl
theorem F25_122_eqn (call : FuncId → List D → Option D) (L : Nat) (C : Nat → Nat) (n : Nat) (va_f : Bool) (va_n : Nat) (va_c : List D) (vb_f : Bool) (vb_n : Nat) (vb_c : List D) (vup : Int) (vi : Int) : F25_122 call L C  (n + 1) va_f va_n va_c vb_f vb_n vb_c (Ow.nil) (vup) (vi) =
  (ifK (decide (vi < (va_n : Int)))
    (chkK (decide (0 ≤ vi ∧ vi < (va_n : Int)))
      (cellK (va_c) (Int.toNat vi * 2 + 1) fun d =>
      (strK (d) fun s =>
      (ifK (ByteArray.toList s == ByteArray.toList (ByteArray.mk #[45]))
        (some (D.slc true 0 []))
        (chkK (decide (0 ≤ vi ∧ vi < (vb_n : Int)))
          (cellK (vb_c) (Int.toNat vi * 2 + 1) fun d_1 =>
          (strK (d_1) fun s_1 =>
          (ifK (ByteArray.toList s_1 == ByteArray.toList (ByteArray.mk #[45]))
            (some (D.slc true 0 []))
            (F25_3913 call L C n va_f va_n va_c vb_f vb_n vb_c vup vi (Ow.nil))))))))))
    (some (D.slc true 0 []))) := by kernel_rfl
theorem F25_122_eqo (call : FuncId → List D → Option D) (L : Nat) (C : Nat → Nat) (n : Nat) (va_f : Bool) (va_n : Nat) (va_c : List D) (vb_f : Bool) (vb_n : Nat) (vb_c : List D) (vl_n : Nat) (vl_c : List D) (vup : Int) (vi : Int) : F25_122 call L C  (n + 1) va_f va_n va_c vb_f vb_n vb_c (Ow.own vl_n vl_c) (vup) (vi) =
  (ifK (decide (vi < (va_n : Int)))
    (chkK (decide (0 ≤ vi ∧ vi < (va_n : Int)))
      (cellK (va_c) (Int.toNat vi * 2 + 1) fun d_10 =>
      (strK (d_10) fun s_6 =>
      (ifK (ByteArray.toList s_6 == ByteArray.toList (ByteArray.mk #[45]))
        (some (D.slc false vl_n vl_c))
        (chkK (decide (0 ≤ vi ∧ vi < (vb_n : Int)))
          (cellK (vb_c) (Int.toNat vi * 2 + 1) fun d_11 =>
          (strK (d_11) fun s_7 =>
          (ifK (ByteArray.toList s_7 == ByteArray.toList (ByteArray.mk #[45]))
            (some (D.slc false vl_n vl_c))
            (F25_3913 call L C n va_f va_n va_c vb_f vb_n vb_c vup vi (Ow.own vl_n vl_c))))))))))
    (some (D.slc false vl_n vl_c))) := by kernel_rfl
theorem F25_eq (call : FuncId → List D → Option D) (L : Nat) (C : Nat → Nat) (va_f : Bool) (va_n : Nat) (va_c : List D) (vb_f : Bool) (vb_n : Nat) (vb_c : List D) : evFnT (TEf call L C) O0 N25 FinM.canon Tryz.f25 [D.slc va_f va_n va_c, D.slc vb_f vb_n vb_c] =
  (F25_122 call L C L va_f va_n va_c vb_f vb_n vb_c (Ow.nil) (0) (0)) := by kernel_rfl

def N27 : NTab := fun p => match p with
  | 58 => some { keep := [0, 1, 5], kl := [], ren := [] }
  | _ => none
noncomputable def F27_58 (call : FuncId → List D → Option D) (L : Nat) (C : Nat → Nat) (n : Nat) (va_f : Bool) (va_n : Nat) (va_c : List D) (vb_f : Bool) (vb_n : Nat) (vb_c : List D) (vi : Int) : Option D :=
  loopAt (TEf call L C) O0 N27 FinM.canon Tryz.f27 [true, true, false, true, false] []  n (St.mk [D.slc va_f va_n va_c, D.slc vb_f vb_n vb_c, J, J, J, D.int IntKind.i64 vi, J, J, J, J, J, J, J, J, J, J, J, J, J, J, J, J, J, J, J, J] [Z, Z, Z, Z, Z, Z, Z, Z, Z, Z, Z, Z, Z, Z, Z, Z, Z, Z, Z, Z, Z, Z, Z, Z, Z, Z])
theorem F27_58_eq (call : FuncId → List D → Option D) (L : Nat) (C : Nat → Nat) (n : Nat) (va_f : Bool) (va_n : Nat) (va_c : List D) (vb_f : Bool) (vb_n : Nat) (vb_c : List D) (vi : Int) : F27_58 call L C  (n + 1) va_f va_n va_c vb_f vb_n vb_c (vi) =
  (ifK (decide (vi < (va_n : Int)))
    (chkK (decide (0 ≤ vi ∧ vi < (va_n : Int)))
      (cellK (va_c) (Int.toNat vi * 3 + 0) fun d =>
      (intK IntKind.i64 (d) fun x =>
      (cellK (va_c) (Int.toNat vi * 3 + 1) fun d_1 =>
      (intK IntKind.i64 (d_1) fun x_1 =>
      (cellK (va_c) (Int.toNat vi * 3 + 2) fun d_2 =>
      (boolK (d_2) fun b =>
      (chkK (decide (0 ≤ vi ∧ vi < (vb_n : Int)))
        (cellK (vb_c) (Int.toNat vi * 3 + 0) fun d_3 =>
        (intK IntKind.i64 (d_3) fun x_2 =>
        (cellK (vb_c) (Int.toNat vi * 3 + 1) fun d_4 =>
        (intK IntKind.i64 (d_4) fun x_3 =>
        (cellK (vb_c) (Int.toNat vi * 3 + 2) fun d_5 =>
        (boolK (d_5) fun b_1 =>
        (ifK (!(x == x_2 && (x_1 == x_3 && (b == b_1 && true))))
          (some (D.bool false))
          (F27_58 call L C n va_f va_n va_c vb_f vb_n vb_c (IntKind.wrap IntKind.i64 (vi + 1))))))))))))))))))
    (some (D.bool true))) := by kernel_rfl
theorem F27_eq (call : FuncId → List D → Option D) (L : Nat) (C : Nat → Nat) (va_f : Bool) (va_n : Nat) (va_c : List D) (vb_f : Bool) (vb_n : Nat) (vb_c : List D) : evFnT (TEf call L C) O0 N27 FinM.canon Tryz.f27 [D.slc va_f va_n va_c, D.slc vb_f vb_n vb_c] =
  (ifK ((va_n : Int) != (vb_n : Int))
    (some (D.bool false))
    (F27_58 call L C L va_f va_n va_c vb_f vb_n vb_c (0))) := by kernel_rfl

def N28 : NTab := fun p => match p with
  | 58 => some { keep := [3, 6, 7, 8], kl := [5], ren := [(5, 5), (15, 15)] }
  | _ => none
noncomputable def F28_58 (call : FuncId → List D → Option D) (L : Nat) (C : Nat → Nat) (n : Nat) (vl_f : Bool) (vl_n : Nat) (vl_c : List D) (vout : Ow) (t7 : Int) (t8 : Int) : Option D :=
  loopAt (TEf call L C) O0 N28 FinM.canon Tryz.f28 [true, true, false, true, false] []  n (St.mk [J, J, J, ownD 15 vout, J, J, D.slc vl_f vl_n vl_c, D.int IntKind.i64 t7, D.int IntKind.i64 t8, J, J, J, J, J, J, J, J, J] [Z, Z, Z, Z, Z, Z, Z, Z, Z, Z, Z, Z, Z, Z, Z, ownO 102 3 vout, Z, Z])
theorem F28_58_eqn (call : FuncId → List D → Option D) (L : Nat) (C : Nat → Nat) (n : Nat) (vl_f : Bool) (vl_n : Nat) (vl_c : List D) (t7 : Int) (t8 : Int) : F28_58 call L C  (n + 1) vl_f vl_n vl_c (Ow.nil) (t7) (t8) =
  (ifK (decide (t8 < t7))
    (chkK (decide (0 ≤ t8 ∧ t8 < (vl_n : Int)))
      (cellK (vl_c) (Int.toNat t8 * 3 + 0) fun d =>
      (intK IntKind.i64 (d) fun x =>
      (cellK (vl_c) (Int.toNat t8 * 3 + 1) fun d_1 =>
      (intK IntKind.i64 (d_1) fun x_1 =>
      (cellK (vl_c) (Int.toNat t8 * 3 + 2) fun d_2 =>
      (boolK (d_2) fun b =>
      (F28_58 call L C n vl_f vl_n vl_c (Ow.own 1 [D.int IntKind.i64 x, D.int IntKind.i64 x_1, D.bool b]) (t7) (IntKind.wrap IntKind.i64 (t8 + 1))))))))))
    (some (D.slc true 0 []))) := by kernel_rfl
theorem F28_58_eqo (call : FuncId → List D → Option D) (L : Nat) (C : Nat → Nat) (n : Nat) (vl_f : Bool) (vl_n : Nat) (vl_c : List D) (vout_n : Nat) (vout_c : List D) (t7 : Int) (t8 : Int) : F28_58 call L C  (n + 1) vl_f vl_n vl_c (Ow.own vout_n vout_c) (t7) (t8) =
  (ifK (decide (t8 < t7))
    (chkK (decide (0 ≤ t8 ∧ t8 < (vl_n : Int)))
      (cellK (vl_c) (Int.toNat t8 * 3 + 0) fun d_3 =>
      (intK IntKind.i64 (d_3) fun x_2 =>
      (cellK (vl_c) (Int.toNat t8 * 3 + 1) fun d_4 =>
      (intK IntKind.i64 (d_4) fun x_3 =>
      (cellK (vl_c) (Int.toNat t8 * 3 + 2) fun d_5 =>
      (boolK (d_5) fun b_1 =>
      (chkK (decide ((vout_n + 1) * 24 ≤ limit ∧ vout_n + 1 ≤ 9223372036854775807))
        (F28_58 call L C n vl_f vl_n vl_c (Ow.own (vout_n + 1) (vout_c ++ [D.int IntKind.i64 x_2, D.int IntKind.i64 x_3, D.bool b_1])) (t7) (IntKind.wrap IntKind.i64 (t8 + 1)))))))))))
    (some (D.slc false vout_n vout_c))) := by kernel_rfl
theorem F28_eq (call : FuncId → List D → Option D) (L : Nat) (C : Nat → Nat) (vl_f : Bool) (vl_n : Nat) (vl_c : List D) : evFnT (TEf call L C) O0 N28 FinM.canon Tryz.f28 [D.slc vl_f vl_n vl_c] =
  (F28_58 call L C L vl_f vl_n vl_c (Ow.nil) ((vl_n : Int)) (0)) := by kernel_rfl

def N42 : NTab := fun p => match p with
  | 58 => some { keep := [0, 1, 5], kl := [], ren := [] }
  | _ => none
noncomputable def F42_58 (call : FuncId → List D → Option D) (L : Nat) (C : Nat → Nat) (n : Nat) (va_f : Bool) (va_n : Nat) (va_c : List D) (vb_f : Bool) (vb_n : Nat) (vb_c : List D) (vi : Int) : Option D :=
  loopAt (TEf call L C) O0 N42 FinM.canon Tryz.f42 [true, true, false, true, false] []  n (St.mk [D.slc va_f va_n va_c, D.slc vb_f vb_n vb_c, J, J, J, D.int IntKind.i64 vi, J, J, J, J, J, J, J, J, J, J, J, J, J, J, J, J, J, J, J, J] [Z, Z, Z, Z, Z, Z, Z, Z, Z, Z, Z, Z, Z, Z, Z, Z, Z, Z, Z, Z, Z, Z, Z, Z, Z, Z])
theorem F42_58_eq (call : FuncId → List D → Option D) (L : Nat) (C : Nat → Nat) (n : Nat) (va_f : Bool) (va_n : Nat) (va_c : List D) (vb_f : Bool) (vb_n : Nat) (vb_c : List D) (vi : Int) : F42_58 call L C  (n + 1) va_f va_n va_c vb_f vb_n vb_c (vi) =
  (ifK (decide (vi < (va_n : Int)))
    (chkK (decide (0 ≤ vi ∧ vi < (va_n : Int)))
      (cellK (va_c) (Int.toNat vi * 2 + 0) fun d =>
      (intK IntKind.i64 (d) fun x =>
      (cellK (va_c) (Int.toNat vi * 2 + 1) fun d_1 =>
      (strK (d_1) fun s =>
      (chkK (decide (0 ≤ vi ∧ vi < (vb_n : Int)))
        (cellK (vb_c) (Int.toNat vi * 2 + 0) fun d_2 =>
        (intK IntKind.i64 (d_2) fun x_1 =>
        (cellK (vb_c) (Int.toNat vi * 2 + 1) fun d_3 =>
        (strK (d_3) fun s_1 =>
        (ifK (!(x == x_1 && (ByteArray.toList s == ByteArray.toList s_1 && true)))
          (some (D.bool false))
          (F42_58 call L C n va_f va_n va_c vb_f vb_n vb_c (IntKind.wrap IntKind.i64 (vi + 1))))))))))))))
    (some (D.bool true))) := by kernel_rfl
theorem F42_eq (call : FuncId → List D → Option D) (L : Nat) (C : Nat → Nat) (va_f : Bool) (va_n : Nat) (va_c : List D) (vb_f : Bool) (vb_n : Nat) (vb_c : List D) : evFnT (TEf call L C) O0 N42 FinM.canon Tryz.f42 [D.slc va_f va_n va_c, D.slc vb_f vb_n vb_c] =
  (ifK ((va_n : Int) != (vb_n : Int))
    (some (D.bool false))
    (F42_58 call L C L va_f va_n va_c vb_f vb_n vb_c (0))) := by kernel_rfl

def N43 : NTab := fun p => match p with
  | 58 => some { keep := [3, 6, 7, 8], kl := [5], ren := [(5, 5), (15, 15)] }
  | _ => none
noncomputable def F43_58 (call : FuncId → List D → Option D) (L : Nat) (C : Nat → Nat) (n : Nat) (vl_f : Bool) (vl_n : Nat) (vl_c : List D) (vout : Ow) (t7 : Int) (t8 : Int) : Option D :=
  loopAt (TEf call L C) O0 N43 FinM.canon Tryz.f43 [true, true, false, true, false] []  n (St.mk [J, J, J, ownD 15 vout, J, J, D.slc vl_f vl_n vl_c, D.int IntKind.i64 t7, D.int IntKind.i64 t8, J, J, J, J, J, J, J, J, J] [Z, Z, Z, Z, Z, Z, Z, Z, Z, Z, Z, Z, Z, Z, Z, ownO 137 2 vout, Z, Z])
theorem F43_58_eqn (call : FuncId → List D → Option D) (L : Nat) (C : Nat → Nat) (n : Nat) (vl_f : Bool) (vl_n : Nat) (vl_c : List D) (t7 : Int) (t8 : Int) : F43_58 call L C  (n + 1) vl_f vl_n vl_c (Ow.nil) (t7) (t8) =
  (ifK (decide (t8 < t7))
    (chkK (decide (0 ≤ t8 ∧ t8 < (vl_n : Int)))
      (cellK (vl_c) (Int.toNat t8 * 2 + 0) fun d =>
      (intK IntKind.i64 (d) fun x =>
      (cellK (vl_c) (Int.toNat t8 * 2 + 1) fun d_1 =>
      (strK (d_1) fun s =>
      (F43_58 call L C n vl_f vl_n vl_c (Ow.own 1 [D.int IntKind.i64 x, D.str s]) (t7) (IntKind.wrap IntKind.i64 (t8 + 1))))))))
    (some (D.slc true 0 []))) := by kernel_rfl
theorem F43_58_eqo (call : FuncId → List D → Option D) (L : Nat) (C : Nat → Nat) (n : Nat) (vl_f : Bool) (vl_n : Nat) (vl_c : List D) (vout_n : Nat) (vout_c : List D) (t7 : Int) (t8 : Int) : F43_58 call L C  (n + 1) vl_f vl_n vl_c (Ow.own vout_n vout_c) (t7) (t8) =
  (ifK (decide (t8 < t7))
    (chkK (decide (0 ≤ t8 ∧ t8 < (vl_n : Int)))
      (cellK (vl_c) (Int.toNat t8 * 2 + 0) fun d_2 =>
      (intK IntKind.i64 (d_2) fun x_1 =>
      (cellK (vl_c) (Int.toNat t8 * 2 + 1) fun d_3 =>
      (strK (d_3) fun s_1 =>
      (chkK (decide ((vout_n + 1) * 24 ≤ limit ∧ vout_n + 1 ≤ 9223372036854775807))
        (F43_58 call L C n vl_f vl_n vl_c (Ow.own (vout_n + 1) (vout_c ++ [D.int IntKind.i64 x_1, D.str s_1])) (t7) (IntKind.wrap IntKind.i64 (t8 + 1)))))))))
    (some (D.slc false vout_n vout_c))) := by kernel_rfl
theorem F43_eq (call : FuncId → List D → Option D) (L : Nat) (C : Nat → Nat) (vl_f : Bool) (vl_n : Nat) (vl_c : List D) : evFnT (TEf call L C) O0 N43 FinM.canon Tryz.f43 [D.slc vl_f vl_n vl_c] =
  (F43_58 call L C L vl_f vl_n vl_c (Ow.nil) ((vl_n : Int)) (0)) := by kernel_rfl

def N62 : NTab := fun p => match p with
  | 26 => some { keep := [0, 5, 6, 7], kl := [4], ren := [(4, 4)] }
  | _ => none
noncomputable def F62_26 (call : FuncId → List D → Option D) (L : Nat) (C : Nat → Nat) (n : Nat) (vl_f : Bool) (vl_n : Nat) (vl_c : List D) (t6 : Int) (t7 : Int) : Option D :=
  loopAt (TEf call L C) O0 N62 FinM.canon Tryz.f62 [true, false, true, false] []  n (St.mk [D.slc vl_f vl_n vl_c, J, J, J, J, D.slc vl_f vl_n vl_c, D.int IntKind.i64 t6, D.int IntKind.i64 t7, J, J, J, J, J, J, J, J, J, J, J] [Z, Z, Z, Z, Z, Z, Z, Z, Z, Z, Z, Z, Z, Z, Z, Z, Z, Z, Z])
theorem F62_26_eq (call : FuncId → List D → Option D) (L : Nat) (C : Nat → Nat) (n : Nat) (vl_f : Bool) (vl_n : Nat) (vl_c : List D) (t6 : Int) (t7 : Int) : F62_26 call L C  (n + 1) vl_f vl_n vl_c (t6) (t7) =
  (ifK (decide (t7 < t6))
    (chkK (decide (0 ≤ t7 ∧ t7 < (vl_n : Int)))
      (cellK (vl_c) (Int.toNat t7 * 2 + 0) fun d =>
      (intK IntKind.i64 (d) fun _x =>
      (cellK (vl_c) (Int.toNat t7 * 2 + 1) fun d_1 =>
      (strK (d_1) fun s =>
      (ifK (decide (((ByteArray.size s) : Int) > 60))
        (some (D.bool false))
        (F62_26 call L C n vl_f vl_n vl_c (t6) (IntKind.wrap IntKind.i64 (t7 + 1)))))))))
    (some (D.bool (decide ((vl_n : Int) ≤ 39))))) := by kernel_rfl
theorem F62_eq (call : FuncId → List D → Option D) (L : Nat) (C : Nat → Nat) (vl_f : Bool) (vl_n : Nat) (vl_c : List D) : evFnT (TEf call L C) O0 N62 FinM.canon Tryz.f62 [D.slc vl_f vl_n vl_c] =
  (F62_26 call L C L vl_f vl_n vl_c ((vl_n : Int)) (0)) := by kernel_rfl

theorem F63_eq (call : FuncId → List D → Option D) (L : Nat) (C : Nat → Nat) (va_f : Bool) (va_n : Nat) (va_c : List D) (vb_f : Bool) (vb_n : Nat) (vb_c : List D) : evFnT (TEf call L C) O0 N0 FinM.canon Tryz.f63 [D.slc va_f va_n va_c, D.slc vb_f vb_n vb_c] =
  (optK (call 115 [D.slc va_f va_n va_c]) fun r =>
    (intK IntKind.i64 (r) fun x =>
    (optK (call 115 [D.slc vb_f vb_n vb_c]) fun r_1 =>
      (intK IntKind.i64 (r_1) fun x_1 =>
      (optK (call 83 [D.bool ((va_n : Int) != (vb_n : Int)), D.int IntKind.i64 2]) fun r_2 =>
        (intK IntKind.i64 (r_2) fun x_2 =>
        (optK (call 81 [D.slc true 3 [D.int IntKind.i64 x, D.int IntKind.i64 x_1, D.int IntKind.i64 x_2]]) fun r_3 =>
          (intK IntKind.i64 (r_3) fun x_3 =>
          (ifK (x_3 != 0)
            (some (D.tup [D.slc true 0 [], D.int IntKind.i64 x_3]))
            (optK (call 88 [D.slc va_f va_n va_c, D.slc vb_f vb_n vb_c]) fun r_4 =>
              (slcK (r_4) fun f n c =>
              (some (D.tup [D.slc f n c, D.int IntKind.i64 0]))))))))))))) := by kernel_rfl

def N64 : NTab := fun p => match p with
  | 7 => some { keep := [1], kl := [], ren := [(1, 1)] }
  | 63 => some { keep := [1, 5], kl := [], ren := [(1, 1)] }
  | _ => none
noncomputable def F64_63 (call : FuncId → List D → Option D) (L : Nat) (C : Nat → Nat) (vs0 : Int) (vs1 : Int) (vs2 : Bool) (vside : ByteArray) : Option D :=
  cutAt (TEf call L C) O0 N64 FinM.canon Tryz.f64 [true, true, true, true, true] []  (C 63) (St.mk [J, D.loc 1 0 0, J, J, J, D.str vside, J, J, J, J, J, J, J, J, J, J, J, J, J, J, J, J, J, J, J, J, J, J, J, J, J, J, J, J, J, J, J, J, J, J, J, J, J, J, J, J, J, J, J, J, J, J, J, J, J, J, J, J, J, J, J, J, J, J] [Z, (1, some (Ob.box [D.int IntKind.i64 vs0, D.int IntKind.i64 vs1, D.bool vs2] false)), Z, Z, Z, Z, Z, Z, Z, Z, Z, Z, Z, Z, Z, Z, Z, Z, Z, Z, Z, Z, Z, Z, Z, Z, Z, Z, Z, Z, Z, Z, Z, Z, Z, Z, Z, Z, Z, Z, Z, Z, Z, Z, Z, Z, Z, Z, Z, Z, Z, Z, Z, Z, Z, Z, Z, Z, Z, Z, Z, Z, Z, Z])
noncomputable def F64_7 (call : FuncId → List D → Option D) (L : Nat) (C : Nat → Nat) (vs0 : Int) (vs1 : Int) (vs2 : Bool) : Option D :=
  cutAt (TEf call L C) O0 N64 FinM.canon Tryz.f64 [true, true] []  (C 7) (St.mk [J, D.loc 1 0 0, J, J, J, J, J, J, J, J, J, J, J, J, J, J, J, J, J, J, J, J, J, J, J, J, J, J, J, J, J, J, J, J, J, J, J, J, J, J, J, J, J, J, J, J, J, J, J, J, J, J, J, J, J, J, J, J, J, J, J, J, J, J] [Z, (1, some (Ob.box [D.int IntKind.i64 vs0, D.int IntKind.i64 vs1, D.bool vs2] false)), Z, Z, Z, Z, Z, Z, Z, Z, Z, Z, Z, Z, Z, Z, Z, Z, Z, Z, Z, Z, Z, Z, Z, Z, Z, Z, Z, Z, Z, Z, Z, Z, Z, Z, Z, Z, Z, Z, Z, Z, Z, Z, Z, Z, Z, Z, Z, Z, Z, Z, Z, Z, Z, Z, Z, Z, Z, Z, Z, Z, Z, Z])
theorem F64_63_eq (call : FuncId → List D → Option D) (L : Nat) (C : Nat → Nat) (vs0 : Int) (vs1 : Int) (vs2 : Bool) (vside : ByteArray) (hC : ∀ t, C t = 1) : F64_63 call L C  vs0 vs1 vs2 (vside) =
  (chkK (!decide (((ByteArray.size vside + 1) : Int) > 9223372036854775807))
    (optK (call 117 [D.int IntKind.i64 (if IntKind.wrap IntKind.i64 (0 - vs0) > vs0 then IntKind.wrap IntKind.i64 (0 - vs0) else vs0)]) fun r_5 =>
      (strK (r_5) fun s =>
      (chkK (!decide (((ByteArray.size (vside ++ ByteArray.mk #[32]) + ByteArray.size s) : Int) > 9223372036854775807))
        (ifK (vs1 == 0)
          (chkK (!decide (((ByteArray.size (vside ++ ByteArray.mk #[32] ++ s) + 3) : Int) > 9223372036854775807))
            (some (D.tup [D.str (vside ++ ByteArray.mk #[32] ++ s ++ ByteArray.mk #[32, 117, 112]), D.int IntKind.i64 0])))
          (chkK (!decide (((ByteArray.size (vside ++ ByteArray.mk #[32] ++ s) + 5) : Int) > 9223372036854775807))
            (optK (call 117 [D.int IntKind.i64 vs1]) fun r_6 =>
              (strK (r_6) fun s_1 =>
              (chkK (!decide (((ByteArray.size (vside ++ ByteArray.mk #[32] ++ s ++ ByteArray.mk #[32, 97, 110, 100, 32]) + ByteArray.size s_1) : Int) > 9223372036854775807))
                (some (D.tup [D.str (vside ++ ByteArray.mk #[32] ++ s ++ ByteArray.mk #[32, 97, 110, 100, 32] ++ s_1), D.int IntKind.i64 0]))))))))))) := by
  unfold F64_63
  rw [hC]
  kernel_rfl
theorem F64_7_eq (call : FuncId → List D → Option D) (L : Nat) (C : Nat → Nat) (vs0 : Int) (vs1 : Int) (vs2 : Bool) (hC : ∀ t, C t = 1) : F64_7 call L C  vs0 vs1 vs2  =
  (ifK (vs0 == 0)
    (some (D.tup [D.str (ByteArray.mk #[104, 97, 108, 118, 101, 100]), D.int IntKind.i64 0]))
    (ifK (decide (vs0 < 0))
      (F64_63 call L C vs0 vs1 vs2 (ByteArray.mk #[115, 101, 99, 111, 110, 100]))
      (F64_63 call L C vs0 vs1 vs2 (ByteArray.mk #[102, 105, 114, 115, 116])))) := by
  unfold F64_7
  rw [hC]
  kernel_rfl
theorem F64_eq (call : FuncId → List D → Option D) (L : Nat) (C : Nat → Nat) (vs0 : Int) (vs1 : Int) (vs2 : Bool) : evFnT (TEf call L C) O0 N64 FinM.canon Tryz.f64 [D.agg [D.int IntKind.i64 vs0, D.int IntKind.i64 vs1, D.bool vs2]] =
  (ifK (decide (vs1 < 0))
    (optK (call 83 [D.bool true, D.int IntKind.i64 3]) fun r =>
      (intK IntKind.i64 (r) fun x =>
      (optK (call 116 [D.int IntKind.i64 vs0, D.int IntKind.i64 vs1]) fun r_1 =>
        (boolK (r_1) fun b =>
        (optK (call 83 [D.bool !b, D.int IntKind.i64 19]) fun r_2 =>
          (intK IntKind.i64 (r_2) fun x_1 =>
          (optK (call 83 [D.bool !vs2, D.int IntKind.i64 1]) fun r_3 =>
            (intK IntKind.i64 (r_3) fun x_2 =>
            (optK (call 81 [D.slc true 3 [D.int IntKind.i64 x, D.int IntKind.i64 x_1, D.int IntKind.i64 x_2]]) fun r_4 =>
              (intK IntKind.i64 (r_4) fun x_3 =>
              (ifK (x_3 != 0)
                (some (D.tup [D.str (ByteArray.mk #[]), D.int IntKind.i64 x_3]))
                (F64_7 call L C vs0 vs1 vs2))))))))))))
    (ifK (decide (vs1 > 36))
      (optK (call 83 [D.bool true, D.int IntKind.i64 3]) fun r_7 =>
        (intK IntKind.i64 (r_7) fun x_4 =>
        (optK (call 116 [D.int IntKind.i64 vs0, D.int IntKind.i64 vs1]) fun r_8 =>
          (boolK (r_8) fun b_1 =>
          (optK (call 83 [D.bool !b_1, D.int IntKind.i64 19]) fun r_9 =>
            (intK IntKind.i64 (r_9) fun x_5 =>
            (optK (call 83 [D.bool !vs2, D.int IntKind.i64 1]) fun r_10 =>
              (intK IntKind.i64 (r_10) fun x_6 =>
              (optK (call 81 [D.slc true 3 [D.int IntKind.i64 x_4, D.int IntKind.i64 x_5, D.int IntKind.i64 x_6]]) fun r_11 =>
                (intK IntKind.i64 (r_11) fun x_7 =>
                (ifK (x_7 != 0)
                  (some (D.tup [D.str (ByteArray.mk #[]), D.int IntKind.i64 x_7]))
                  (F64_7 call L C vs0 vs1 vs2))))))))))))
      (optK (call 84 [D.int IntKind.i64 vs0, D.int IntKind.i64 36]) fun r_12 =>
        (boolK (r_12) fun b_2 =>
        (optK (call 83 [D.bool b_2, D.int IntKind.i64 3]) fun r_13 =>
          (intK IntKind.i64 (r_13) fun x_8 =>
          (optK (call 116 [D.int IntKind.i64 vs0, D.int IntKind.i64 vs1]) fun r_14 =>
            (boolK (r_14) fun b_3 =>
            (optK (call 83 [D.bool !b_3, D.int IntKind.i64 19]) fun r_15 =>
              (intK IntKind.i64 (r_15) fun x_9 =>
              (optK (call 83 [D.bool !vs2, D.int IntKind.i64 1]) fun r_16 =>
                (intK IntKind.i64 (r_16) fun x_10 =>
                (optK (call 81 [D.slc true 3 [D.int IntKind.i64 x_8, D.int IntKind.i64 x_9, D.int IntKind.i64 x_10]]) fun r_17 =>
                  (intK IntKind.i64 (r_17) fun x_11 =>
                  (ifK (x_11 != 0)
                    (some (D.tup [D.str (ByteArray.mk #[]), D.int IntKind.i64 x_11]))
                    (F64_7 call L C vs0 vs1 vs2)))))))))))))))) := by kernel_rfl

def N65 : NTab := fun p => match p with
  | 122 => some { keep := [0, 3], kl := [], ren := [] }
  | 979 => some { keep := [0, 3], kl := [], ren := [] }
  | 3913 => some { keep := [0, 3], kl := [], ren := [] }
  | _ => none
noncomputable def F65_979 (call : FuncId → List D → Option D) (L : Nat) (C : Nat → Nat) (n : Nat) (vl_f : Bool) (vl_n : Nat) (vl_c : List D) (vi : Int) : Option D :=
  cutAt (TEf call L C) O0 N65 FinM.canon Tryz.f65 [true, true, true, false, true, false, false, true, true] [n]  (C 979) (St.mk [D.slc vl_f vl_n vl_c, J, J, D.int IntKind.i64 vi, J, J, J, J, J, J, J, J, J, J, J, J, J, J, J, J, J, J, J, J, J, J, J, J, J, J, J, J, J, J, J, J, J, J, J, J, J, J, J, J, J, J, J, J, J, J, J, J, J, J, J, J, J, J, J, J, J, J, J, J, J, J, J, J] [Z, Z, Z, Z, Z, Z, Z, Z, Z, Z, Z, Z, Z, Z, Z, Z, Z, Z, Z, Z, Z, Z, Z, Z, Z, Z, Z, Z, Z, Z, Z, Z, Z, Z, Z, Z, Z, Z, Z, Z, Z, Z, Z, Z, Z, Z, Z, Z, Z, Z, Z, Z, Z, Z, Z, Z, Z, Z, Z, Z, Z, Z, Z, Z, Z, Z, Z, Z])
noncomputable def F65_3913 (call : FuncId → List D → Option D) (L : Nat) (C : Nat → Nat) (n : Nat) (vl_f : Bool) (vl_n : Nat) (vl_c : List D) (vi : Int) : Option D :=
  cutAt (TEf call L C) O0 N65 FinM.canon Tryz.f65 [true, true, true, false, true, false, false, true, false, false, true] [n]  (C 3913) (St.mk [D.slc vl_f vl_n vl_c, J, J, D.int IntKind.i64 vi, J, J, J, J, J, J, J, J, J, J, J, J, J, J, J, J, J, J, J, J, J, J, J, J, J, J, J, J, J, J, J, J, J, J, J, J, J, J, J, J, J, J, J, J, J, J, J, J, J, J, J, J, J, J, J, J, J, J, J, J, J, J, J, J] [Z, Z, Z, Z, Z, Z, Z, Z, Z, Z, Z, Z, Z, Z, Z, Z, Z, Z, Z, Z, Z, Z, Z, Z, Z, Z, Z, Z, Z, Z, Z, Z, Z, Z, Z, Z, Z, Z, Z, Z, Z, Z, Z, Z, Z, Z, Z, Z, Z, Z, Z, Z, Z, Z, Z, Z, Z, Z, Z, Z, Z, Z, Z, Z, Z, Z, Z, Z])
noncomputable def F65_122 (call : FuncId → List D → Option D) (L : Nat) (C : Nat → Nat) (n : Nat) (vl_f : Bool) (vl_n : Nat) (vl_c : List D) (vi : Int) : Option D :=
  loopAt (TEf call L C) O0 N65 FinM.canon Tryz.f65 [true, true, true, false, true, false] []  n (St.mk [D.slc vl_f vl_n vl_c, J, J, D.int IntKind.i64 vi, J, J, J, J, J, J, J, J, J, J, J, J, J, J, J, J, J, J, J, J, J, J, J, J, J, J, J, J, J, J, J, J, J, J, J, J, J, J, J, J, J, J, J, J, J, J, J, J, J, J, J, J, J, J, J, J, J, J, J, J, J, J, J, J] [Z, Z, Z, Z, Z, Z, Z, Z, Z, Z, Z, Z, Z, Z, Z, Z, Z, Z, Z, Z, Z, Z, Z, Z, Z, Z, Z, Z, Z, Z, Z, Z, Z, Z, Z, Z, Z, Z, Z, Z, Z, Z, Z, Z, Z, Z, Z, Z, Z, Z, Z, Z, Z, Z, Z, Z, Z, Z, Z, Z, Z, Z, Z, Z, Z, Z, Z, Z])
theorem F65_979_eq (call : FuncId → List D → Option D) (L : Nat) (C : Nat → Nat) (n : Nat) (vl_f : Bool) (vl_n : Nat) (vl_c : List D) (vi : Int) (hC : ∀ t, C t = 1) : F65_979 call L C n vl_f vl_n vl_c vi  =
  (F65_122 call L C n vl_f vl_n vl_c (IntKind.wrap IntKind.i64 (vi + 1))) := by
  unfold F65_979
  rw [hC]
  kernel_rfl
theorem F65_3913_eq (call : FuncId → List D → Option D) (L : Nat) (C : Nat → Nat) (n : Nat) (vl_f : Bool) (vl_n : Nat) (vl_c : List D) (vi : Int) (hC : ∀ t, C t = 1) : F65_3913 call L C n vl_f vl_n vl_c vi  =
  (chkK (decide (0 ≤ vi ∧ vi < (vl_n : Int)))
    (cellK (vl_c) (Int.toNat vi * 2 + 0) fun d_3 =>
    (intK IntKind.i64 (d_3) fun x =>
    (ifK (decide (x < -999))
      (some (D.int IntKind.i64 3))
      (chkK (decide (0 ≤ vi ∧ vi < (vl_n : Int)))
        (cellK (vl_c) (Int.toNat vi * 2 + 0) fun d_4 =>
        (intK IntKind.i64 (d_4) fun x_1 =>
        (ifK (decide (x_1 > 999))
          (some (D.int IntKind.i64 3))
          (chkK (decide (0 ≤ vi ∧ vi < (vl_n : Int)))
            (cellK (vl_c) (Int.toNat vi * 2 + 1) fun d_5 =>
            (strK (d_5) fun s_3 =>
            (ifK (!ByteArray.toList s_3 == ByteArray.toList (ByteArray.mk #[]))
              (chkK (decide (0 ≤ vi ∧ vi < (vl_n : Int)))
                (cellK (vl_c) (Int.toNat vi * 2 + 0) fun d_6 =>
                (intK IntKind.i64 (d_6) fun x_2 =>
                (ifK (x_2 != 0)
                  (some (D.int IntKind.i64 3))
                  (F65_979 call L C n vl_f vl_n vl_c vi)))))
              (F65_979 call L C n vl_f vl_n vl_c vi))))))))))))) := by
  unfold F65_3913
  rw [hC]
  kernel_rfl
theorem F65_122_eq (call : FuncId → List D → Option D) (L : Nat) (C : Nat → Nat) (n : Nat) (vl_f : Bool) (vl_n : Nat) (vl_c : List D) (vi : Int) : F65_122 call L C  (n + 1) vl_f vl_n vl_c (vi) =
  (ifK (decide (vi < (vl_n : Int)))
    (chkK (decide (0 ≤ vi ∧ vi < (vl_n : Int)))
      (cellK (vl_c) (Int.toNat vi * 2 + 1) fun d =>
      (strK (d) fun s =>
      (ifK (!ByteArray.toList s == ByteArray.toList (ByteArray.mk #[]))
        (chkK (decide (0 ≤ vi ∧ vi < (vl_n : Int)))
          (cellK (vl_c) (Int.toNat vi * 2 + 1) fun d_1 =>
          (strK (d_1) fun s_1 =>
          (ifK (!ByteArray.toList s_1 == ByteArray.toList (ByteArray.mk #[120]))
            (chkK (decide (0 ≤ vi ∧ vi < (vl_n : Int)))
              (cellK (vl_c) (Int.toNat vi * 2 + 1) fun d_2 =>
              (strK (d_2) fun s_2 =>
              (ifK (!ByteArray.toList s_2 == ByteArray.toList (ByteArray.mk #[45]))
                (some (D.int IntKind.i64 13))
                (F65_3913 call L C n vl_f vl_n vl_c vi)))))
            (F65_3913 call L C n vl_f vl_n vl_c vi)))))
        (F65_3913 call L C n vl_f vl_n vl_c vi)))))
    (some (D.int IntKind.i64 0))) := by kernel_rfl
theorem F65_eq (call : FuncId → List D → Option D) (L : Nat) (C : Nat → Nat) (vl_f : Bool) (vl_n : Nat) (vl_c : List D) : evFnT (TEf call L C) O0 N65 FinM.canon Tryz.f65 [D.slc vl_f vl_n vl_c] =
  (ifK ((vl_n : Int) == 0)
    (some (D.int IntKind.i64 12))
    (ifK (decide ((vl_n : Int) > 36))
      (some (D.int IntKind.i64 5))
      (F65_122 call L C L vl_f vl_n vl_c (0)))) := by kernel_rfl

def N66 : NTab := fun p => match p with
  | 7 => some { keep := [1], kl := [], ren := [(1, 1)] }
  | _ => none
noncomputable def F66_7 (call : FuncId → List D → Option D) (L : Nat) (C : Nat → Nat) (vs0 : Int) (vs1 : Int) (vs2 : Bool) : Option D :=
  cutAt (TEf call L C) O0 N66 FinM.canon Tryz.f66 [true, true] []  (C 7) (St.mk [J, D.loc 1 0 0, J, J, J, J, J, J, J, J, J, J, J, J, J, J, J, J, J, J, J, J, J, J, J, J, J, J, J, J] [Z, (1, some (Ob.box [D.int IntKind.i64 vs0, D.int IntKind.i64 vs1, D.bool vs2] false)), Z, Z, Z, Z, Z, Z, Z, Z, Z, Z, Z, Z, Z, Z, Z, Z, Z, Z, Z, Z, Z, Z, Z, Z, Z, Z, Z, Z])
theorem F66_7_eq (call : FuncId → List D → Option D) (L : Nat) (C : Nat → Nat) (vs0 : Int) (vs1 : Int) (vs2 : Bool) (hC : ∀ t, C t = 1) : F66_7 call L C  vs0 vs1 vs2  =
  (optK (call 68 [D.int IntKind.i64 vs0, D.int IntKind.i64 vs1]) fun r =>
    (boolK (r) fun b =>
    (ifK (!b)
      (some (D.int IntKind.i64 19))
      (ifK (!vs2)
        (some (D.int IntKind.i64 1))
        (some (D.int IntKind.i64 0)))))) := by
  unfold F66_7
  rw [hC]
  kernel_rfl
theorem F66_eq (call : FuncId → List D → Option D) (L : Nat) (C : Nat → Nat) (vs0 : Int) (vs1 : Int) (vs2 : Bool) : evFnT (TEf call L C) O0 N66 FinM.canon Tryz.f66 [D.agg [D.int IntKind.i64 vs0, D.int IntKind.i64 vs1, D.bool vs2]] =
  (ifK (decide (vs1 < 0))
    (some (D.int IntKind.i64 3))
    (ifK (decide (vs1 > 36))
      (some (D.int IntKind.i64 3))
      (ifK (decide (vs0 < -36))
        (some (D.int IntKind.i64 3))
        (ifK (decide (vs0 > 36))
          (some (D.int IntKind.i64 3))
          (F66_7 call L C vs0 vs1 vs2))))) := by kernel_rfl

theorem F67_eq (call : FuncId → List D → Option D) (L : Nat) (C : Nat → Nat) (vs0 : Int) (vs1 : Int) (vs2 : Bool) : evFnT (TEf call L C) O0 N0 FinM.canon Tryz.f67 [D.agg [D.int IntKind.i64 vs0, D.int IntKind.i64 vs1, D.bool vs2]] =
  (ifK (vs0 == 0)
    (some (D.str (ByteArray.mk #[104, 97, 108, 118, 101, 100])))
    (ifK (decide (vs0 < 0))
      (optK (call 118 [D.int IntKind.i64 (if IntKind.wrap IntKind.i64 (0 - vs0) > vs0 then IntKind.wrap IntKind.i64 (0 - vs0) else vs0)]) fun r =>
        (strK (r) fun s =>
        (chkK (!decide (((7 + ByteArray.size s) : Int) > 9223372036854775807))
          (ifK (vs1 == 0)
            (chkK (!decide (((ByteArray.size (ByteArray.mk #[115, 101, 99, 111, 110, 100, 32] ++ s) + 3) : Int) > 9223372036854775807))
              (some (D.str (ByteArray.mk #[115, 101, 99, 111, 110, 100, 32] ++ s ++ ByteArray.mk #[32, 117, 112]))))
            (chkK (!decide (((ByteArray.size (ByteArray.mk #[115, 101, 99, 111, 110, 100, 32] ++ s) + 5) : Int) > 9223372036854775807))
              (optK (call 118 [D.int IntKind.i64 vs1]) fun r_1 =>
                (strK (r_1) fun s_1 =>
                (chkK (!decide (((ByteArray.size (ByteArray.mk #[115, 101, 99, 111, 110, 100, 32] ++ s ++ ByteArray.mk #[32, 97, 110, 100, 32]) + ByteArray.size s_1) : Int) > 9223372036854775807))
                  (some (D.str (ByteArray.mk #[115, 101, 99, 111, 110, 100, 32] ++ s ++ ByteArray.mk #[32, 97, 110, 100, 32] ++ s_1)))))))))))
      (optK (call 118 [D.int IntKind.i64 (if IntKind.wrap IntKind.i64 (0 - vs0) > vs0 then IntKind.wrap IntKind.i64 (0 - vs0) else vs0)]) fun r_2 =>
        (strK (r_2) fun s_2 =>
        (chkK (!decide (((6 + ByteArray.size s_2) : Int) > 9223372036854775807))
          (ifK (vs1 == 0)
            (chkK (!decide (((ByteArray.size (ByteArray.mk #[102, 105, 114, 115, 116, 32] ++ s_2) + 3) : Int) > 9223372036854775807))
              (some (D.str (ByteArray.mk #[102, 105, 114, 115, 116, 32] ++ s_2 ++ ByteArray.mk #[32, 117, 112]))))
            (chkK (!decide (((ByteArray.size (ByteArray.mk #[102, 105, 114, 115, 116, 32] ++ s_2) + 5) : Int) > 9223372036854775807))
              (optK (call 118 [D.int IntKind.i64 vs1]) fun r_3 =>
                (strK (r_3) fun s_3 =>
                (chkK (!decide (((ByteArray.size (ByteArray.mk #[102, 105, 114, 115, 116, 32] ++ s_2 ++ ByteArray.mk #[32, 97, 110, 100, 32]) + ByteArray.size s_3) : Int) > 9223372036854775807))
                  (some (D.str (ByteArray.mk #[102, 105, 114, 115, 116, 32] ++ s_2 ++ ByteArray.mk #[32, 97, 110, 100, 32] ++ s_3))))))))))))) := by kernel_rfl

theorem F68_eq (call : FuncId → List D → Option D) (L : Nat) (C : Nat → Nat) (vup : Int) (vto : Int) : evFnT (TEf call L C) O0 N0 FinM.canon Tryz.f68 [D.int IntKind.i64 vup, D.int IntKind.i64 vto] =
  (ifK (decide ((if IntKind.wrap IntKind.i64 (0 - vup) > vup then IntKind.wrap IntKind.i64 (0 - vup) else vup) > vto))
    (some (D.bool true))
    (some (D.bool (vto == 0)))) := by kernel_rfl

def N91 : NTab := fun p => match p with
  | 7 => some { keep := [2, 3], kl := [], ren := [(2, 2), (3, 3)] }
  | _ => none
noncomputable def F91_7 (call : FuncId → List D → Option D) (L : Nat) (C : Nat → Nat) (va0 : Int) (va1 : ByteArray) (vb0 : Int) (vb1 : ByteArray) : Option D :=
  cutAt (TEf call L C) O0 N91 FinM.canon Tryz.f91 [true, true] []  (C 7) (St.mk [J, J, D.loc 2 0 0, D.loc 3 0 0, J, J, J, J, J, J, J, J, J, J, J, J, J, J, J, J, J, J, J, J, J, J, J, J, J, J, J, J, J, J, J] [Z, Z, (1, some (Ob.box [D.int IntKind.i64 va0, D.str va1] false)), (1, some (Ob.box [D.int IntKind.i64 vb0, D.str vb1] false)), Z, Z, Z, Z, Z, Z, Z, Z, Z, Z, Z, Z, Z, Z, Z, Z, Z, Z, Z, Z, Z, Z, Z, Z, Z, Z, Z, Z, Z, Z, Z])
theorem F91_7_eq (call : FuncId → List D → Option D) (L : Nat) (C : Nat → Nat) (va0 : Int) (va1 : ByteArray) (vb0 : Int) (vb1 : ByteArray) (hC : ∀ t, C t = 1) : F91_7 call L C  va0 va1 vb0 vb1  =
  (ifK (ByteArray.toList vb1 == ByteArray.toList (ByteArray.mk #[]))
    (ifK (!ByteArray.toList va1 == ByteArray.toList (ByteArray.mk #[]))
      (some (D.int IntKind.i64 (-1)))
      (ifK (decide (vb0 < va0))
        (some (D.int IntKind.i64 (-1)))
        (some (D.int IntKind.i64 0))))
    (some (D.int IntKind.i64 0))) := by
  unfold F91_7
  rw [hC]
  kernel_rfl
theorem F91_eq (call : FuncId → List D → Option D) (L : Nat) (C : Nat → Nat) (va0 : Int) (va1 : ByteArray) (vb0 : Int) (vb1 : ByteArray) : evFnT (TEf call L C) O0 N91 FinM.canon Tryz.f91 [D.agg [D.int IntKind.i64 va0, D.str va1], D.agg [D.int IntKind.i64 vb0, D.str vb1]] =
  (ifK (ByteArray.toList va1 == ByteArray.toList (ByteArray.mk #[]))
    (ifK (!ByteArray.toList vb1 == ByteArray.toList (ByteArray.mk #[]))
      (some (D.int IntKind.i64 1))
      (ifK (decide (va0 < vb0))
        (some (D.int IntKind.i64 1))
        (F91_7 call L C va0 va1 vb0 vb1)))
    (F91_7 call L C va0 va1 vb0 vb1)) := by kernel_rfl

def N115 : NTab := fun p => match p with
  | 58 => some { keep := [21, 22, 23], kl := [5], ren := [(5, 5)] }
  | 7475 => some { keep := [5, 6, 21, 22, 23], kl := [], ren := [(5, 5)] }
  | 14951 => some { keep := [7, 21, 22, 23], kl := [5], ren := [(5, 5)] }
  | _ => none
noncomputable def F115_14951 (call : FuncId → List D → Option D) (L : Nat) (C : Nat → Nat) (n : Nat) (vl_f : Bool) (vl_n : Nat) (vl_c : List D) (t22 : Int) (t23 : Int) (ve : Int) : Option D :=
  cutAt (TEf call L C) O0 N115 FinM.canon Tryz.f115 [true, true, false, true, false, false, true, true, false, false, true, true, true] [n]  (C 14951) (St.mk [J, J, J, J, J, J, J, D.int IntKind.i64 ve, J, J, J, J, J, J, J, J, J, J, J, J, J, D.slc vl_f vl_n vl_c, D.int IntKind.i64 t22, D.int IntKind.i64 t23, J, J, J, J, J, J, J, J, J, J, J, J, J, J, J, J, J, J, J, J, J, J, J, J, J, J, J, J, J, J, J, J, J, J, J, J, J, J, J, J, J, J, J, J, J, J, J, J, J, J, J] [Z, Z, Z, Z, Z, Z, Z, Z, Z, Z, Z, Z, Z, Z, Z, Z, Z, Z, Z, Z, Z, Z, Z, Z, Z, Z, Z, Z, Z, Z, Z, Z, Z, Z, Z, Z, Z, Z, Z, Z, Z, Z, Z, Z, Z, Z, Z, Z, Z, Z, Z, Z, Z, Z, Z, Z, Z, Z, Z, Z, Z, Z, Z, Z, Z, Z, Z, Z, Z, Z, Z, Z, Z, Z, Z])
noncomputable def F115_7475 (call : FuncId → List D → Option D) (L : Nat) (C : Nat → Nat) (n : Nat) (vl_f : Bool) (vl_n : Nat) (vl_c : List D) (t22 : Int) (t23 : Int) (vknown : Bool) (vn : Int) (vn1 : ByteArray) : Option D :=
  cutAt (TEf call L C) O0 N115 FinM.canon Tryz.f115 [true, true, false, true, false, false, true, true, false, false, true, true] [n]  (C 7475) (St.mk [J, J, J, J, J, D.loc 5 0 0, D.bool vknown, J, J, J, J, J, J, J, J, J, J, J, J, J, J, D.slc vl_f vl_n vl_c, D.int IntKind.i64 t22, D.int IntKind.i64 t23, J, J, J, J, J, J, J, J, J, J, J, J, J, J, J, J, J, J, J, J, J, J, J, J, J, J, J, J, J, J, J, J, J, J, J, J, J, J, J, J, J, J, J, J, J, J, J, J, J, J, J] [Z, Z, Z, Z, Z, (1, some (Ob.box [D.int IntKind.i64 vn, D.str vn1] false)), Z, Z, Z, Z, Z, Z, Z, Z, Z, Z, Z, Z, Z, Z, Z, Z, Z, Z, Z, Z, Z, Z, Z, Z, Z, Z, Z, Z, Z, Z, Z, Z, Z, Z, Z, Z, Z, Z, Z, Z, Z, Z, Z, Z, Z, Z, Z, Z, Z, Z, Z, Z, Z, Z, Z, Z, Z, Z, Z, Z, Z, Z, Z, Z, Z, Z, Z, Z, Z])
noncomputable def F115_58 (call : FuncId → List D → Option D) (L : Nat) (C : Nat → Nat) (n : Nat) (vl_f : Bool) (vl_n : Nat) (vl_c : List D) (t22 : Int) (t23 : Int) : Option D :=
  loopAt (TEf call L C) O0 N115 FinM.canon Tryz.f115 [true, true, false, true, false] []  n (St.mk [J, J, J, J, J, J, J, J, J, J, J, J, J, J, J, J, J, J, J, J, J, D.slc vl_f vl_n vl_c, D.int IntKind.i64 t22, D.int IntKind.i64 t23, J, J, J, J, J, J, J, J, J, J, J, J, J, J, J, J, J, J, J, J, J, J, J, J, J, J, J, J, J, J, J, J, J, J, J, J, J, J, J, J, J, J, J, J, J, J, J, J, J, J, J] [Z, Z, Z, Z, Z, Z, Z, Z, Z, Z, Z, Z, Z, Z, Z, Z, Z, Z, Z, Z, Z, Z, Z, Z, Z, Z, Z, Z, Z, Z, Z, Z, Z, Z, Z, Z, Z, Z, Z, Z, Z, Z, Z, Z, Z, Z, Z, Z, Z, Z, Z, Z, Z, Z, Z, Z, Z, Z, Z, Z, Z, Z, Z, Z, Z, Z, Z, Z, Z, Z, Z, Z, Z, Z, Z])
theorem F115_14951_eq (call : FuncId → List D → Option D) (L : Nat) (C : Nat → Nat) (n : Nat) (vl_f : Bool) (vl_n : Nat) (vl_c : List D) (t22 : Int) (t23 : Int) (ve : Int) (hC : ∀ t, C t = 1) : F115_14951 call L C n vl_f vl_n vl_c t22 t23 (ve) =
  (ifK (ve != 0)
    (some (D.int IntKind.i64 ve))
    (F115_58 call L C n vl_f vl_n vl_c (t22) (IntKind.wrap IntKind.i64 (t23 + 1)))) := by
  unfold F115_14951
  rw [hC]
  kernel_rfl
theorem F115_7475_eq (call : FuncId → List D → Option D) (L : Nat) (C : Nat → Nat) (n : Nat) (vl_f : Bool) (vl_n : Nat) (vl_c : List D) (t22 : Int) (t23 : Int) (vknown : Bool) (vn : Int) (vn1 : ByteArray) (hC : ∀ t, C t = 1) : F115_7475 call L C n vl_f vl_n vl_c t22 t23 (vknown) (vn) (vn1) =
  (ifK (!ByteArray.toList vn1 == ByteArray.toList (ByteArray.mk #[]))
    (ifK (!ByteArray.toList vn1 == ByteArray.toList (ByteArray.mk #[120]))
      (optK (call 83 [D.bool !ByteArray.toList vn1 == ByteArray.toList (ByteArray.mk #[45]), D.int IntKind.i64 13]) fun r_3 =>
        (intK IntKind.i64 (r_3) fun x_4 =>
        (optK (call 84 [D.int IntKind.i64 vn, D.int IntKind.i64 999]) fun r_4 =>
          (boolK (r_4) fun b =>
          (ifK (b)
            (optK (call 83 [D.bool true, D.int IntKind.i64 3]) fun r_5 =>
              (intK IntKind.i64 (r_5) fun x_5 =>
              (optK (call 81 [D.slc true 2 [D.int IntKind.i64 x_4, D.int IntKind.i64 x_5]]) fun r_6 =>
                (intK IntKind.i64 (r_6) fun x_6 =>
                (F115_14951 call L C n vl_f vl_n vl_c t22 t23 (x_6))))))
            (ifK (!ByteArray.toList vn1 == ByteArray.toList (ByteArray.mk #[]))
              (optK (call 83 [D.bool !vknown, D.int IntKind.i64 3]) fun r_7 =>
                (intK IntKind.i64 (r_7) fun x_7 =>
                (optK (call 81 [D.slc true 2 [D.int IntKind.i64 x_4, D.int IntKind.i64 x_7]]) fun r_8 =>
                  (intK IntKind.i64 (r_8) fun x_8 =>
                  (F115_14951 call L C n vl_f vl_n vl_c t22 t23 (x_8))))))
              (optK (call 83 [D.bool false, D.int IntKind.i64 3]) fun r_9 =>
                (intK IntKind.i64 (r_9) fun x_9 =>
                (optK (call 81 [D.slc true 2 [D.int IntKind.i64 x_4, D.int IntKind.i64 x_9]]) fun r_10 =>
                  (intK IntKind.i64 (r_10) fun x_10 =>
                  (F115_14951 call L C n vl_f vl_n vl_c t22 t23 (x_10))))))))))))
      (optK (call 83 [D.bool false, D.int IntKind.i64 13]) fun r_11 =>
        (intK IntKind.i64 (r_11) fun x_11 =>
        (optK (call 84 [D.int IntKind.i64 vn, D.int IntKind.i64 999]) fun r_12 =>
          (boolK (r_12) fun b_1 =>
          (ifK (b_1)
            (optK (call 83 [D.bool true, D.int IntKind.i64 3]) fun r_13 =>
              (intK IntKind.i64 (r_13) fun x_12 =>
              (optK (call 81 [D.slc true 2 [D.int IntKind.i64 x_11, D.int IntKind.i64 x_12]]) fun r_14 =>
                (intK IntKind.i64 (r_14) fun x_13 =>
                (F115_14951 call L C n vl_f vl_n vl_c t22 t23 (x_13))))))
            (ifK (!ByteArray.toList vn1 == ByteArray.toList (ByteArray.mk #[]))
              (optK (call 83 [D.bool !vknown, D.int IntKind.i64 3]) fun r_15 =>
                (intK IntKind.i64 (r_15) fun x_14 =>
                (optK (call 81 [D.slc true 2 [D.int IntKind.i64 x_11, D.int IntKind.i64 x_14]]) fun r_16 =>
                  (intK IntKind.i64 (r_16) fun x_15 =>
                  (F115_14951 call L C n vl_f vl_n vl_c t22 t23 (x_15))))))
              (optK (call 83 [D.bool false, D.int IntKind.i64 3]) fun r_17 =>
                (intK IntKind.i64 (r_17) fun x_16 =>
                (optK (call 81 [D.slc true 2 [D.int IntKind.i64 x_11, D.int IntKind.i64 x_16]]) fun r_18 =>
                  (intK IntKind.i64 (r_18) fun x_17 =>
                  (F115_14951 call L C n vl_f vl_n vl_c t22 t23 (x_17)))))))))))))
    (optK (call 83 [D.bool false, D.int IntKind.i64 13]) fun r_19 =>
      (intK IntKind.i64 (r_19) fun x_18 =>
      (optK (call 84 [D.int IntKind.i64 vn, D.int IntKind.i64 999]) fun r_20 =>
        (boolK (r_20) fun b_2 =>
        (ifK (b_2)
          (optK (call 83 [D.bool true, D.int IntKind.i64 3]) fun r_21 =>
            (intK IntKind.i64 (r_21) fun x_19 =>
            (optK (call 81 [D.slc true 2 [D.int IntKind.i64 x_18, D.int IntKind.i64 x_19]]) fun r_22 =>
              (intK IntKind.i64 (r_22) fun x_20 =>
              (F115_14951 call L C n vl_f vl_n vl_c t22 t23 (x_20))))))
          (ifK (!ByteArray.toList vn1 == ByteArray.toList (ByteArray.mk #[]))
            (optK (call 83 [D.bool !vknown, D.int IntKind.i64 3]) fun r_23 =>
              (intK IntKind.i64 (r_23) fun x_21 =>
              (optK (call 81 [D.slc true 2 [D.int IntKind.i64 x_18, D.int IntKind.i64 x_21]]) fun r_24 =>
                (intK IntKind.i64 (r_24) fun x_22 =>
                (F115_14951 call L C n vl_f vl_n vl_c t22 t23 (x_22))))))
            (optK (call 83 [D.bool false, D.int IntKind.i64 3]) fun r_25 =>
              (intK IntKind.i64 (r_25) fun x_23 =>
              (optK (call 81 [D.slc true 2 [D.int IntKind.i64 x_18, D.int IntKind.i64 x_23]]) fun r_26 =>
                (intK IntKind.i64 (r_26) fun x_24 =>
                (F115_14951 call L C n vl_f vl_n vl_c t22 t23 (x_24))))))))))))) := by
  unfold F115_7475
  rw [hC]
  kernel_rfl
theorem F115_58_eq (call : FuncId → List D → Option D) (L : Nat) (C : Nat → Nat) (n : Nat) (vl_f : Bool) (vl_n : Nat) (vl_c : List D) (t22 : Int) (t23 : Int) : F115_58 call L C  (n + 1) vl_f vl_n vl_c (t22) (t23) =
  (ifK (decide (t23 < t22))
    (chkK (decide (0 ≤ t23 ∧ t23 < (vl_n : Int)))
      (cellK (vl_c) (Int.toNat t23 * 2 + 0) fun d =>
      (intK IntKind.i64 (d) fun x_3 =>
      (cellK (vl_c) (Int.toNat t23 * 2 + 1) fun d_1 =>
      (strK (d_1) fun s =>
      (ifK (x_3 == 0 && (ByteArray.toList s == ByteArray.toList s && true))
        (ifK (ByteArray.toList s == ByteArray.toList (ByteArray.mk #[120]))
          (F115_7475 call L C n vl_f vl_n vl_c t22 t23 (true) (x_3) (s))
          (F115_7475 call L C n vl_f vl_n vl_c t22 t23 (ByteArray.toList s == ByteArray.toList (ByteArray.mk #[45])) (x_3) (s)))
        (F115_7475 call L C n vl_f vl_n vl_c t22 t23 (false) (x_3) (s))))))))
    (some (D.int IntKind.i64 0))) := by kernel_rfl
theorem F115_eq (call : FuncId → List D → Option D) (L : Nat) (C : Nat → Nat) (vl_f : Bool) (vl_n : Nat) (vl_c : List D) : evFnT (TEf call L C) O0 N115 FinM.canon Tryz.f115 [D.slc vl_f vl_n vl_c] =
  (optK (call 83 [D.bool ((vl_n : Int) == 0), D.int IntKind.i64 12]) fun r =>
    (intK IntKind.i64 (r) fun x =>
    (optK (call 83 [D.bool (decide ((vl_n : Int) > 36)), D.int IntKind.i64 5]) fun r_1 =>
      (intK IntKind.i64 (r_1) fun x_1 =>
      (optK (call 81 [D.slc true 2 [D.int IntKind.i64 x, D.int IntKind.i64 x_1]]) fun r_2 =>
        (intK IntKind.i64 (r_2) fun x_2 =>
        (ifK (x_2 != 0)
          (some (D.int IntKind.i64 x_2))
          (F115_58 call L C L vl_f vl_n vl_c ((vl_n : Int)) (0))))))))) := by kernel_rfl

def N12 : NTab := fun p => match p with
  | 7 => some { keep := [0, 1, 5], kl := [], ren := [(5, 5)] }
  | 511 => some { keep := [5, 9, 10, 11, 12, 13, 14], kl := [], ren := [(5, 5)] }
  | _ => none
noncomputable def F12_511 (call : FuncId → List D → Option D) (L : Nat) (C : Nat → Nat) (vs0 : Int) (vs1 : Int) (vs2 : Bool) (vl_f : Bool) (vl_n : Nat) (vl_c : List D) (ve1 : Int) (vt : ByteArray) (ve2 : Int) (vbad : Int) (vwant : Ow) : Option D :=
  cutAt (TEf call L C) O0 N12 FinM.canon Tryz.f12 [true, true, true, true, true, true, true, true] []  (C 511) (St.mk [J, J, J, J, J, D.loc 5 0 0, J, J, J, D.slc vl_f vl_n vl_c, D.int IntKind.i64 ve1, D.str vt, D.int IntKind.i64 ve2, D.int IntKind.i64 vbad, ownD 0 vwant, J, J, J, J, J, J, J, J, J, J, J, J, J, J, J, J, J, J, J, J, J, J, J, J, J, J, J, J, J, J, J, J, J, J, J, J, J, J, J, J, J, J, J, J, J, J, J, J, J, J, J, J, J, J, J, J, J, J, J, J, J, J, J, J, J, J, J, J, J] [Z, Z, Z, Z, Z, (1, some (Ob.box [D.int IntKind.i64 vs0, D.int IntKind.i64 vs1, D.bool vs2] false)), Z, Z, Z, Z, Z, Z, Z, Z, Z, Z, Z, Z, Z, Z, Z, Z, Z, Z, Z, Z, Z, Z, Z, Z, Z, Z, Z, Z, Z, Z, Z, Z, Z, Z, Z, Z, Z, Z, Z, Z, Z, Z, Z, Z, Z, Z, Z, Z, Z, Z, Z, Z, Z, Z, Z, Z, Z, Z, Z, Z, Z, Z, Z, Z, Z, Z, Z, Z, Z, Z, Z, Z, Z, Z, Z, Z, Z, Z])
noncomputable def F12_7 (call : FuncId → List D → Option D) (L : Nat) (C : Nat → Nat) (va_f : Bool) (va_n : Nat) (va_c : List D) (vb_f : Bool) (vb_n : Nat) (vb_c : List D) (vs0 : Int) (vs1 : Int) (vs2 : Bool) : Option D :=
  cutAt (TEf call L C) O0 N12 FinM.canon Tryz.f12 [true, true] []  (C 7) (St.mk [D.slc va_f va_n va_c, D.slc vb_f vb_n vb_c, J, J, J, D.loc 5 0 0, J, J, J, J, J, J, J, J, J, J, J, J, J, J, J, J, J, J, J, J, J, J, J, J, J, J, J, J, J, J, J, J, J, J, J, J, J, J, J, J, J, J, J, J, J, J, J, J, J, J, J, J, J, J, J, J, J, J, J, J, J, J, J, J, J, J, J, J, J, J, J, J, J, J, J, J, J, J] [Z, Z, Z, Z, Z, (1, some (Ob.box [D.int IntKind.i64 vs0, D.int IntKind.i64 vs1, D.bool vs2] false)), Z, Z, Z, Z, Z, Z, Z, Z, Z, Z, Z, Z, Z, Z, Z, Z, Z, Z, Z, Z, Z, Z, Z, Z, Z, Z, Z, Z, Z, Z, Z, Z, Z, Z, Z, Z, Z, Z, Z, Z, Z, Z, Z, Z, Z, Z, Z, Z, Z, Z, Z, Z, Z, Z, Z, Z, Z, Z, Z, Z, Z, Z, Z, Z, Z, Z, Z, Z, Z, Z, Z, Z, Z, Z, Z, Z, Z, Z])
theorem F12_511_eqn (call : FuncId → List D → Option D) (L : Nat) (C : Nat → Nat) (vs0 : Int) (vs1 : Int) (vs2 : Bool) (vl_f : Bool) (vl_n : Nat) (vl_c : List D) (ve1 : Int) (vt : ByteArray) (ve2 : Int) (vbad : Int) (hC : ∀ t, C t = 1) : F12_511 call L C  vs0 vs1 vs2 (vl_f) (vl_n) (vl_c) (ve1) (vt) (ve2) (vbad) (Ow.nil) =
  (ifK (ve1 != vbad)
    (some (D.bool false))
    (optK (call 28 [D.slc vl_f vl_n vl_c]) fun r_13 =>
      (slcK (r_13) fun f_4 n_6 c_6 =>
      (optK (call 27 [D.slc f_4 n_6 c_6, D.nils]) fun r_14 =>
        (boolK (r_14) fun b_4 =>
        (ifK (!b_4)
          (some (D.bool false))
          (optK (call 66 [D.agg [D.int IntKind.i64 vs0, D.int IntKind.i64 vs1, D.bool vs2]]) fun r_15 =>
            (intK IntKind.i64 (r_15) fun x_6 =>
            (ifK (x_6 == 0)
              (optK (call 67 [D.agg [D.int IntKind.i64 vs0, D.int IntKind.i64 vs1, D.bool vs2]]) fun r_16 =>
                (strK (r_16) fun s_1 =>
                (ifK (ve2 == x_6)
                  (ifK (ByteArray.toList vt == ByteArray.toList s_1)
                    (optK (call 16 []) fun r_17 =>
                      (boolK (r_17) fun b_5 =>
                      (some (D.bool b_5))))
                    (some (D.bool false)))
                  (some (D.bool false)))))
              (ifK (ve2 == x_6)
                (ifK (ByteArray.toList vt == ByteArray.toList (ByteArray.mk #[]))
                  (optK (call 16 []) fun r_18 =>
                    (boolK (r_18) fun b_6 =>
                    (some (D.bool b_6))))
                  (some (D.bool false)))
                (some (D.bool false)))))))))))) := by
  unfold F12_511
  rw [hC]
  kernel_rfl
theorem F12_511_eqs (call : FuncId → List D → Option D) (L : Nat) (C : Nat → Nat) (vs0 : Int) (vs1 : Int) (vs2 : Bool) (vl_f : Bool) (vl_n : Nat) (vl_c : List D) (ve1 : Int) (vt : ByteArray) (ve2 : Int) (vbad : Int) (vwant_f : Bool) (vwant_n : Nat) (vwant_c : List D) (hC : ∀ t, C t = 1) : F12_511 call L C  vs0 vs1 vs2 (vl_f) (vl_n) (vl_c) (ve1) (vt) (ve2) (vbad) (Ow.slc vwant_f vwant_n vwant_c) =
  (ifK (ve1 != vbad)
    (some (D.bool false))
    (optK (call 28 [D.slc vl_f vl_n vl_c]) fun r_19 =>
      (slcK (r_19) fun f_5 n_7 c_7 =>
      (optK (call 27 [D.slc f_5 n_7 c_7, D.slc vwant_f vwant_n vwant_c]) fun r_20 =>
        (boolK (r_20) fun b_7 =>
        (ifK (!b_7)
          (some (D.bool false))
          (optK (call 66 [D.agg [D.int IntKind.i64 vs0, D.int IntKind.i64 vs1, D.bool vs2]]) fun r_21 =>
            (intK IntKind.i64 (r_21) fun x_7 =>
            (ifK (x_7 == 0)
              (optK (call 67 [D.agg [D.int IntKind.i64 vs0, D.int IntKind.i64 vs1, D.bool vs2]]) fun r_22 =>
                (strK (r_22) fun s_2 =>
                (ifK (ve2 == x_7)
                  (ifK (ByteArray.toList vt == ByteArray.toList s_2)
                    (optK (call 16 []) fun r_23 =>
                      (boolK (r_23) fun b_8 =>
                      (some (D.bool b_8))))
                    (some (D.bool false)))
                  (some (D.bool false)))))
              (ifK (ve2 == x_7)
                (ifK (ByteArray.toList vt == ByteArray.toList (ByteArray.mk #[]))
                  (optK (call 16 []) fun r_24 =>
                    (boolK (r_24) fun b_9 =>
                    (some (D.bool b_9))))
                  (some (D.bool false)))
                (some (D.bool false)))))))))))) := by
  unfold F12_511
  rw [hC]
  kernel_rfl
theorem F12_7_eq (call : FuncId → List D → Option D) (L : Nat) (C : Nat → Nat) (va_f : Bool) (va_n : Nat) (va_c : List D) (vb_f : Bool) (vb_n : Nat) (vb_c : List D) (vs0 : Int) (vs1 : Int) (vs2 : Bool) (hC : ∀ t, C t = 1) : F12_7 call L C  va_f va_n va_c vb_f vb_n vb_c vs0 vs1 vs2  =
  (optK (call 43 [D.slc va_f va_n va_c]) fun r_4 =>
    (slcK (r_4) fun f n_1 c =>
    (optK (call 43 [D.slc vb_f vb_n vb_c]) fun r_5 =>
      (slcK (r_5) fun f_1 n_2 c_1 =>
      (optK (call 63 [D.slc va_f va_n va_c, D.slc vb_f vb_n vb_c]) fun r_6 =>
        (tupK (r_6) 2 fun c_2 =>
        (cellK (c_2) (0) fun d =>
        (slcK (d) fun f_2 n_3 c_3 =>
        (cellK (c_2) (1) fun d_1 =>
        (intK IntKind.i64 (d_1) fun x =>
        (optK (call 64 [D.agg [D.int IntKind.i64 vs0, D.int IntKind.i64 vs1, D.bool vs2]]) fun r_7 =>
          (tupK (r_7) 2 fun c_4 =>
          (cellK (c_4) (0) fun d_2 =>
          (strK (d_2) fun s =>
          (cellK (c_4) (1) fun d_3 =>
          (intK IntKind.i64 (d_3) fun x_1 =>
          (optK (call 65 [D.slc f n_1 c]) fun r_8 =>
            (intK IntKind.i64 (r_8) fun x_2 =>
            (optK (call 65 [D.slc f_1 n_2 c_1]) fun r_9 =>
              (intK IntKind.i64 (r_9) fun x_3 =>
              (optK (call 24 [D.bool ((va_n : Int) != (vb_n : Int)), D.int IntKind.i64 2]) fun r_10 =>
                (intK IntKind.i64 (r_10) fun x_4 =>
                (optK (call 22 [D.slc true 3 [D.int IntKind.i64 x_2, D.int IntKind.i64 x_3, D.int IntKind.i64 x_4]]) fun r_11 =>
                  (intK IntKind.i64 (r_11) fun x_5 =>
                  (ifK (x_5 == 0)
                    (optK (call 25 [D.slc f n_1 c, D.slc f_1 n_2 c_1]) fun r_12 =>
                      (slcK (r_12) fun f_3 n_4 c_5 =>
                      (F12_511 call L C vs0 vs1 vs2 (f_2) (n_3) (c_3) (x) (s) (x_1) (x_5) (Ow.slc f_3 n_4 c_5))))
                    (F12_511 call L C vs0 vs1 vs2 (f_2) (n_3) (c_3) (x) (s) (x_1) (x_5) (Ow.nil))))))))))))))))))))))))))) := by
  unfold F12_7
  rw [hC]
  kernel_rfl
theorem F12_eq (call : FuncId → List D → Option D) (L : Nat) (C : Nat → Nat) (va_f : Bool) (va_n : Nat) (va_c : List D) (vb_f : Bool) (vb_n : Nat) (vb_c : List D) (vs0 : Int) (vs1 : Int) (vs2 : Bool) : evFnT (TEf call L C) O0 N12 FinM.canon Tryz.f12 [D.slc va_f va_n va_c, D.slc vb_f vb_n vb_c, D.agg [D.int IntKind.i64 vs0, D.int IntKind.i64 vs1, D.bool vs2]] =
  (optK (call 62 [D.slc va_f va_n va_c]) fun r =>
    (boolK (r) fun b =>
    (ifK (!b)
      (optK (call 16 []) fun r_1 =>
        (boolK (r_1) fun b_1 =>
        (some (D.bool b_1))))
      (optK (call 62 [D.slc vb_f vb_n vb_c]) fun r_2 =>
        (boolK (r_2) fun b_2 =>
        (ifK (!b_2)
          (optK (call 16 []) fun r_3 =>
            (boolK (r_3) fun b_3 =>
            (some (D.bool b_3))))
          (F12_7 call L C va_f va_n va_c vb_f vb_n vb_c vs0 vs1 vs2))))))) := by kernel_rfl

end Go.Pd
end

section
namespace Go.Pd
open Go Go.Proofs Go.RowKit

/-- The net strokes of a hole: a number and a mark. -/
abbrev NetV := Int × ByteArray
def netD (x : NetV) : List D := [.int .i64 x.1, .str x.2]
/-- A state of a match: up, to play, over. -/
abbrev StV := Int × Int × Bool
def stD (s : StV) : List D := [.int .i64 s.1, .int .i64 s.2.1, .bool s.2.2]
theorem room24 {i : Nat} (h : i ≤ 1000000) : decide ((i + 1) * 24 ≤ limit ∧ i + 1 ≤ 9223372036854775807) = true := by
  simp only [decide_eq_true_eq]
  rw [show limit = 140737488355328 from rfl]
  omega
section
variable {γ : Type} (c : D → Option γ)
theorem n0 (pre : List NetV) (x : NetV) (r : List NetV) : cellK ((pre ++ x :: r).flatMap netD) (Int.toNat (pre.length : Int) * 2 + 0) c = c (.int .i64 x.1) := cell_row pre x r netD 2 (fun _ => rfl) 0 (by omega) c
theorem n1 (pre : List NetV) (x : NetV) (r : List NetV) : cellK ((pre ++ x :: r).flatMap netD) (Int.toNat (pre.length : Int) * 2 + 1) c = c (.str x.2) := cell_row pre x r netD 2 (fun _ => rfl) 1 (by omega) c
theorem s0 (pre : List StV) (x : StV) (r : List StV) : cellK ((pre ++ x :: r).flatMap stD) (Int.toNat (pre.length : Int) * 3 + 0) c = c (.int .i64 x.1) := cell_row pre x r stD 3 (fun _ => rfl) 0 (by omega) c
theorem s1 (pre : List StV) (x : StV) (r : List StV) : cellK ((pre ++ x :: r).flatMap stD) (Int.toNat (pre.length : Int) * 3 + 1) c = c (.int .i64 x.2.1) := cell_row pre x r stD 3 (fun _ => rfl) 1 (by omega) c
theorem s2 (pre : List StV) (x : StV) (r : List StV) : cellK ((pre ++ x :: r).flatMap stD) (Int.toNat (pre.length : Int) * 3 + 2) c = c (.bool x.2.2) := cell_row pre x r stD 3 (fun _ => rfl) 2 (by omega) c
end

/-- Are net strokes short? -/
def brGo (n : Nat) : List NetV → Bool
  | [] => decide ((n : Int) ≤ 39)
  | x :: r => ifK (decide ((x.2.size : Int) > 60)) false (brGo n r)
theorem brGo_true {n : Nat} : ∀ {l : List NetV}, brGo n l = true → n ≤ 39
  | [], h => by unfold brGo at h; simp at h; omega
  | x :: r, h => by
    unfold brGo at h
    cases h1 : decide ((x.2.size : Int) > 60) with
    | true => rw [h1, ifK_true] at h; cases h
    | false => rw [h1, ifK_false] at h; exact brGo_true h
theorem step_pre' {α : Type} (pre : List α) (x : α) (r : List α) (h : (pre ++ x :: r).length ≤ 9223372036854775807) : IntKind.wrap .i64 ((pre.length : Int) + 1) = ((pre ++ [x]).length : Int) := by
  simp at h
  rw [wrap_in (by omega)]
  simp
/-- A function by its equation, with as many turns of a loop as one likes. -/
theorem fnTL {L : Nat} {base : FuncId → List D → Option D} (hb : CallsT base) {f : FuncId} {fn : Func} (hf : Tryz.prog.funcs[f]? = some fn) {ord : Ord} {N : NTab} (hok : okFn Tryz.prog ord fn = true) {ds : List D} {r : D}
    (he : evFnT (TEf (callOf base) L C1) ord N .canon fn ds = some r) : OK5 f ds r :=
  evFnT_ok (Te := TEs (callOf base) L C1 sqT) mixedT ⟨callOf_ok hb, m1_ok⟩ callOf_cst rfl sqT_ok hf (by simp) hok he
theorem go62 {call : FuncId → List D → Option D} {L : Nat} {f : Bool} {n : Nat} : ∀ (r pre : List NetV) (fuel : Nat), (pre ++ r).length = n → n ≤ 9223372036854775807 → r.length < fuel → F62_26 call L C1 fuel f n ((pre ++ r).flatMap netD) n (pre.length : Int) = some (.bool (brGo n r)) := by
  intro r
  induction r with
  | nil =>
    intro pre fuel hn hB hf
    cases fuel with
    | zero => exact absurd hf (Nat.not_lt_zero _)
    | succ fuel =>
      subst hn
      rw [F62_26_eq, end_pre, ifK_false]
      rfl
  | cons x r ih =>
    intro pre fuel hn hB hf
    cases fuel with
    | zero => exact absurd hf (Nat.not_lt_zero _)
    | succ fuel =>
      have ih := ih (pre ++ [x]) fuel (by rw [app1]; exact hn) hB (by simp at hf; omega)
      rw [app1] at ih
      subst hn
      rw [F62_26_eq, lt_pre, ifK_true, in_pre, chkK_true, n0, intK_int, n1, strK_str, step_pre' pre x r hB, ih, show brGo (pre ++ x :: r).length (x :: r) = ifK (decide ((x.2.size : Int) > 60)) false (brGo (pre ++ x :: r).length r) from rfl]
      cases decide ((x.2.size : Int) > 60) <;> rfl
theorem ok62 {f : Bool} (l : List NetV) (hl : l.length ≤ 9223372036854775807) : OK5 62 [.slc f l.length (l.flatMap netD)] (.bool (brGo l.length l)) := by
  refine fnTL (L := 18446744073709551616) none_ok Tryz.func62 (ord := O0) (N := N62) (by kernel_rfl) ((F62_eq _ _ _ _ _ _).trans ?_)
  exact go62 (f := f) l [] 18446744073709551616 rfl hl (by omega)
/-- A list that grows from nil. -/
def owR {α : Type} (g : α → List D) : List α → Ow
  | [] => .nil
  | x :: l => .own (l.length + 1) ((x :: l).flatMap g)
/-- A list that is handed back: nil, if nothing came. -/
def slR {α : Type} (g : α → List D) (l : List α) : D := .slc l.isEmpty l.length (l.flatMap g)
theorem go43 {call : FuncId → List D → Option D} {f : Bool} {n : Nat} : ∀ (r pre : List NetV) (fuel : Nat), (pre ++ r).length = n → n ≤ 1000 → r.length < fuel → F43_58 call LL C1 fuel f n ((pre ++ r).flatMap netD) (owR netD pre) n (pre.length : Int) = some (slR netD (pre ++ r)) := by
  intro r
  induction r with
  | nil =>
    intro pre fuel hn hB hf
    cases fuel with
    | zero => exact absurd hf (Nat.not_lt_zero _)
    | succ fuel =>
      subst hn
      cases pre with
      | nil =>
        show F43_58 call LL C1 (fuel + 1) f _ _ .nil _ _ = _
        rw [F43_58_eqn, end_pre, ifK_false]
        rfl
      | cons o os =>
        show F43_58 call LL C1 (fuel + 1) f _ _ (.own (os.length + 1) ((o :: os).flatMap netD)) _ _ = _
        rw [F43_58_eqo, end_pre, ifK_false, List.append_nil]
        rfl
  | cons x r ih =>
    intro pre fuel hn hB hf
    cases fuel with
    | zero => exact absurd hf (Nat.not_lt_zero _)
    | succ fuel =>
      have ih := ih (pre ++ [x]) fuel (by rw [app1]; exact hn) hB (by simp at hf; omega)
      rw [app1] at ih
      subst hn
      have hlen : (pre ++ x :: r).length = pre.length + r.length + 1 := by simp; omega
      cases pre with
      | nil =>
        show F43_58 call LL C1 (fuel + 1) f _ _ .nil _ _ = _
        rw [F43_58_eqn, lt_pre, ifK_true, in_pre, chkK_true, n0, intK_int, n1, strK_str, step_pre [] x r (by omega)]
        exact ih
      | cons o os =>
        show F43_58 call LL C1 (fuel + 1) f _ _ (.own (os.length + 1) ((o :: os).flatMap netD)) _ _ = _
        rw [F43_58_eqo, lt_pre, ifK_true, in_pre, chkK_true, n0, intK_int, n1, strK_str, room24 (by have hlo : (o :: os).length = os.length + 1 := rfl; omega), chkK_true, step_pre (o :: os) x r (by omega), ← ih]
        have e1 : ((o :: os) ++ [x]).flatMap netD = (o :: os).flatMap netD ++ [.int .i64 x.1, .str x.2] := by rw [List.flatMap_append]; rfl
        show _ = F43_58 call LL C1 fuel f _ _ (.own ((os ++ [x]).length + 1) (((o :: os) ++ [x]).flatMap netD)) _ _
        rw [e1, show (os ++ [x]).length = os.length + 1 by simp]
/-- Net strokes as those of the reference. -/
theorem ok43 {f : Bool} (l : List NetV) (hl : l.length ≤ 1000) : OK5 43 [.slc f l.length (l.flatMap netD)] (slR netD l) := by
  refine fnT none_ok Tryz.func43 (ord := O0) (N := N43) (by kernel_rfl) ((F43_eq _ _ _ _ _ _).trans ?_)
  exact go43 (f := f) l [] LL rfl hl (by unfold LL; omega)
theorem go28 {call : FuncId → List D → Option D} {f : Bool} {n : Nat} : ∀ (r pre : List StV) (fuel : Nat), (pre ++ r).length = n → n ≤ 1000 → r.length < fuel → F28_58 call LL C1 fuel f n ((pre ++ r).flatMap stD) (owR stD pre) n (pre.length : Int) = some (slR stD (pre ++ r)) := by
  intro r
  induction r with
  | nil =>
    intro pre fuel hn hB hf
    cases fuel with
    | zero => exact absurd hf (Nat.not_lt_zero _)
    | succ fuel =>
      subst hn
      cases pre with
      | nil =>
        show F28_58 call LL C1 (fuel + 1) f _ _ .nil _ _ = _
        rw [F28_58_eqn, end_pre, ifK_false]
        rfl
      | cons o os =>
        show F28_58 call LL C1 (fuel + 1) f _ _ (.own (os.length + 1) ((o :: os).flatMap stD)) _ _ = _
        rw [F28_58_eqo, end_pre, ifK_false, List.append_nil]
        rfl
  | cons x r ih =>
    intro pre fuel hn hB hf
    cases fuel with
    | zero => exact absurd hf (Nat.not_lt_zero _)
    | succ fuel =>
      have ih := ih (pre ++ [x]) fuel (by rw [app1]; exact hn) hB (by simp at hf; omega)
      rw [app1] at ih
      subst hn
      have hlen : (pre ++ x :: r).length = pre.length + r.length + 1 := by simp; omega
      cases pre with
      | nil =>
        show F28_58 call LL C1 (fuel + 1) f _ _ .nil _ _ = _
        rw [F28_58_eqn, lt_pre, ifK_true, in_pre, chkK_true, s0, intK_int, s1, intK_int, s2, boolK_bool, step_pre [] x r (by omega)]
        exact ih
      | cons o os =>
        show F28_58 call LL C1 (fuel + 1) f _ _ (.own (os.length + 1) ((o :: os).flatMap stD)) _ _ = _
        rw [F28_58_eqo, lt_pre, ifK_true, in_pre, chkK_true, s0, intK_int, s1, intK_int, s2, boolK_bool, room24 (by have hlo : (o :: os).length = os.length + 1 := rfl; omega), chkK_true, step_pre (o :: os) x r (by omega), ← ih]
        have e1 : ((o :: os) ++ [x]).flatMap stD = (o :: os).flatMap stD ++ [.int .i64 x.1, .int .i64 x.2.1, .bool x.2.2] := by rw [List.flatMap_append]; rfl
        show _ = F28_58 call LL C1 fuel f _ _ (.own ((os ++ [x]).length + 1) (((o :: os) ++ [x]).flatMap stD)) _ _
        rw [e1, show (os ++ [x]).length = os.length + 1 by simp]
/-- States as those of the reference. -/
theorem ok28 {f : Bool} (l : List StV) (hl : l.length ≤ 1000) : OK5 28 [.slc f l.length (l.flatMap stD)] (slR stD l) := by
  refine fnT none_ok Tryz.func28 (ord := O0) (N := N28) (by kernel_rfl) ((F28_eq _ _ _ _ _ _).trans ?_)
  exact go28 (f := f) l [] LL rfl hl (by unfold LL; omega)
theorem go27 {call : FuncId → List D → Option D} {f g : Bool} {n : Nat} : ∀ (r pre : List StV) (fuel : Nat), (pre ++ r).length = n → n ≤ 1000 → r.length < fuel → F27_58 call LL C1 fuel f n ((pre ++ r).flatMap stD) g n ((pre ++ r).flatMap stD) (pre.length : Int) = some (.bool true) := by
  intro r
  induction r with
  | nil =>
    intro pre fuel hn hB hf
    cases fuel with
    | zero => exact absurd hf (Nat.not_lt_zero _)
    | succ fuel =>
      subst hn
      rw [F27_58_eq, end_pre, ifK_false]
  | cons x r ih =>
    intro pre fuel hn hB hf
    cases fuel with
    | zero => exact absurd hf (Nat.not_lt_zero _)
    | succ fuel =>
      have ih := ih (pre ++ [x]) fuel (by rw [app1]; exact hn) hB (by simp at hf; omega)
      rw [app1] at ih
      subst hn
      rw [F27_58_eq, lt_pre, ifK_true, in_pre, chkK_true, s0, intK_int, s1, intK_int, s2, boolK_bool, chkK_true, s0, intK_int, s1, intK_int, s2, boolK_bool, step_pre pre x r (by omega), ih]
      simp
/-- The same states are the same. -/
theorem ok27 {f g : Bool} (l : List StV) (hl : l.length ≤ 1000) : OK5 27 [.slc f l.length (l.flatMap stD), .slc g l.length (l.flatMap stD)] (.bool true) := by
  refine fnT none_ok Tryz.func27 (ord := O0) (N := N27) (by kernel_rfl) ((F27_eq _ _ _ _ _ _ _ _ _).trans ?_)
  rw [show ((l.length : Int) != l.length) = false by simp, ifK_false]
  exact go27 (f := f) (g := g) l [] LL rfl hl (by unfold LL; omega)
theorem ok27n {f : Bool} : OK5 27 [.slc f 0 [], .nils] (.bool true) := CallOK.canon (ok27 (f := f) (g := true) [] (by simp))

/-! ### The check of net strokes -/
def markX (s : ByteArray) : Bool := ByteArray.toList s == ByteArray.toList (ByteArray.mk #[120])
def kindBad (s : ByteArray) : Bool := !emptyB s && (!markX s && !dashB s)
def netE (x : NetV) : Int := ifK (kindBad x.2) 13 (ifK (outM x.1 999 || (!emptyB x.2 && x.1 != 0)) 3 0)
def netsGo : List NetV → Int
  | [] => 0
  | x :: r => ifK (netE x != 0) (netE x) (netsGo r)
def netsErr (l : List NetV) : Int := ifK ((l.length : Int) == 0) 12 (ifK (decide ((l.length : Int) > 36)) 5 (netsGo l))
theorem go65 {call : FuncId → List D → Option D} {f : Bool} {n : Nat} : ∀ (r pre : List NetV) (fuel : Nat), (pre ++ r).length = n → n ≤ 1000 → r.length < fuel → F65_122 call LL C1 fuel f n ((pre ++ r).flatMap netD) (pre.length : Int) = some (.int .i64 (netsGo r)) := by
  intro r
  induction r with
  | nil =>
    intro pre fuel hn hB hf
    cases fuel with
    | zero => exact absurd hf (Nat.not_lt_zero _)
    | succ fuel =>
      subst hn
      rw [F65_122_eq, end_pre, ifK_false]
      rfl
  | cons x r ih =>
    intro pre fuel hn hB hf
    cases fuel with
    | zero => exact absurd hf (Nat.not_lt_zero _)
    | succ fuel =>
      have ih := ih (pre ++ [x]) fuel (by rw [app1]; exact hn) hB (by simp at hf; omega)
      rw [app1] at ih
      subst hn
      have h979 : F65_979 call LL C1 fuel f (pre ++ x :: r).length ((pre ++ x :: r).flatMap netD) (pre.length : Int) = some (.int .i64 (netsGo r)) := by
        rw [F65_979_eq _ _ _ _ _ _ _ _ (fun _ => rfl : ∀ t, C1 t = 1), step_pre pre x r (by omega), ih]
      have h3913 : F65_3913 call LL C1 fuel f (pre ++ x :: r).length ((pre ++ x :: r).flatMap netD) (pre.length : Int) = some (.int .i64 (ifK (outM x.1 999 || (!emptyB x.2 && x.1 != 0)) 3 (netsGo r))) := by
        rw [F65_3913_eq _ _ _ _ _ _ _ _ (fun _ => rfl : ∀ t, C1 t = 1), in_pre, chkK_true, n0, intK_int, chkK_true, n0, intK_int, chkK_true, n1, strK_str, chkK_true, n0, intK_int, h979]
        unfold outM emptyB
        generalize decide (x.1 < -999) = q1
        generalize decide (x.1 > 999) = q2
        generalize (ByteArray.toList x.2 == ByteArray.toList (ByteArray.mk #[])) = q3
        generalize (x.1 != 0) = q4
        cases q1 <;> cases q2 <;> cases q3 <;> cases q4 <;> rfl
      rw [F65_122_eq, lt_pre, ifK_true, in_pre, chkK_true, n1, strK_str, chkK_true, n1, strK_str, chkK_true, n1, strK_str, h3913]
      rw [show netsGo (x :: r) = ifK (netE x != 0) (netE x) (netsGo r) from rfl]
      unfold netE kindBad markX emptyB dashB
      generalize (outM x.1 999 || (!(ByteArray.toList x.2 == ByteArray.toList (ByteArray.mk #[])) && x.1 != 0)) = q1
      generalize (ByteArray.toList x.2 == ByteArray.toList (ByteArray.mk #[])) = q2
      generalize (ByteArray.toList x.2 == ByteArray.toList (ByteArray.mk #[120])) = q3
      generalize (ByteArray.toList x.2 == ByteArray.toList (ByteArray.mk #[45])) = q4
      cases q1 <;> cases q2 <;> cases q3 <;> cases q4 <;> rfl
/-- The reference's check of net strokes. -/
theorem ok65 {f : Bool} (l : List NetV) : OK5 65 [.slc f l.length (l.flatMap netD)] (.int .i64 (netsErr l)) := by
  refine fnT none_ok Tryz.func65 (ord := O0) (N := N65) (by kernel_rfl) ((F65_eq _ _ _ _ _ _).trans ?_)
  unfold netsErr
  cases (l.length : Int) == 0 with
  | true => rfl
  | false =>
    rw [ifK_false, ifK_false]
    cases h2 : decide ((l.length : Int) > 36) with
    | true => rfl
    | false =>
      rw [ifK_false, ifK_false]
      simp only [decide_eq_false_iff_not] at h2
      exact go65 (f := f) l [] LL rfl (by omega) (by unfold LL; omega)
def bE : FuncId → List D → Option D := fun k ds => match k, ds with
  | 83, [.bool b, .int .i64 e] => some (.int .i64 (ifK b e 0))
  | 84, [.int .i64 x, .int .i64 999] => some (.bool (outM x 999))
  | 84, [.int .i64 x, .int .i64 36] => some (.bool (outM x 36))
  | 81, [.slc true 2 [.int .i64 x, .int .i64 y]] => some (.int .i64 (fst2 x y))
  | 81, [.slc true 3 [.int .i64 x, .int .i64 y, .int .i64 z]] => some (.int .i64 (fst3 x y z))
  | 116, [.int .i64 up, .int .i64 to] => some (.bool (overV up to))
  | 117, ds => itoaX ds
  | _, _ => none
theorem bE_ok : CallsT bE := by
  intro k ds r h
  unfold bE at h
  split at h
  · cases h; exact ok83 _ _
  · cases h; exact ok84m _ _ (by omega)
  · cases h; exact ok84m _ _ (by omega)
  · cases h; exact ok81 _ _
  · cases h; exact ok81t _ _ _
  · cases h; exact b1_ok _ _ _ rfl
  · exact itoa_ok _ _ h
  · cases h
section
variable (b : Bool) (e x y z : Int)
theorem e83 : callOf bE 83 [.bool b, .int .i64 e] = some (.int .i64 (ifK b e 0)) := rfl
theorem e84 : callOf bE 84 [.int .i64 x, .int .i64 999] = some (.bool (outM x 999)) := rfl
theorem e84' : callOf bE 84 [.int .i64 x, .int .i64 36] = some (.bool (outM x 36)) := rfl
theorem e81 : callOf bE 81 [.slc true 2 [.int .i64 x, .int .i64 y]] = some (.int .i64 (fst2 x y)) := rfl
theorem e81t : callOf bE 81 [.slc true 3 [.int .i64 x, .int .i64 y, .int .i64 z]] = some (.int .i64 (fst3 x y z)) := rfl
theorem e116 : callOf bE 116 [.int .i64 x, .int .i64 y] = some (.bool (overV x y)) := rfl
end
theorem go115 {f : Bool} {n : Nat} : ∀ (r pre : List NetV) (fuel : Nat), (pre ++ r).length = n → n ≤ 1000 → r.length < fuel → F115_58 (callOf bE) LL C1 fuel f n ((pre ++ r).flatMap netD) n (pre.length : Int) = some (.int .i64 (netsGo r)) := by
  intro r
  induction r with
  | nil =>
    intro pre fuel hn hB hf
    cases fuel with
    | zero => exact absurd hf (Nat.not_lt_zero _)
    | succ fuel =>
      subst hn
      rw [F115_58_eq, end_pre, ifK_false]
      rfl
  | cons x r ih =>
    intro pre fuel hn hB hf
    cases fuel with
    | zero => exact absurd hf (Nat.not_lt_zero _)
    | succ fuel =>
      have ih := ih (pre ++ [x]) fuel (by rw [app1]; exact hn) hB (by simp at hf; omega)
      rw [app1] at ih
      subst hn
      have h14 : ∀ e, F115_14951 (callOf bE) LL C1 fuel f (pre ++ x :: r).length ((pre ++ x :: r).flatMap netD) (pre ++ x :: r).length (pre.length : Int) e = some (.int .i64 (ifK (e != 0) e (netsGo r))) := fun e => by
        rw [F115_14951_eq _ _ _ _ _ _ _ _ _ _ (fun _ => rfl : ∀ t, C1 t = 1), step_pre pre x r (by omega), ih]
        cases e != 0 <;> rfl
      have h74 : ∀ k, F115_7475 (callOf bE) LL C1 fuel f (pre ++ x :: r).length ((pre ++ x :: r).flatMap netD) (pre ++ x :: r).length (pre.length : Int) k x.1 x.2 =
          some (.int .i64 (ifK (fst2 (ifK (kindBad x.2) 13 0) (ifK (outM x.1 999 || (!emptyB x.2 && !k)) 3 0) != 0) (fst2 (ifK (kindBad x.2) 13 0) (ifK (outM x.1 999 || (!emptyB x.2 && !k)) 3 0)) (netsGo r))) := fun k => by
        rw [F115_7475_eq _ _ _ _ _ _ _ _ _ _ _ _ (fun _ => rfl : ∀ t, C1 t = 1)]
        simp only [e83, e84, optK_some, intK_int, boolK_bool, e81, h14]
        unfold kindBad markX emptyB dashB
        generalize outM x.1 999 = q1
        generalize (ByteArray.toList x.2 == ByteArray.toList (ByteArray.mk #[])) = q2
        generalize (ByteArray.toList x.2 == ByteArray.toList (ByteArray.mk #[120])) = q3
        generalize (ByteArray.toList x.2 == ByteArray.toList (ByteArray.mk #[45])) = q4
        cases q1 <;> cases q2 <;> cases q3 <;> cases q4 <;> cases k <;> rfl
      rw [F115_58_eq, lt_pre, ifK_true, in_pre, chkK_true, n0, intK_int, n1, strK_str, h74, h74, h74]
      rw [show netsGo (x :: r) = ifK (netE x != 0) (netE x) (netsGo r) from rfl]
      have hself : (ByteArray.toList x.2 == ByteArray.toList x.2) = true := by simp
      rw [hself]
      unfold netE kindBad markX emptyB dashB
      have hne : (x.1 != 0) = !(x.1 == 0) := rfl
      rw [hne]
      generalize outM x.1 999 = q1
      generalize hq2 : (ByteArray.toList x.2 == ByteArray.toList (ByteArray.mk #[])) = q2
      generalize hq3 : (ByteArray.toList x.2 == ByteArray.toList (ByteArray.mk #[120])) = q3
      generalize hq4 : (ByteArray.toList x.2 == ByteArray.toList (ByteArray.mk #[45])) = q4
      generalize (x.1 == 0) = q5
      cases q1 <;> cases q2 <;> cases q3 <;> cases q4 <;> cases q5 <;> rfl
/-- The program's check of net strokes. -/
theorem ok115 {f : Bool} (l : List NetV) : OK5 115 [.slc f l.length (l.flatMap netD)] (.int .i64 (netsErr l)) := by
  refine fnT bE_ok Tryz.func115 (ord := O0) (N := N115) (by kernel_rfl) ((F115_eq _ _ _ _ _ _).trans ?_)
  rw [e83, optK_some, intK_int, e83, optK_some, intK_int, e81, optK_some, intK_int]
  unfold netsErr
  cases (l.length : Int) == 0 with
  | true => rfl
  | false =>
    cases h2 : decide ((l.length : Int) > 36) with
    | true => rfl
    | false =>
      rw [ifK_false, ifK_false, ifK_false, ifK_false]
      simp only [decide_eq_false_iff_not] at h2
      rw [show (fst2 0 0 != 0) = false from rfl, ifK_false]
      exact go115 (f := f) l [] LL rfl (by omega) (by unfold LL; omega)
end Go.Pd
end

section
namespace Go.Pd
open Go Go.Proofs Go.RowKit

theorem ok68 (up to : Int) : OK5 68 [.int .i64 up, .int .i64 to] (.bool (overV up to)) := by
  refine fnT none_ok Tryz.func68 (ord := O0) (N := N0) (by kernel_rfl) ((F68_eq _ _ _ _ _).trans ?_)
  unfold overV
  cases decide ((if IntKind.wrap .i64 (0 - up) > up then IntKind.wrap .i64 (0 - up) else up) > to) <;> rfl
theorem ok91 (a b : NetV) : OK5 91 [.agg [.int .i64 a.1, .str a.2], .agg [.int .i64 b.1, .str b.2]] (.int .i64 (holeV a.1 a.2 b.1 b.2)) := by
  refine fnT none_ok Tryz.func91 (ord := O0) (N := N91) (by kernel_rfl) ((F91_eq _ _ _ _ _ _ _).trans ?_)
  rw [F91_7_eq _ _ _ _ _ _ _ (fun _ => rfl : ∀ t, C1 t = 1)]
  unfold holeV cmpV emptyB
  have h1 : decide (b.1 > a.1) = decide (a.1 < b.1) := rfl
  rw [h1]
  by_cases hlt : a.1 < b.1
  · have h2 : decide (b.1 < a.1) = false := by simp; omega
    rw [h2, show decide (a.1 < b.1) = true by simpa using hlt]
    cases (ByteArray.toList a.2 == ByteArray.toList (ByteArray.mk #[])) <;> cases (ByteArray.toList b.2 == ByteArray.toList (ByteArray.mk #[])) <;> rfl
  · rw [show decide (a.1 < b.1) = false by simpa using hlt]
    cases decide (b.1 < a.1) <;> cases (ByteArray.toList a.2 == ByteArray.toList (ByteArray.mk #[])) <;> cases (ByteArray.toList b.2 == ByteArray.toList (ByteArray.mk #[])) <;> rfl
def b25 : FuncId → List D → Option D := fun k ds => match k, ds with
  | 68, [.int .i64 up, .int .i64 to] => some (.bool (overV up to))
  | 91, [.agg [.int .i64 x, .str s], .agg [.int .i64 y, .str t]] => some (.int .i64 (holeV x s y t))
  | _, _ => none
theorem b25_ok : CallsT b25 := by
  intro k ds r h
  unfold b25 at h
  split at h
  · cases h; exact ok68 _ _
  · rename_i x s y t
    cases h
    exact ok91 (x, s) (y, t)
  · cases h
theorem m68 (up to : Int) : callOf b25 68 [.int .i64 up, .int .i64 to] = some (.bool (overV up to)) := rfl
theorem m91 (x y : Int) (s t : ByteArray) : callOf b25 91 [.agg [.int .i64 x, .str s], .agg [.int .i64 y, .str t]] = some (.int .i64 (holeV x s y t)) := rfl
/-- The states of a match. -/
def sdGo : List NetV → List NetV → Int → Int → List StV
  | a :: ra, b :: rb, up, to => ifK (dashB a.2) [] (ifK (dashB b.2) []
      ((IntKind.wrap .i64 (up + holeV a.1 a.2 b.1 b.2), IntKind.wrap .i64 (to - 1), overV (IntKind.wrap .i64 (up + holeV a.1 a.2 b.1 b.2)) (IntKind.wrap .i64 (to - 1))) ::
        ifK (overV (IntKind.wrap .i64 (up + holeV a.1 a.2 b.1 b.2)) (IntKind.wrap .i64 (to - 1))) [] (sdGo ra rb (IntKind.wrap .i64 (up + holeV a.1 a.2 b.1 b.2)) (IntKind.wrap .i64 (to - 1)))))
  | _, _, _, _ => []
theorem sdGo_len : ∀ (ra rb : List NetV) (up to : Int), (sdGo ra rb up to).length ≤ ra.length
  | [], _, _, _ => by simp [sdGo]
  | a :: ra, [], _, _ => by simp [sdGo]
  | a :: ra, b :: rb, up, to => by
    unfold sdGo
    cases dashB a.2 with
    | true => simp
    | false =>
      rw [ifK_false]
      cases dashB b.2 with
      | true => simp
      | false =>
        rw [ifK_false]
        cases overV (IntKind.wrap .i64 (up + holeV a.1 a.2 b.1 b.2)) (IntKind.wrap .i64 (to - 1)) with
        | true => simp
        | false =>
          have := sdGo_len ra rb (IntKind.wrap .i64 (up + holeV a.1 a.2 b.1 b.2)) (IntKind.wrap .i64 (to - 1))
          simp
          omega
theorem go25 {f g : Bool} {n : Nat} (hn1000 : n ≤ 1000) : ∀ (ra rb prea preb : List NetV) (fuel : Nat) (acc : List StV) (up : Int), (prea ++ ra).length = n → (preb ++ rb).length = n → prea.length = preb.length → acc.length ≤ prea.length → ra.length < fuel →
    F25_122 (callOf b25) LL C1 fuel f n ((prea ++ ra).flatMap netD) g n ((preb ++ rb).flatMap netD) (owR stD acc) up (prea.length : Int) = some (slR stD (acc ++ sdGo ra rb up ra.length)) := by
  intro ra
  induction ra with
  | nil =>
    intro rb prea preb fuel acc up hn hm hp hacc hf
    cases fuel with
    | zero => exact absurd hf (Nat.not_lt_zero _)
    | succ fuel =>
      have h1 : decide ((prea.length : Int) < (n : Int)) = false := by rw [← hn]; simp
      rw [show sdGo [] rb up ([] : List NetV).length = [] by simp [sdGo], List.append_nil acc]
      cases acc with
      | nil =>
        show F25_122 (callOf b25) LL C1 (fuel + 1) f _ _ _ _ _ .nil _ _ = _
        rw [F25_122_eqn, h1, ifK_false]
        rfl
      | cons o os =>
        show F25_122 (callOf b25) LL C1 (fuel + 1) f _ _ _ _ _ (.own (os.length + 1) ((o :: os).flatMap stD)) _ _ = _
        rw [F25_122_eqo, h1, ifK_false]
        rfl
  | cons a ra ih =>
    intro rb prea preb fuel acc up hn hm hp hacc hf
    cases fuel with
    | zero => exact absurd hf (Nat.not_lt_zero _)
    | succ fuel =>
      cases rb with
      | nil => simp at hn hm; omega
      | cons b rb =>
        have hlen : n = prea.length + ra.length + 1 := by rw [← hn]; simp; omega
        have h1 : decide ((prea.length : Int) < (n : Int)) = true := by simp; omega
        have h2 : decide ((0 : Int) ≤ (prea.length : Int) ∧ (prea.length : Int) < (n : Int)) = true := by simp; omega
        have a0 : ∀ {γ : Type} (c : D → Option γ), cellK ((prea ++ a :: ra).flatMap netD) (Int.toNat (prea.length : Int) * 2 + 0) c = c (.int .i64 a.1) := fun c => n0 c prea a ra
        have a1 : ∀ {γ : Type} (c : D → Option γ), cellK ((prea ++ a :: ra).flatMap netD) (Int.toNat (prea.length : Int) * 2 + 1) c = c (.str a.2) := fun c => n1 c prea a ra
        have b0 : ∀ {γ : Type} (c : D → Option γ), cellK ((preb ++ b :: rb).flatMap netD) (Int.toNat (prea.length : Int) * 2 + 0) c = c (.int .i64 b.1) := fun c => by rw [hp]; exact n0 c preb b rb
        have b1 : ∀ {γ : Type} (c : D → Option γ), cellK ((preb ++ b :: rb).flatMap netD) (Int.toNat (prea.length : Int) * 2 + 1) c = c (.str b.2) := fun c => by rw [hp]; exact n1 c preb b rb
        have hw : IntKind.wrap .i64 ((prea.length : Int) + 1) = ((prea ++ [a]).length : Int) := by rw [wrap_id (by omega)]; simp
        have ht : IntKind.wrap .i64 (IntKind.wrap .i64 ((n : Int) - (prea.length : Int)) - 1) = IntKind.wrap .i64 ((((a :: ra).length : Nat) : Int) - 1) := by
          rw [wrap_id (x := (n : Int) - (prea.length : Int)) (by omega), show (n : Int) - (prea.length : Int) - 1 = (((a :: ra).length : Nat) : Int) - 1 by simp; omega]
        have htn : IntKind.wrap .i64 ((((a :: ra).length : Nat) : Int) - 1) = (ra.length : Int) := by rw [wrap_id (by simp; omega)]; simp
        have ihh := fun (acc' : List StV) (hacc' : acc'.length ≤ (prea ++ [a]).length) => ih rb (prea ++ [a]) (preb ++ [b]) fuel acc' (IntKind.wrap .i64 (up + holeV a.1 a.2 b.1 b.2)) (by rw [app1]; exact hn) (by rw [app1]; exact hm) (by simp [hp]) hacc' (by simp at hf; omega)
        rw [app1, app1] at ihh
        have e := show sdGo (a :: ra) (b :: rb) up ((a :: ra).length : Nat) = ifK (dashB a.2) [] (ifK (dashB b.2) []
          ((IntKind.wrap .i64 (up + holeV a.1 a.2 b.1 b.2), IntKind.wrap .i64 ((((a :: ra).length : Nat) : Int) - 1), overV (IntKind.wrap .i64 (up + holeV a.1 a.2 b.1 b.2)) (IntKind.wrap .i64 ((((a :: ra).length : Nat) : Int) - 1))) ::
          ifK (overV (IntKind.wrap .i64 (up + holeV a.1 a.2 b.1 b.2)) (IntKind.wrap .i64 ((((a :: ra).length : Nat) : Int) - 1))) [] (sdGo ra rb (IntKind.wrap .i64 (up + holeV a.1 a.2 b.1 b.2)) (IntKind.wrap .i64 ((((a :: ra).length : Nat) : Int) - 1))))) from rfl
        rw [e]
        have hd : ∀ s : ByteArray, (ByteArray.toList s == ByteArray.toList (ByteArray.mk #[45])) = dashB s := fun _ => rfl
        have hlast : ∀ s : StV, slR stD (acc ++ [s]) = .slc false (acc.length + 1) (acc.flatMap stD ++ stD s) := fun s => by
          unfold slR
          rw [show (acc ++ [s]).isEmpty = false by simp, List.length_append, List.flatMap_append]
          simp
        have how : ∀ s : StV, owR stD (acc ++ [s]) = .own (acc.length + 1) (acc.flatMap stD ++ stD s) := fun s => by
          cases acc with
          | nil => rfl
          | cons o os =>
            show Ow.own ((os ++ [s]).length + 1) (((o :: os) ++ [s]).flatMap stD) = _
            rw [List.flatMap_append, show (os ++ [s]).length = os.length + 1 by simp]
            simp
        have fin : ∀ (x : Bool), overV (IntKind.wrap .i64 (up + holeV a.1 a.2 b.1 b.2)) (IntKind.wrap .i64 ((((a :: ra).length : Nat) : Int) - 1)) = x →
            ifK x (some (D.slc false (acc.length + 1) (acc.flatMap stD ++ [.int .i64 (IntKind.wrap .i64 (up + holeV a.1 a.2 b.1 b.2)), .int .i64 (IntKind.wrap .i64 ((((a :: ra).length : Nat) : Int) - 1)), .bool x])))
              (F25_122 (callOf b25) LL C1 fuel f n ((prea ++ a :: ra).flatMap netD) g n ((preb ++ b :: rb).flatMap netD) (.own (acc.length + 1) (acc.flatMap stD ++ [.int .i64 (IntKind.wrap .i64 (up + holeV a.1 a.2 b.1 b.2)), .int .i64 (IntKind.wrap .i64 ((((a :: ra).length : Nat) : Int) - 1)), .bool x])) (IntKind.wrap .i64 (up + holeV a.1 a.2 b.1 b.2)) ((prea ++ [a]).length : Int)) =
            some (slR stD (acc ++ (IntKind.wrap .i64 (up + holeV a.1 a.2 b.1 b.2), IntKind.wrap .i64 ((((a :: ra).length : Nat) : Int) - 1), x) :: ifK x [] (sdGo ra rb (IntKind.wrap .i64 (up + holeV a.1 a.2 b.1 b.2)) (IntKind.wrap .i64 ((((a :: ra).length : Nat) : Int) - 1))))) := fun x _ => by
          cases x with
          | true => rw [ifK_true, ifK_true, hlast]; rfl
          | false =>
            rw [ifK_false, ifK_false]
            have := ihh (acc ++ [(IntKind.wrap .i64 (up + holeV a.1 a.2 b.1 b.2), IntKind.wrap .i64 ((((a :: ra).length : Nat) : Int) - 1), false)]) (by simp; omega)
            rw [how, htn] at this
            rw [htn]
            rw [List.append_assoc] at this
            exact this
        have h39 : F25_3913 (callOf b25) LL C1 fuel f n ((prea ++ a :: ra).flatMap netD) g n ((preb ++ b :: rb).flatMap netD) up (prea.length : Int) (owR stD acc) =
            some (slR stD (acc ++ (IntKind.wrap .i64 (up + holeV a.1 a.2 b.1 b.2), IntKind.wrap .i64 ((((a :: ra).length : Nat) : Int) - 1), overV (IntKind.wrap .i64 (up + holeV a.1 a.2 b.1 b.2)) (IntKind.wrap .i64 ((((a :: ra).length : Nat) : Int) - 1))) :: ifK (overV (IntKind.wrap .i64 (up + holeV a.1 a.2 b.1 b.2)) (IntKind.wrap .i64 ((((a :: ra).length : Nat) : Int) - 1))) [] (sdGo ra rb (IntKind.wrap .i64 (up + holeV a.1 a.2 b.1 b.2)) (IntKind.wrap .i64 ((((a :: ra).length : Nat) : Int) - 1))))) := by
          rw [← fin _ rfl]
          cases acc with
          | nil =>
            show F25_3913 (callOf b25) LL C1 fuel f _ _ _ _ _ _ _ .nil = _
            rw [F25_3913_eqn _ _ _ _ _ _ _ _ _ _ _ _ (fun _ => rfl : ∀ t, C1 t = 1), h2, chkK_true, a0, intK_int, a1, strK_str, chkK_true, b0, intK_int, b1, strK_str, m91, optK_some, intK_int, ht, m68, optK_some, boolK_bool, optK_some, boolK_bool, hw]
            rfl
          | cons o os =>
            show F25_3913 (callOf b25) LL C1 fuel f _ _ _ _ _ _ _ (.own (os.length + 1) ((o :: os).flatMap stD)) = _
            rw [F25_3913_eqo _ _ _ _ _ _ _ _ _ _ _ _ _ _ (fun _ => rfl : ∀ t, C1 t = 1), h2, chkK_true, a0, intK_int, a1, strK_str, chkK_true, b0, intK_int, b1, strK_str, m91, optK_some, intK_int, ht, m68, optK_some, boolK_bool,
              room24 (by have hlo : (o :: os).length = os.length + 1 := rfl; omega), chkK_true, optK_some, boolK_bool, hw]
            rfl
        have hnil : some (slR stD acc) = some (slR stD (acc ++ [])) := by rw [List.append_nil]
        cases acc with
        | nil =>
          show F25_122 (callOf b25) LL C1 (fuel + 1) f _ _ _ _ _ .nil _ _ = _
          rw [F25_122_eqn, h1, ifK_true, h2, chkK_true, a1, strK_str, chkK_true, b1, strK_str, hd, hd]
          have h39' : F25_3913 (callOf b25) LL C1 fuel f n ((prea ++ a :: ra).flatMap netD) g n ((preb ++ b :: rb).flatMap netD) up (prea.length : Int) .nil = _ := h39
          rw [h39']
          cases dashB a.2 <;> cases dashB b.2 <;> rfl
        | cons o os =>
          show F25_122 (callOf b25) LL C1 (fuel + 1) f _ _ _ _ _ (.own (os.length + 1) ((o :: os).flatMap stD)) _ _ = _
          rw [F25_122_eqo, h1, ifK_true, h2, chkK_true, a1, strK_str, chkK_true, b1, strK_str, hd, hd]
          have h39' : F25_3913 (callOf b25) LL C1 fuel f n ((prea ++ a :: ra).flatMap netD) g n ((preb ++ b :: rb).flatMap netD) up (prea.length : Int) (.own (os.length + 1) ((o :: os).flatMap stD)) = _ := h39
          rw [h39']
          cases dashB a.2 with
          | true => rw [ifK_true, ifK_true, ← hnil]; rfl
          | false =>
            rw [ifK_false, ifK_false]
            cases dashB b.2 with
            | true => rw [ifK_true, ifK_true, ← hnil]; rfl
            | false => rw [ifK_false, ifK_false]
/-- The states of two lists. -/
def sidesV (a b : List NetV) : List StV := sdGo a b 0 a.length
theorem ok25 {f g : Bool} (a b : List NetV) (hab : a.length = b.length) (ha : a.length ≤ 1000) : OK5 25 [.slc f a.length (a.flatMap netD), .slc g b.length (b.flatMap netD)] (slR stD (sidesV a b)) := by
  refine fnT b25_ok Tryz.func25 (ord := O0) (N := N25) (by kernel_rfl) ((F25_eq _ _ _ _ _ _ _ _ _).trans ?_)
  have := go25 (f := f) (g := g) ha a b [] [] LL [] 0 rfl hab.symm rfl (Nat.le_refl _) (by unfold LL; omega)
  rw [← hab]
  exact this
/-! ### The program's match -/
theorem stGo_step (m : Nat) (a b : List D) (k i : Nat) (up to : Int) : stGo m a b (k + 1) i up to = cellK a (i * 2 + 1) fun d => strK d fun s => ifK (dashB s) (some []) (chkK (decide (i < m)) (cellK b (i * 2 + 1) fun d1 => strK d1 fun s1 => ifK (dashB s1) (some [])
      (cellK a (i * 2 + 0) fun d2 => intK .i64 d2 fun x => cellK b (i * 2 + 0) fun d3 => intK .i64 d3 fun y =>
        emitK [.agg [.int .i64 (IntKind.wrap .i64 (up + holeV x s y s1)), .int .i64 (IntKind.wrap .i64 (to - 1)), .bool (overV (IntKind.wrap .i64 (up + holeV x s y s1)) (IntKind.wrap .i64 (to - 1)))]]
          (stGo m a b k (i + 1) (IntKind.wrap .i64 (up + holeV x s y s1)) (IntKind.wrap .i64 (to - 1))) (some [])))) := rfl
theorem join_sd {m : Nat} : ∀ (ra rb prea preb : List NetV) (acc : List StV) (up to : Int), (preb ++ rb).length = m → prea.length = preb.length → ra.length ≤ rb.length →
    ∃ ys, stGo m ((prea ++ ra).flatMap netD) ((preb ++ rb).flatMap netD) ra.length prea.length up to = some ys ∧ joinGo ys acc.length (acc.flatMap stD) = some (slR stD (acc ++ sdGo ra rb up to)) := by
  intro ra
  induction ra with
  | nil =>
    intro rb prea preb acc up to hm hp hl
    refine ⟨[], rfl, ?_⟩
    rw [show sdGo [] rb up to = [] by simp [sdGo], List.append_nil]
    cases acc with
    | nil => rfl
    | cons o os => rfl
  | cons a ra ih =>
    intro rb prea preb acc up to hm hp hl
    cases rb with
    | nil => simp at hl
    | cons b rb =>
      have hlt : prea.length < m := by rw [← hm]; simp; omega
      have g1 : ((prea ++ a :: ra).flatMap netD)[prea.length * 2 + 1]? = some (.str a.2) := flat_get a ra netD 2 (fun _ => rfl) prea 1 (by omega)
      have g0 : ((prea ++ a :: ra).flatMap netD)[prea.length * 2 + 0]? = some (.int .i64 a.1) := flat_get a ra netD 2 (fun _ => rfl) prea 0 (by omega)
      have k1 : ((preb ++ b :: rb).flatMap netD)[prea.length * 2 + 1]? = some (.str b.2) := by rw [hp]; exact flat_get b rb netD 2 (fun _ => rfl) preb 1 (by omega)
      have k0 : ((preb ++ b :: rb).flatMap netD)[prea.length * 2 + 0]? = some (.int .i64 b.1) := by rw [hp]; exact flat_get b rb netD 2 (fun _ => rfl) preb 0 (by omega)
      have hstep := stGo_step m ((prea ++ a :: ra).flatMap netD) ((preb ++ b :: rb).flatMap netD) ra.length prea.length up to
      rw [cellK_some g1, strK_str, cellK_some k1, strK_str, cellK_some g0, intK_int, cellK_some k0, intK_int, show decide (prea.length < m) = true by simpa using hlt, chkK_true] at hstep
      have e := show sdGo (a :: ra) (b :: rb) up to = ifK (dashB a.2) [] (ifK (dashB b.2) []
          ((IntKind.wrap .i64 (up + holeV a.1 a.2 b.1 b.2), IntKind.wrap .i64 (to - 1), overV (IntKind.wrap .i64 (up + holeV a.1 a.2 b.1 b.2)) (IntKind.wrap .i64 (to - 1))) ::
          ifK (overV (IntKind.wrap .i64 (up + holeV a.1 a.2 b.1 b.2)) (IntKind.wrap .i64 (to - 1))) [] (sdGo ra rb (IntKind.wrap .i64 (up + holeV a.1 a.2 b.1 b.2)) (IntKind.wrap .i64 (to - 1))))) from rfl
      rw [e]
      have hend : joinGo [] acc.length (acc.flatMap stD) = some (slR stD (acc ++ [])) := by
        rw [List.append_nil]
        cases acc with
        | nil => rfl
        | cons o os => rfl
      cases hda : dashB a.2 with
      | true =>
        rw [hda, ifK_true] at hstep
        exact ⟨[], hstep, hend⟩
      | false =>
        rw [hda, ifK_false] at hstep
        rw [ifK_false]
        cases hdb : dashB b.2 with
        | true =>
          rw [hdb, ifK_true] at hstep
          exact ⟨[], hstep, hend⟩
        | false =>
          rw [hdb, ifK_false] at hstep
          rw [ifK_false]
          have ihh := ih rb (prea ++ [a]) (preb ++ [b]) (acc ++ [(IntKind.wrap .i64 (up + holeV a.1 a.2 b.1 b.2), IntKind.wrap .i64 (to - 1), false)]) (IntKind.wrap .i64 (up + holeV a.1 a.2 b.1 b.2)) (IntKind.wrap .i64 (to - 1)) (by rw [app1]; exact hm) (by simp [hp]) (by simp at hl; omega)
          obtain ⟨ys, hy1, hy2⟩ := ihh
          rw [app1, app1, show (prea ++ [a]).length = prea.length + 1 by simp] at hy1
          rw [hy1] at hstep
          refine ⟨_, hstep, ?_⟩
          cases hov : overV (IntKind.wrap .i64 (up + holeV a.1 a.2 b.1 b.2)) (IntKind.wrap .i64 (to - 1)) with
          | true =>
            rw [ifK_true]
            show some (D.slc false (acc.length + 1) (acc.flatMap stD ++ [.int .i64 (IntKind.wrap .i64 (up + holeV a.1 a.2 b.1 b.2)), .int .i64 (IntKind.wrap .i64 (to - 1)), .bool true])) = _
            unfold slR
            rw [show (acc ++ [(IntKind.wrap .i64 (up + holeV a.1 a.2 b.1 b.2), IntKind.wrap .i64 (to - 1), true)]).isEmpty = false by simp, List.length_append, List.flatMap_append]
            rfl
          | false =>
            rw [ifK_false]
            show joinGo ys (acc.length + 1) (acc.flatMap stD ++ [.int .i64 (IntKind.wrap .i64 (up + holeV a.1 a.2 b.1 b.2)), .int .i64 (IntKind.wrap .i64 (to - 1)), .bool false]) = _
            rw [List.append_assoc] at hy2
            rw [List.length_append, List.flatMap_append] at hy2
            exact hy2
theorem ok88 {f g : Bool} (a b : List NetV) (hab : a.length = b.length) (ha : a.length < 100) : OK5 88 [.slc f a.length (a.flatMap netD), .slc g b.length (b.flatMap netD)] (slR stD (sidesV a b)) := by
  refine match_ok _ _ ?_
  obtain ⟨ys, h1, h2⟩ := join_sd (m := b.length) a b [] [] [] 0 a.length rfl rfl (by omega)
  show (match decide (a.length < 100) with
    | true => optK (sqT 151 [.snap [.slc f a.length (a.flatMap netD)] 0, .snap [.slc g b.length (b.flatMap netD)] 0]) fun ys => joinGo ys 0 []
    | false => none) = _
  rw [show decide (a.length < 100) = true by simpa using ha]
  show optK (chkK (decide (a.length < 4611686018427387904)) (stGo b.length (a.flatMap netD) (b.flatMap netD) a.length 0 0 a.length)) (fun ys => joinGo ys 0 []) = _
  rw [show decide (a.length < 4611686018427387904) = true by simp; omega, chkK_true]
  have h1' : stGo b.length (a.flatMap netD) (b.flatMap netD) a.length 0 0 a.length = some ys := h1
  rw [h1', optK_some]
  exact h2
end Go.Pd
end

section
namespace Go.Pd
open Go Go.Proofs Go.RowKit
theorem evA_ok {k : FuncId} {ds : List D} {r : D} (h : evA k ds = some r) : CallOK Tryz.prog (fun _ => none) k ds r := by
  refine evF_ok mixedT X1_ok m1_ok (fun f od fn _ ho hf => ?_) 40 k ds _ h
  refine okAll_get _ okA f ?_ od fn ho hf
  unfold ordA at ho
  split at ho
  · rename_i hd
    simp only [decide_eq_true_eq] at hd
    simp; omega
  · cases ho
def isText (n : Nat) : Option D → Bool
  | some (.str s) => s.toList == digs2 n
  | _ => false
theorem text_ev : (List.range 37).all (fun n => isText n (evA 118 [.int .i64 n])) = true := by kernel_rfl
theorem ok118 (n : Nat) (h : n < 37) : CallOK Tryz.prog (fun _ => none) 118 [.int .i64 n] (.str ⟨(digs2 n).toArray⟩) := by
  have h1 := List.all_eq_true.1 text_ev n (by simpa using h)
  have h2 : evA 118 [.int .i64 n] = some (.str ⟨(digs2 n).toArray⟩) := by
    revert h1
    generalize evA 118 [.int .i64 n] = x
    intro h1
    unfold isText at h1
    split at h1
    · rename_i s
      have hs : s.toList = digs2 n := by simpa using h1
      rw [← hs, ByteArray.toList_eq]
    · cases h1
  exact evA_ok h2
end Go.Pd
end

section
namespace Go.Pd
open Go Go.Proofs Go.RowKit

/-- Net strokes out of their cells. -/
def unnets : List D → Option (List NetV)
  | [] => some []
  | .int .i64 x :: .str s :: r => (unnets r).map ((x, s) :: ·)
  | _ => none
theorem unnets_flat : ∀ l : List NetV, unnets (l.flatMap netD) = some l
  | [] => rfl
  | x :: l => by
    rw [show (x :: l).flatMap netD = .int .i64 x.1 :: .str x.2 :: l.flatMap netD from rfl]
    unfold unnets
    rw [unnets_flat l]
    rfl
theorem unnets_inv : ∀ {cs : List D} {l : List NetV}, unnets cs = some l → cs = l.flatMap netD
  | [], l, h => by cases h; rfl
  | [d], l, h => by
    unfold unnets at h
    split at h
    · rename_i he; cases he
    · rename_i he; cases he
    · cases h
  | d :: e :: cs, l, h => by
    unfold unnets at h
    split at h
    · rename_i he; cases he
    · rename_i x s r hh
      cases hh
      cases hr : unnets cs with
      | none => rw [hr] at h; cases h
      | some l' =>
        rw [hr] at h
        cases h
        rw [unnets_inv hr]
        rfl
    · cases h
def bN : FuncId → List D → Option D := fun k ds => match k, ds with
  | 115, [.slc _ n c] => (match unnets c with
    | some l => if l.length = n then some (.int .i64 (netsErr l)) else none
    | none => none)
  | 65, [.slc _ n c] => (match unnets c with
    | some l => if l.length = n then some (.int .i64 (netsErr l)) else none
    | none => none)
  | 62, [.slc _ n c] => (match unnets c with
    | some l => if l.length = n ∧ n ≤ 9223372036854775807 then some (.bool (brGo n l)) else none
    | none => none)
  | 43, [.slc _ n c] => (match unnets c with
    | some l => if l.length = n ∧ n ≤ 1000 then some (slR netD l) else none
    | none => none)
  | 88, [.slc _ n c, .slc _ m d] => (match unnets c, unnets d with
    | some a, some b => if a.length = n ∧ b.length = m ∧ n = m ∧ n < 100 then some (slR stD (sidesV a b)) else none
    | _, _ => none)
  | 25, [.slc _ n c, .slc _ m d] => (match unnets c, unnets d with
    | some a, some b => if a.length = n ∧ b.length = m ∧ n = m ∧ n < 100 then some (slR stD (sidesV a b)) else none
    | _, _ => none)
  | 68, [.int .i64 up, .int .i64 to] => some (.bool (overV up to))
  | 24, [.bool b, .int .i64 e] => some (.int .i64 (ifK b e 0))
  | 22, [.slc true 3 [.int .i64 x, .int .i64 y, .int .i64 z]] => some (.int .i64 (fst3 x y z))
  | 16, [] => some (.bool true)
  | 118, [.int .i64 n] => (match decide (0 ≤ n ∧ n < 37) with
    | true => some (.str ⟨(digs2 n.toNat).toArray⟩)
    | false => none)
  | 27, [.slc _ 0 [], .nils] => some (.bool true)
  | k, ds => bE k ds
theorem bN_ok : CallsT bN := by
  intro k ds r h
  unfold bN at h
  split at h
  · split at h
    · rename_i l hl
      split at h
      · rename_i hc
        cases h
        rw [unnets_inv hl, ← hc]
        exact ok115 l
      · cases h
    · cases h
  · split at h
    · rename_i l hl
      split at h
      · rename_i hc
        cases h
        rw [unnets_inv hl, ← hc]
        exact ok65 l
      · cases h
    · cases h
  · split at h
    · rename_i l hl
      split at h
      · rename_i hc
        obtain ⟨rfl, h1⟩ := hc
        cases h
        rw [unnets_inv hl]
        exact ok62 l h1
      · cases h
    · cases h
  · split at h
    · rename_i l hl
      split at h
      · rename_i hc
        obtain ⟨rfl, h1⟩ := hc
        cases h
        rw [unnets_inv hl]
        exact ok43 l h1
      · cases h
    · cases h
  · split at h
    · rename_i a b ha hb
      split at h
      · rename_i hc
        obtain ⟨rfl, rfl, h1, h2⟩ := hc
        cases h
        rw [unnets_inv ha, unnets_inv hb]
        exact ok88 a b h1 h2
      · cases h
    · cases h
  · split at h
    · rename_i a b ha hb
      split at h
      · rename_i hc
        obtain ⟨rfl, rfl, h1, h2⟩ := hc
        cases h
        rw [unnets_inv ha, unnets_inv hb]
        exact ok25 a b h1 (by omega)
      · cases h
    · cases h
  · cases h; exact ok68 _ _
  · cases h; exact ok24 _ _
  · cases h; exact ok22t _ _ _
  · cases h; exact awake_ok
  · rename_i n
    split at h
    · rename_i hd
      simp only [decide_eq_true_eq] at hd
      cases h
      obtain ⟨k, rfl⟩ : ∃ k : Nat, n = k := ⟨n.toNat, by omega⟩
      exact ok118 k (by omega)
    · cases h
  · cases h; exact ok27n
  · exact bE_ok _ _ _ h
section
variable {f g : Bool} (l a b : List NetV)
theorem c115 : callOf bN 115 [.slc f l.length (l.flatMap netD)] = some (.int .i64 (netsErr l)) := by
  show bN 115 [.slc f l.length (l.flatMap netD)] = _
  unfold bN
  simp only [unnets_flat, if_true]
theorem c65 : callOf bN 65 [.slc f l.length (l.flatMap netD)] = some (.int .i64 (netsErr l)) := by
  show bN 65 [.slc f l.length (l.flatMap netD)] = _
  unfold bN
  simp only [unnets_flat, if_true]
theorem c62 (hl : l.length ≤ 9223372036854775807) : callOf bN 62 [.slc f l.length (l.flatMap netD)] = some (.bool (brGo l.length l)) := by
  show bN 62 [.slc f l.length (l.flatMap netD)] = _
  unfold bN
  simp only [unnets_flat]
  rw [if_pos ⟨trivial, hl⟩]
theorem c43 (hl : l.length ≤ 1000) : callOf bN 43 [.slc f l.length (l.flatMap netD)] = some (slR netD l) := by
  show bN 43 [.slc f l.length (l.flatMap netD)] = _
  unfold bN
  simp only [unnets_flat]
  rw [if_pos ⟨trivial, hl⟩]
theorem c88 (h1 : a.length = b.length) (h2 : a.length < 100) : callOf bN 88 [.slc f a.length (a.flatMap netD), .slc g b.length (b.flatMap netD)] = some (slR stD (sidesV a b)) := by
  show bN 88 [.slc f a.length (a.flatMap netD), .slc g b.length (b.flatMap netD)] = _
  unfold bN
  simp only [unnets_flat]
  rw [if_pos ⟨trivial, trivial, h1, h2⟩]
theorem c25 (h1 : a.length = b.length) (h2 : a.length < 100) : callOf bN 25 [.slc f a.length (a.flatMap netD), .slc g b.length (b.flatMap netD)] = some (slR stD (sidesV a b)) := by
  show bN 25 [.slc f a.length (a.flatMap netD), .slc g b.length (b.flatMap netD)] = _
  unfold bN
  simp only [unnets_flat]
  rw [if_pos ⟨trivial, trivial, h1, h2⟩]
end
section
variable (q : Bool) (e x y z : Int)
theorem c68 : callOf bN 68 [.int .i64 x, .int .i64 y] = some (.bool (overV x y)) := rfl
theorem c116 : callOf bN 116 [.int .i64 x, .int .i64 y] = some (.bool (overV x y)) := rfl
theorem c83 : callOf bN 83 [.bool q, .int .i64 e] = some (.int .i64 (ifK q e 0)) := rfl
theorem c24 : callOf bN 24 [.bool q, .int .i64 e] = some (.int .i64 (ifK q e 0)) := rfl
theorem c84 : callOf bN 84 [.int .i64 x, .int .i64 36] = some (.bool (outM x 36)) := rfl
theorem c81t : callOf bN 81 [.slc true 3 [.int .i64 x, .int .i64 y, .int .i64 z]] = some (.int .i64 (fst3 x y z)) := rfl
theorem c22t : callOf bN 22 [.slc true 3 [.int .i64 x, .int .i64 y, .int .i64 z]] = some (.int .i64 (fst3 x y z)) := rfl
theorem c16 : callOf bN 16 [] = some (.bool true) := rfl
theorem c27n : callOf bN 27 [.slc true 0 [], .nils] = some (.bool true) := rfl
def numB (n : Int) : ByteArray := ⟨(digs2 n.toNat).toArray⟩
theorem c117 (h : 0 ≤ x ∧ x < 37) : callOf bN 117 [.int .i64 x] = some (.str (numB x)) := by
  show (match decide (0 ≤ x ∧ x < 100) with
    | true => some (D.str ⟨(digs2 x.toNat).toArray⟩)
    | false => none) = _
  rw [show decide (0 ≤ x ∧ x < 100) = true by simp; omega]
  rfl
theorem c118 (h : 0 ≤ x ∧ x < 37) : callOf bN 118 [.int .i64 x] = some (.str (numB x)) := by
  show (match decide (0 ≤ x ∧ x < 37) with
    | true => some (D.str ⟨(digs2 x.toNat).toArray⟩)
    | false => none) = _
  rw [show decide (0 ≤ x ∧ x < 37) = true by simpa using h]
  rfl
end
/-- Two lists that are played against each other: their error. -/
def sidesErr (a b : List NetV) : Int := fst3 (netsErr a) (netsErr b) (ifK ((a.length : Int) != b.length) 2 0)
theorem fst3_z {x y z : Int} (h : fst3 x y z = 0) : x = 0 ∧ y = 0 ∧ z = 0 := by
  unfold fst3 at h
  cases h1 : x != 0 with
  | true => rw [h1, ifK_true] at h; rw [h] at h1; cases h1
  | false =>
    rw [h1, ifK_false] at h
    cases h2 : y != 0 with
    | true => rw [h2, ifK_true] at h; rw [h] at h2; cases h2
    | false =>
      rw [h2, ifK_false] at h
      exact ⟨by simpa using h1, by simpa using h2, h⟩
theorem sidesErr_zero {a b : List NetV} (h : sidesErr a b = 0) : a.length = b.length ∧ a.length ≤ 36 := by
  obtain ⟨h1, _, h3⟩ := fst3_z h
  refine ⟨?_, ?_⟩
  · cases hq : ((a.length : Int) != b.length) with
    | true => rw [hq, ifK_true] at h3; cases h3
    | false =>
      have : (a.length : Int) = b.length := by simpa using hq
      omega
  · unfold netsErr at h1
    cases h4 : ((a.length : Int) == 0) with
    | true => rw [h4, ifK_true] at h1; cases h1
    | false =>
      rw [h4, ifK_false] at h1
      cases h5 : decide ((a.length : Int) > 36) with
      | true => rw [h5, ifK_true] at h1; cases h1
      | false =>
        simp only [decide_eq_false_iff_not] at h5
        omega
/-- What Sides answers. -/
def sidesR (a b : List NetV) : D := ifK (sidesErr a b != 0) (.tup [.slc true 0 [], .int .i64 (sidesErr a b)]) (.tup [slR stD (sidesV a b), .int .i64 0])
theorem ok63 {f g : Bool} (a b : List NetV) : OK5 63 [.slc f a.length (a.flatMap netD), .slc g b.length (b.flatMap netD)] (sidesR a b) := by
  refine fnT bN_ok Tryz.func63 (ord := O0) (N := N0) (by kernel_rfl) ((F63_eq _ _ _ _ _ _ _ _ _).trans ?_)
  rw [c115, optK_some, intK_int, c115, optK_some, intK_int, c83, optK_some, intK_int, c81t, optK_some, intK_int]
  show ifK (sidesErr a b != 0) _ _ = _
  unfold sidesR
  cases hz : sidesErr a b != 0 with
  | true => rfl
  | false =>
    have hz0 : sidesErr a b = 0 := by simpa using hz
    obtain ⟨h1, h2⟩ := sidesErr_zero hz0
    rw [ifK_false, ifK_false, c88 a b h1 (by omega), optK_some]
    rfl
/-! ### States in words -/
def stErr (u t : Int) (o : Bool) : Int := ifK (decide (t < 0)) 3 (ifK (decide (t > 36)) 3 (ifK (decide (u < -36)) 3 (ifK (decide (u > 36)) 3 (ifK (!overV u t) 19 (ifK (!o) 1 0)))))
theorem ok66 (u t : Int) (o : Bool) : OK5 66 [.agg [.int .i64 u, .int .i64 t, .bool o]] (.int .i64 (stErr u t o)) := by
  refine fnT bN_ok Tryz.func66 (ord := O0) (N := N66) (by kernel_rfl) ((F66_eq _ _ _ _ _ _).trans ?_)
  rw [F66_7_eq _ _ _ _ _ _ (fun _ => rfl : ∀ t, C1 t = 1), c68, optK_some, boolK_bool]
  unfold stErr
  cases decide (t < 0) <;> cases decide (t > 36) <;> cases decide (u < -36) <;> cases decide (u > 36) <;> cases overV u t <;> cases o <;> rfl
def absI (u : Int) : Int := if IntKind.wrap .i64 (0 - u) > u then IntKind.wrap .i64 (0 - u) else u
theorem absI_b {u : Int} (h : -36 ≤ u ∧ u ≤ 36) : 0 ≤ absI u ∧ absI u < 37 := by
  unfold absI
  rw [wrap_id (by omega)]
  split <;> omega
def sideB (u : Int) : ByteArray := ifK (decide (u < 0)) (ByteArray.mk #[115, 101, 99, 111, 110, 100]) (ByteArray.mk #[102, 105, 114, 115, 116])
def wordsB (u t : Int) : ByteArray := ifK (u == 0) (ByteArray.mk #[104, 97, 108, 118, 101, 100]) (ifK (t == 0) (sideB u ++ ByteArray.mk #[32] ++ numB (absI u) ++ ByteArray.mk #[32, 117, 112]) (sideB u ++ ByteArray.mk #[32] ++ numB (absI u) ++ ByteArray.mk #[32, 97, 110, 100, 32] ++ numB t))
theorem numB_size (n : Int) : (numB n).size ≤ 2 := by
  show (digs2 n.toNat).toArray.size ≤ 2
  unfold digs2
  split <;> simp
theorem small {x : Int} (h : x ≤ 1000) : (!decide (x > 9223372036854775807)) = true := by simp; omega
theorem stErr_zero {u t : Int} {o : Bool} (h : stErr u t o = 0) : (-36 ≤ u ∧ u ≤ 36) ∧ (0 ≤ t ∧ t < 37) := by
  unfold stErr at h
  cases h1 : decide (t < 0) with
  | true => rw [h1, ifK_true] at h; cases h
  | false =>
    cases h2 : decide (t > 36) with
    | true => rw [h1, h2, ifK_false, ifK_true] at h; cases h
    | false =>
      cases h3 : decide (u < -36) with
      | true => rw [h1, h2, h3, ifK_false, ifK_false, ifK_true] at h; cases h
      | false =>
        cases h4 : decide (u > 36) with
        | true => rw [h1, h2, h3, h4, ifK_false, ifK_false, ifK_false, ifK_true] at h; cases h
        | false =>
          simp at h1 h2 h3 h4
          omega
section
theorem z6 : (ByteArray.mk #[115, 101, 99, 111, 110, 100]).size = 6 := rfl
theorem z5 : (ByteArray.mk #[102, 105, 114, 115, 116]).size = 5 := rfl
theorem z7 : (ByteArray.mk #[115, 101, 99, 111, 110, 100, 32]).size = 7 := rfl
theorem z6' : (ByteArray.mk #[102, 105, 114, 115, 116, 32]).size = 6 := rfl
theorem z1 : (ByteArray.mk #[32]).size = 1 := rfl
theorem z3 : (ByteArray.mk #[32, 117, 112]).size = 3 := rfl
theorem z5' : (ByteArray.mk #[32, 97, 110, 100, 32]).size = 5 := rfl
end
theorem w63 {u t : Int} {o : Bool} (hu : -36 ≤ u ∧ u ≤ 36) (ht : 0 ≤ t ∧ t < 37) (side : ByteArray) (hs : side.size ≤ 6) : F64_63 (callOf bN) LL C1 u t o side =
    some (.tup [.str (ifK (t == 0) (side ++ ByteArray.mk #[32] ++ numB (absI u) ++ ByteArray.mk #[32, 117, 112]) (side ++ ByteArray.mk #[32] ++ numB (absI u) ++ ByteArray.mk #[32, 97, 110, 100, 32] ++ numB t)), .int .i64 0]) := by
  rw [F64_63_eq _ _ _ _ _ _ _ (fun _ => rfl : ∀ t, C1 t = 1)]
  have ha := absI_b hu
  have n1 := numB_size (absI u)
  have n2 := numB_size t
  have ha' : (if IntKind.wrap .i64 (0 - u) > u then IntKind.wrap .i64 (0 - u) else u) = absI u := rfl
  rw [small (by omega), chkK_true, ha', c117 _ ha, optK_some, strK_str, small (by rw [ByteArray.size_append, z1]; omega), chkK_true, small (by rw [ByteArray.size_append, ByteArray.size_append, z1]; omega), chkK_true,
    small (by rw [ByteArray.size_append, ByteArray.size_append, z1]; omega), chkK_true, c117 _ ht, optK_some, strK_str, small (by rw [ByteArray.size_append, ByteArray.size_append, ByteArray.size_append, z1, z5']; omega), chkK_true]
  cases t == 0 <;> rfl
theorem w7 {u t : Int} {o : Bool} (hu : -36 ≤ u ∧ u ≤ 36) (ht : 0 ≤ t ∧ t < 37) : F64_7 (callOf bN) LL C1 u t o = some (.tup [.str (wordsB u t), .int .i64 0]) := by
  rw [F64_7_eq _ _ _ _ _ _ (fun _ => rfl : ∀ t, C1 t = 1), w63 hu ht _ (by rw [z6]; omega), w63 hu ht _ (by rw [z5]; omega)]
  unfold wordsB sideB
  cases u == 0 <;> cases decide (u < 0) <;> cases t == 0 <;> rfl
def wordsR (u t : Int) (o : Bool) : D := ifK (stErr u t o != 0) (.tup [.str (ByteArray.mk #[]), .int .i64 (stErr u t o)]) (.tup [.str (wordsB u t), .int .i64 0])
theorem ok64 (u t : Int) (o : Bool) : OK5 64 [.agg [.int .i64 u, .int .i64 t, .bool o]] (wordsR u t o) := by
  refine fnT bN_ok Tryz.func64 (ord := O0) (N := N64) (by kernel_rfl) ((F64_eq _ _ _ _ _ _).trans ?_)
  have hz := @stErr_zero u t o
  unfold wordsR
  unfold stErr at hz ⊢
  simp only [c83, c116, c84, c81t, optK_some, intK_int, boolK_bool]
  unfold outM
  generalize hq1 : decide (t < 0) = q1 at hz ⊢
  generalize hq2 : decide (t > 36) = q2 at hz ⊢
  generalize hq3 : decide (u < -36) = q3 at hz ⊢
  generalize hq4 : decide (u > 36) = q4 at hz ⊢
  generalize overV u t = q5 at hz ⊢
  cases q1
  · cases q2
    · cases q3
      · cases q4
        · cases q5
          · cases o <;> rfl
          · cases o
            · rfl
            · obtain ⟨hu, ht⟩ := hz rfl
              have h7 := w7 (o := true) hu ht
              simp only [Bool.or_false, Bool.not_true, ifK_false, fst3, bne_self_eq_false]
              exact h7
        · cases q5 <;> cases o <;> rfl
      · cases q4 <;> cases q5 <;> cases o <;> rfl
    · cases q3 <;> cases q4 <;> cases q5 <;> cases o <;> rfl
  · cases q2 <;> cases q3 <;> cases q4 <;> cases q5 <;> cases o <;> rfl
theorem ok67 (u t : Int) (o : Bool) (hu : -36 ≤ u ∧ u ≤ 36) (ht : 0 ≤ t ∧ t < 37) : OK5 67 [.agg [.int .i64 u, .int .i64 t, .bool o]] (.str (wordsB u t)) := by
  refine fnT bN_ok Tryz.func67 (ord := O0) (N := N0) (by kernel_rfl) ((F67_eq _ _ _ _ _ _).trans ?_)
  have ha := absI_b hu
  have n1 := numB_size (absI u)
  have n2 := numB_size t
  have ha' : (if IntKind.wrap .i64 (0 - u) > u then IntKind.wrap .i64 (0 - u) else u) = absI u := rfl
  rw [ha', c118 _ ha, optK_some, optK_some, strK_str, strK_str, c118 _ ht, optK_some, optK_some, strK_str, strK_str]
  rw [small (by omega), chkK_true, small (by rw [ByteArray.size_append, z7]; omega), chkK_true, small (by rw [ByteArray.size_append, z7]; omega), chkK_true, small (by rw [ByteArray.size_append, ByteArray.size_append, z7, z5']; omega), chkK_true,
    small (by omega), chkK_true, small (by rw [ByteArray.size_append, z6']; omega), chkK_true, small (by rw [ByteArray.size_append, z6']; omega), chkK_true, small (by rw [ByteArray.size_append, ByteArray.size_append, z6', z5']; omega), chkK_true]
  have e1 : ByteArray.mk #[115, 101, 99, 111, 110, 100, 32] = ByteArray.mk #[115, 101, 99, 111, 110, 100] ++ ByteArray.mk #[32] := by rfl
  have e2 : ByteArray.mk #[102, 105, 114, 115, 116, 32] = ByteArray.mk #[102, 105, 114, 115, 116] ++ ByteArray.mk #[32] := by rfl
  rw [e1, e2]
  unfold wordsB sideB
  cases u == 0 <;> cases decide (u < 0) <;> cases t == 0 <;> rfl
end Go.Pd
end

section
namespace Go.Pd
open Go Go.Proofs Go.RowKit

/-- States out of their cells. -/
def unsts : List D → Option (List StV)
  | [] => some []
  | .int .i64 x :: .int .i64 y :: .bool b :: r => (unsts r).map ((x, y, b) :: ·)
  | _ => none
theorem unsts_flat : ∀ l : List StV, unsts (l.flatMap stD) = some l
  | [] => rfl
  | x :: l => by
    rw [show (x :: l).flatMap stD = .int .i64 x.1 :: .int .i64 x.2.1 :: .bool x.2.2 :: l.flatMap stD from rfl]
    unfold unsts
    rw [unsts_flat l]
    rfl
theorem unsts_inv : ∀ (n : Nat) {cs : List D} {l : List StV}, cs.length ≤ n → unsts cs = some l → cs = l.flatMap stD
  | 0, [], l, _, h => by cases h; rfl
  | n + 1, cs, l, hn, h => by
    unfold unsts at h
    split at h
    · cases h; rfl
    · rename_i x y b r
      cases hr : unsts r with
      | none => rw [hr] at h; cases h
      | some l' =>
        rw [hr] at h
        cases h
        rw [unsts_inv n (by simp at hn; omega) hr]
        rfl
    · cases h
/-- What FormatSides calls. -/
def b12 : FuncId → List D → Option D := fun k ds => match k, ds with
  | 63, [.slc _ n c, .slc _ m d] => (match unnets c, unnets d with
    | some a, some b => if a.length = n ∧ b.length = m then some (sidesR a b) else none
    | _, _ => none)
  | 64, [.agg [.int .i64 u, .int .i64 t, .bool o]] => some (wordsR u t o)
  | 66, [.agg [.int .i64 u, .int .i64 t, .bool o]] => some (.int .i64 (stErr u t o))
  | 67, [.agg [.int .i64 u, .int .i64 t, .bool _]] => (match decide ((-36 ≤ u ∧ u ≤ 36) ∧ (0 ≤ t ∧ t < 37)) with
    | true => some (.str (wordsB u t))
    | false => none)
  | 28, [.slc _ n c] => (match unsts c with
    | some l => if l.length = n ∧ n ≤ 1000 then some (slR stD l) else none
    | none => none)
  | 27, [.slc _ n c, .slc _ m d] => (match unsts c, unsts d with
    | some a, some b => if a = b ∧ a.length = n ∧ b.length = m ∧ n ≤ 1000 then some (.bool true) else none
    | _, _ => none)
  | k, ds => bN k ds
theorem b12_ok : CallsT b12 := by
  intro k ds r h
  unfold b12 at h
  split at h
  · split at h
    · rename_i a b ha hb
      split at h
      · rename_i hc
        obtain ⟨rfl, rfl⟩ := hc
        cases h
        rw [unnets_inv ha, unnets_inv hb]
        exact ok63 a b
      · cases h
    · cases h
  · cases h; exact ok64 _ _ _
  · cases h; exact ok66 _ _ _
  · rename_i u t o
    split at h
    · rename_i hd
      simp only [decide_eq_true_eq] at hd
      cases h
      exact ok67 u t o hd.1 hd.2
    · cases h
  · split at h
    · rename_i l hl
      split at h
      · rename_i hc
        obtain ⟨rfl, h1⟩ := hc
        cases h
        rw [unsts_inv _ (Nat.le_refl _) hl]
        exact ok28 l h1
      · cases h
    · cases h
  · split at h
    · rename_i a b ha hb
      split at h
      · rename_i hc
        obtain ⟨rfl, rfl, rfl, h1⟩ := hc
        cases h
        rw [unsts_inv _ (Nat.le_refl _) ha, unsts_inv _ (Nat.le_refl _) hb]
        exact ok27 a h1
      · cases h
    · cases h
  · exact bN_ok _ _ _ h
section
variable {f g : Bool} (l a b : List NetV) (s : List StV)
theorem d63 : callOf b12 63 [.slc f a.length (a.flatMap netD), .slc g b.length (b.flatMap netD)] = some (sidesR a b) := by
  show b12 63 [.slc f a.length (a.flatMap netD), .slc g b.length (b.flatMap netD)] = _
  unfold b12
  simp only [unnets_flat]
  rw [if_pos ⟨trivial, trivial⟩]
theorem d62 (hl : l.length ≤ 9223372036854775807) : callOf b12 62 [.slc f l.length (l.flatMap netD)] = some (.bool (brGo l.length l)) := c62 (f := f) l hl
theorem d43 (hl : l.length ≤ 1000) : callOf b12 43 [.slc f l.length (l.flatMap netD)] = some (slR netD l) := c43 (f := f) l hl
theorem d65 : callOf b12 65 [.slc f l.length (l.flatMap netD)] = some (.int .i64 (netsErr l)) := c65 (f := f) l
theorem d25 (h1 : a.length = b.length) (h2 : a.length < 100) : callOf b12 25 [.slc f a.length (a.flatMap netD), .slc g b.length (b.flatMap netD)] = some (slR stD (sidesV a b)) := c25 (f := f) (g := g) a b h1 h2
theorem d28 (hs : s.length ≤ 1000) : callOf b12 28 [.slc f s.length (s.flatMap stD)] = some (slR stD s) := by
  show b12 28 [.slc f s.length (s.flatMap stD)] = _
  unfold b12
  simp only [unsts_flat]
  rw [if_pos ⟨trivial, hs⟩]
theorem d27 (hs : s.length ≤ 1000) : callOf b12 27 [.slc f s.length (s.flatMap stD), .slc g s.length (s.flatMap stD)] = some (.bool true) := by
  show b12 27 [.slc f s.length (s.flatMap stD), .slc g s.length (s.flatMap stD)] = _
  unfold b12
  simp only [unsts_flat]
  rw [if_pos ⟨trivial, trivial, trivial, hs⟩]
end
theorem d27n : callOf b12 27 [.slc true 0 [], .nils] = some (.bool true) := rfl
theorem d16 : callOf b12 16 [] = some (.bool true) := rfl
section
variable (q : Bool) (e x y z u t : Int) (o : Bool)
theorem d24 : callOf b12 24 [.bool q, .int .i64 e] = some (.int .i64 (ifK q e 0)) := rfl
theorem d22 : callOf b12 22 [.slc true 3 [.int .i64 x, .int .i64 y, .int .i64 z]] = some (.int .i64 (fst3 x y z)) := rfl
theorem d64 : callOf b12 64 [.agg [.int .i64 u, .int .i64 t, .bool o]] = some (wordsR u t o) := rfl
theorem d66 : callOf b12 66 [.agg [.int .i64 u, .int .i64 t, .bool o]] = some (.int .i64 (stErr u t o)) := rfl
theorem d67 (h : (-36 ≤ u ∧ u ≤ 36) ∧ (0 ≤ t ∧ t < 37)) : callOf b12 67 [.agg [.int .i64 u, .int .i64 t, .bool o]] = some (.str (wordsB u t)) := by
  show (match decide ((-36 ≤ u ∧ u ≤ 36) ∧ (0 ≤ t ∧ t < 37)) with
    | true => some (D.str (wordsB u t))
    | false => none) = _
  rw [show decide ((-36 ≤ u ∧ u ≤ 36) ∧ (0 ≤ t ∧ t < 37)) = true by simpa using h]
end
/-- What Describe answers, as its parts. -/
theorem wordsR_eq (u t : Int) (o : Bool) : wordsR u t o = .tup [.str (ifK (stErr u t o != 0) (ByteArray.mk #[]) (wordsB u t)), .int .i64 (stErr u t o)] := by
  unfold wordsR
  cases hz : stErr u t o != 0 with
  | true => rfl
  | false =>
    have : stErr u t o = 0 := by simpa using hz
    rw [this]
    rfl
/-- The end of the law: states and words held against those of the reference. -/
theorem tail12 {γ : Option D} (u t : Int) (o : Bool) (_ : γ = some (.bool true)) :
    (optK (callOf b12 66 [D.agg [D.int IntKind.i64 u, D.int IntKind.i64 t, D.bool o]]) fun r_15 =>
      (intK IntKind.i64 (r_15) fun x_6 =>
      (ifK (x_6 == 0)
        (optK (callOf b12 67 [D.agg [D.int IntKind.i64 u, D.int IntKind.i64 t, D.bool o]]) fun r_16 =>
          (strK (r_16) fun s_1 =>
          (ifK (stErr u t o == x_6)
            (ifK (ByteArray.toList (ifK (stErr u t o != 0) (ByteArray.mk #[]) (wordsB u t)) == ByteArray.toList s_1)
              (optK (callOf b12 16 []) fun r_17 =>
                (boolK (r_17) fun b_5 =>
                (some (D.bool b_5))))
              (some (D.bool false)))
            (some (D.bool false)))))
        (ifK (stErr u t o == x_6)
          (ifK (ByteArray.toList (ifK (stErr u t o != 0) (ByteArray.mk #[]) (wordsB u t)) == ByteArray.toList (ByteArray.mk #[]))
            (optK (callOf b12 16 []) fun r_18 =>
              (boolK (r_18) fun b_6 =>
              (some (D.bool b_6))))
            (some (D.bool false)))
          (some (D.bool false)))))) = some (D.bool true) := by
  rw [d66, optK_some, intK_int, d16, show (stErr u t o == stErr u t o) = true by simp]
  cases hz : stErr u t o != 0 with
  | true =>
    have h0 : (stErr u t o == 0) = false := by simpa using hz
    rw [h0, ifK_false, ifK_true, ifK_true, show (ByteArray.toList (ByteArray.mk #[]) == ByteArray.toList (ByteArray.mk #[])) = true by simp, ifK_true, optK_some, boolK_bool]
  | false =>
    have hz0 : stErr u t o = 0 := by simpa using hz
    have h0 : (stErr u t o == 0) = true := by simpa using hz0
    rw [h0, ifK_true, d67 u t o (stErr_zero hz0), optK_some, strK_str, ifK_true, ifK_false, show (ByteArray.toList (wordsB u t) == ByteArray.toList (wordsB u t)) = true by simp, ifK_true, optK_some, boolK_bool]
/-- FormatSides is true of all lists and states. -/
theorem ok12 (a b : List NetV) (u t : Int) (o : Bool) (ha : a.length ≤ 9223372036854775807) (hb : b.length ≤ 9223372036854775807) : OK5 12 [.slc false a.length (a.flatMap netD), .slc false b.length (b.flatMap netD), .agg [.int .i64 u, .int .i64 t, .bool o]] (.bool true) := by
  refine fnT b12_ok Tryz.func12 (ord := O0) (N := N12) (by kernel_rfl) ((F12_eq _ _ _ _ _ _ _ _ _ _ _ _).trans ?_)
  rw [d62 a ha, optK_some, boolK_bool, d62 b hb, optK_some, boolK_bool]
  cases h1 : brGo a.length a with
  | false => rfl
  | true =>
    cases h2 : brGo b.length b with
    | false => rfl
    | true =>
      have la := brGo_true h1
      have lb := brGo_true h2
      rw [show (!true) = false from rfl, ifK_false, ifK_false, F12_7_eq _ _ _ _ _ _ _ _ _ _ _ _ (fun _ => rfl : ∀ t, C1 t = 1)]
      rw [d43 a (by omega), optK_some, d43 b (by omega), d63, d64, wordsR_eq, d24]
      show (slcK (slR netD a) fun f n_1 c => optK (some (slR netD b)) fun r_5 => _) = _
      unfold slR
      rw [slcK_slc, optK_some, slcK_slc, optK_some]
      have he : fst3 (netsErr a) (netsErr b) (ifK ((a.length : Int) != b.length) 2 0) = sidesErr a b := rfl
      unfold sidesR
      cases hz : sidesErr a b != 0 with
      | true =>
        have h0 : (sidesErr a b == 0) = false := by simpa using hz
        rw [ifK_true, tup2, cellK_some rfl, slcK_slc, cellK_some rfl, intK_int, optK_some, tup2, cellK_some rfl, strK_str, cellK_some rfl, intK_int, d65, optK_some, intK_int, d65, optK_some, intK_int, optK_some, intK_int, d22, optK_some, intK_int, he, h0, ifK_false]
        rw [F12_511_eqn _ _ _ _ _ _ _ _ _ _ _ _ _ (fun _ => rfl : ∀ t, C1 t = 1), show (sidesErr a b != sidesErr a b) = false by simp, ifK_false]
        have h28 := d28 (f := true) ([] : List StV) (by simp)
        have h28' : callOf b12 28 [.slc true 0 []] = some (.slc true 0 []) := h28
        rw [h28', optK_some, slcK_slc, d27n, optK_some, boolK_bool, show (!true) = false from rfl, ifK_false]
        exact tail12 (γ := some (.bool true)) u t o rfl
      | false =>
        have hz0 : sidesErr a b = 0 := by simpa using hz
        obtain ⟨g1, g2⟩ := sidesErr_zero hz0
        have ls : (sidesV a b).length ≤ 1000 := by have := sdGo_len a b 0 a.length; unfold sidesV; omega
        unfold slR
        rw [ifK_false, tup2, cellK_some rfl, slcK_slc, cellK_some rfl, intK_int, optK_some, tup2, cellK_some rfl, strK_str, cellK_some rfl, intK_int, d65, optK_some, intK_int, d65, optK_some, intK_int, optK_some, intK_int, d22, optK_some, intK_int, he, hz0,
          show ((0 : Int) == 0) = true from rfl, ifK_true, d25 a b g1 (by omega), optK_some]
        unfold slR
        rw [slcK_slc, F12_511_eqs _ _ _ _ _ _ _ _ _ _ _ _ _ _ _ _ (fun _ => rfl : ∀ t, C1 t = 1), show ((0 : Int) != 0) = false from rfl, ifK_false, d28 _ ls, optK_some]
        unfold slR
        rw [slcK_slc, d27 _ ls, optK_some, boolK_bool, show (!true) = false from rfl, ifK_false]
        exact tail12 (γ := some (.bool true)) u t o rfl
end Go.Pd
end
