/-
  Chapter 2: the rotation by the program, as equations.
  Chapter 2: the rotation of a hole by the program.
  Chapter 2: upkeep by the reference, as equations.
  Chapter 2: the errors of rotations and rounds by the reference.
  Chapter 2: the rotation by the reference.
  Chapter 2: the rotation of the program is that of the reference.
-/
import Derived.Test.YtmhbhlbnlmbhlaaGreatDoorCrA
import Derived.KernelRfl
import Derived.Test.YtmhbhlbnlmbhlaaGreatDoorCrF
import Derived.Test.YtmhbhlbnlmbhlaaGreatDoorCrL
section
namespace Go.Pd
open Go Go.Proofs
set_option maxRecDepth 100000
def N36 : NTab := fun p => match p with
  | 63 => some { keep := [0, 1, 2], kl := [11, 18, 32, 62, 109], ren := [(11, 11), (18, 18), (32, 32), (62, 62), (109, 109)] }
  | 122 => some { keep := [0, 1, 2, 9, 33, 34, 35], kl := [11, 18, 62, 109], ren := [(11, 11), (18, 18), (32, 32), (62, 62), (109, 109)] }
  | 2042 => some { keep := [0, 1, 13, 14, 63, 64], kl := [11, 18, 32], ren := [(11, 11), (18, 18), (32, 32), (62, 62), (109, 109)] }
  | 1045706 => some { keep := [0, 1, 13, 14, 15, 63, 64, 67, 68], kl := [11, 18, 32], ren := [(11, 11), (18, 18), (32, 32), (62, 62), (109, 109)] }
  | 2091418 => some { keep := [0, 1, 13, 14, 15, 63, 64, 82, 83, 84], kl := [11, 18, 32], ren := [(11, 11), (18, 18), (32, 32), (62, 62), (109, 109)] }
  | _ => none
noncomputable def F36_2091418 (call : FuncId → List D → Option D) (L : Nat) (C : Nat → Nat) (n_2 : Nat) (n_4 : Nat) (vl_f : Bool) (vl_n : Nat) (vl_c : List D) (vradius : Int) (vworn_n : Nat) (vbest : Int) (vdays : Int) (t64 : Int) (vall_2 : Ow) (t83 : Int) (t84 : Int) (t62_c_1 : List D) : Option D :=
  loopAt (TEf call L C) O0 N36 FinM.canon Tryz.f36 [true, true, true, true, true, true, true, false, true, false, false, true, true, false, false, true, true, false, true, false] [n_2]  n_4 (St.mk [D.slc vl_f vl_n vl_c, D.int IntKind.i64 vradius, J, J, J, J, J, J, J, J, J, J, J, D.own 62 0 vworn_n, ownD 109 vall_2, D.int IntKind.i64 vbest, J, J, J, J, J, J, J, J, J, J, J, J, J, J, J, J, J, J, J, J, J, J, J, J, J, J, J, J, J, J, J, J, J, J, J, J, J, J, J, J, J, J, J, J, J, J, J, D.int IntKind.i64 vdays, D.int IntKind.i64 t64, J, J, J, J, J, J, J, J, J, J, J, J, J, J, J, J, J, D.slc vl_f vl_n vl_c, D.int IntKind.i64 t83, D.int IntKind.i64 t84, J, J, J, J, J, J, J, J, J, J, J, J, J, J, J, J, J, J, J, J, J, J, J, J, J, J, J] [Z, Z, Z, Z, Z, Z, Z, Z, Z, Z, Z, Z, Z, Z, Z, Z, Z, Z, Z, Z, Z, Z, Z, Z, Z, Z, Z, Z, Z, Z, Z, Z, Z, Z, Z, Z, Z, Z, Z, Z, Z, Z, Z, Z, Z, Z, Z, Z, Z, Z, Z, Z, Z, Z, Z, Z, Z, Z, Z, Z, Z, Z, (1, some (Ob.arr 3 1 t62_c_1 false)), Z, Z, Z, Z, Z, Z, Z, Z, Z, Z, Z, Z, Z, Z, Z, Z, Z, Z, Z, Z, Z, Z, Z, Z, Z, Z, Z, Z, Z, Z, Z, Z, Z, Z, Z, Z, Z, Z, Z, Z, Z, Z, Z, Z, Z, Z, ownO 3 1 vall_2, Z, Z])
noncomputable def F36_1045706 (call : FuncId → List D → Option D) (L : Nat) (C : Nat → Nat) (n_2 : Nat) (n_3 : Nat) (vl_f : Bool) (vl_n : Nat) (vl_c : List D) (vradius : Int) (vworn_n : Nat) (vdays : Int) (t64 : Int) (t62_c : List D) (vall_1 : Ow) (vbest : Int) (t67 : Int) (t68 : Int) : Option D :=
  loopAt (TEf call L C) O0 N36 FinM.canon Tryz.f36 [true, true, true, true, true, true, true, false, true, false, false, true, true, false, false, true, false, true, false] [n_2]  n_3 (St.mk [D.slc vl_f vl_n vl_c, D.int IntKind.i64 vradius, J, J, J, J, J, J, J, J, J, J, J, D.own 62 0 vworn_n, ownD 109 vall_1, D.int IntKind.i64 vbest, J, J, J, J, J, J, J, J, J, J, J, J, J, J, J, J, J, J, J, J, J, J, J, J, J, J, J, J, J, J, J, J, J, J, J, J, J, J, J, J, J, J, J, J, J, J, J, D.int IntKind.i64 vdays, D.int IntKind.i64 t64, J, J, D.int IntKind.i64 t67, D.int IntKind.i64 t68, J, J, J, J, J, J, J, J, J, J, J, J, J, J, J, J, J, J, J, J, J, J, J, J, J, J, J, J, J, J, J, J, J, J, J, J, J, J, J, J, J, J, J] [Z, Z, Z, Z, Z, Z, Z, Z, Z, Z, Z, Z, Z, Z, Z, Z, Z, Z, Z, Z, Z, Z, Z, Z, Z, Z, Z, Z, Z, Z, Z, Z, Z, Z, Z, Z, Z, Z, Z, Z, Z, Z, Z, Z, Z, Z, Z, Z, Z, Z, Z, Z, Z, Z, Z, Z, Z, Z, Z, Z, Z, Z, (1, some (Ob.arr 3 1 t62_c false)), Z, Z, Z, Z, Z, Z, Z, Z, Z, Z, Z, Z, Z, Z, Z, Z, Z, Z, Z, Z, Z, Z, Z, Z, Z, Z, Z, Z, Z, Z, Z, Z, Z, Z, Z, Z, Z, Z, Z, Z, Z, Z, Z, Z, Z, Z, ownO 3 1 vall_1, Z, Z])
noncomputable def F36_2042 (call : FuncId → List D → Option D) (L : Nat) (C : Nat → Nat) (n_2 : Nat) (vl_f : Bool) (vl_n : Nat) (vl_c : List D) (vradius : Int) (vdays : Int) (vworn_n : Nat) (vall : Ow) (t64 : Int) (t62_c : List D) : Option D :=
  loopAt (TEf call L C) O0 N36 FinM.canon Tryz.f36 [true, true, true, true, true, true, true, false, true, false] []  n_2 (St.mk [D.slc vl_f vl_n vl_c, D.int IntKind.i64 vradius, J, J, J, J, J, J, J, J, J, J, J, D.own 62 0 vworn_n, ownD 109 vall, J, J, J, J, J, J, J, J, J, J, J, J, J, J, J, J, J, J, J, J, J, J, J, J, J, J, J, J, J, J, J, J, J, J, J, J, J, J, J, J, J, J, J, J, J, J, J, J, D.int IntKind.i64 vdays, D.int IntKind.i64 t64, J, J, J, J, J, J, J, J, J, J, J, J, J, J, J, J, J, J, J, J, J, J, J, J, J, J, J, J, J, J, J, J, J, J, J, J, J, J, J, J, J, J, J, J, J, J, J] [Z, Z, Z, Z, Z, Z, Z, Z, Z, Z, Z, Z, Z, Z, Z, Z, Z, Z, Z, Z, Z, Z, Z, Z, Z, Z, Z, Z, Z, Z, Z, Z, Z, Z, Z, Z, Z, Z, Z, Z, Z, Z, Z, Z, Z, Z, Z, Z, Z, Z, Z, Z, Z, Z, Z, Z, Z, Z, Z, Z, Z, Z, (1, some (Ob.arr 3 1 t62_c false)), Z, Z, Z, Z, Z, Z, Z, Z, Z, Z, Z, Z, Z, Z, Z, Z, Z, Z, Z, Z, Z, Z, Z, Z, Z, Z, Z, Z, Z, Z, Z, Z, Z, Z, Z, Z, Z, Z, Z, Z, Z, Z, Z, Z, Z, Z, ownO 3 1 vall, Z, Z])
noncomputable def F36_63 (call : FuncId → List D → Option D) (L : Nat) (C : Nat → Nat) (vl_f : Bool) (vl_n : Nat) (vl_c : List D) (vradius : Int) (vdays : Int) : Option D :=
  cutAt (TEf call L C) O0 N36 FinM.canon Tryz.f36 [true, true, true, true, true] []  (C 63) (St.mk [D.slc vl_f vl_n vl_c, D.int IntKind.i64 vradius, D.int IntKind.i64 vdays, J, J, J, J, J, J, J, J, J, J, J, J, J, J, J, J, J, J, J, J, J, J, J, J, J, J, J, J, J, J, J, J, J, J, J, J, J, J, J, J, J, J, J, J, J, J, J, J, J, J, J, J, J, J, J, J, J, J, J, J, J, J, J, J, J, J, J, J, J, J, J, J, J, J, J, J, J, J, J, J, J, J, J, J, J, J, J, J, J, J, J, J, J, J, J, J, J, J, J, J, J, J, J, J, J, J, J, J, J] [Z, Z, Z, Z, Z, Z, Z, Z, Z, Z, Z, Z, Z, Z, Z, Z, Z, Z, Z, Z, Z, Z, Z, Z, Z, Z, Z, Z, Z, Z, Z, Z, Z, Z, Z, Z, Z, Z, Z, Z, Z, Z, Z, Z, Z, Z, Z, Z, Z, Z, Z, Z, Z, Z, Z, Z, Z, Z, Z, Z, Z, Z, Z, Z, Z, Z, Z, Z, Z, Z, Z, Z, Z, Z, Z, Z, Z, Z, Z, Z, Z, Z, Z, Z, Z, Z, Z, Z, Z, Z, Z, Z, Z, Z, Z, Z, Z, Z, Z, Z, Z, Z, Z, Z, Z, Z, Z, Z, Z, Z, Z, Z])
noncomputable def F36_122 (call : FuncId → List D → Option D) (L : Nat) (C : Nat → Nat) (n : Nat) (vl_f : Bool) (vl_n : Nat) (vl_c : List D) (vradius : Int) (vdays : Int) (t34 : Int) (t35 : Int) (t32_k : List D) (t32_v : List D) : Option D :=
  loopAt (TEf call L C) O0 N36 FinM.canon Tryz.f36 [true, true, true, false, true, false] []  n (St.mk [D.slc vl_f vl_n vl_c, D.int IntKind.i64 vradius, D.int IntKind.i64 vdays, J, J, J, J, J, J, D.mloc 32 0, J, J, J, J, J, J, J, J, J, J, J, J, J, J, J, J, J, J, J, J, J, J, J, D.slc vl_f vl_n vl_c, D.int IntKind.i64 t34, D.int IntKind.i64 t35, J, J, J, J, J, J, J, J, J, J, J, J, J, J, J, J, J, J, J, J, J, J, J, J, J, J, J, J, J, J, J, J, J, J, J, J, J, J, J, J, J, J, J, J, J, J, J, J, J, J, J, J, J, J, J, J, J, J, J, J, J, J, J, J, J, J, J, J, J, J, J, J, J, J, J, J] [Z, Z, Z, Z, Z, Z, Z, Z, Z, Z, Z, Z, Z, Z, Z, Z, Z, Z, Z, Z, Z, Z, Z, Z, Z, Z, Z, Z, Z, Z, Z, Z, (1, some (Ob.map t32_k t32_v false)), Z, Z, Z, Z, Z, Z, Z, Z, Z, Z, Z, Z, Z, Z, Z, Z, Z, Z, Z, Z, Z, Z, Z, Z, Z, Z, Z, Z, Z, Z, Z, Z, Z, Z, Z, Z, Z, Z, Z, Z, Z, Z, Z, Z, Z, Z, Z, Z, Z, Z, Z, Z, Z, Z, Z, Z, Z, Z, Z, Z, Z, Z, Z, Z, Z, Z, Z, Z, Z, Z, Z, Z, Z, Z, Z, Z, Z, Z, Z])
theorem F36_2091418_eqn (call : FuncId → List D → Option D) (L : Nat) (C : Nat → Nat) (n_2 : Nat) (n_4 : Nat) (vl_f : Bool) (vl_n : Nat) (vl_c : List D) (vradius : Int) (vworn_n : Nat) (vbest : Int) (vdays : Int) (t64 : Int) (t83 : Int) (t84 : Int) (t62_c_1 : List D) : F36_2091418 call L C n_2 (n_4 + 1) vl_f vl_n vl_c vradius vworn_n vbest vdays t64 (Ow.nil) (t83) (t84) (t62_c_1) =
  (ifK (decide (t84 < t83))
    (chkK (decide (0 ≤ t84 ∧ t84 < (vl_n : Int)))
      (cellK (vl_c) (Int.toNat t84 * 2 + 0) fun d_5 =>
      (intK IntKind.i64 (d_5) fun x_12 =>
      (cellK (vl_c) (Int.toNat t84 * 2 + 1) fun d_6 =>
      (intK IntKind.i64 (d_6) fun x_13 =>
      (chkK (decide (0 ≤ vbest ∧ vbest < (vl_n : Int)))
        (cellK (vl_c) (Int.toNat vbest * 2 + 0) fun d_7 =>
        (intK IntKind.i64 (d_7) fun x_14 =>
        (cellK (vl_c) (Int.toNat vbest * 2 + 1) fun d_8 =>
        (intK IntKind.i64 (d_8) fun x_15 =>
        (optK (call 83 [D.agg [D.int IntKind.i64 x_12, D.int IntKind.i64 x_13], D.agg [D.int IntKind.i64 x_14, D.int IntKind.i64 x_15]]) fun r_10 =>
          (intK IntKind.i64 (r_10) fun x_16 =>
          (ifK (decide (x_16 ≤ IntKind.wrap IntKind.i64 (vradius * vradius)))
            (chkK (decide (0 ≤ t84 ∧ t84 < (vworn_n : Int)))
              (cellK (t62_c_1) (Int.toNat t84 * 1) fun d_9 =>
              (intK IntKind.i64 (d_9) fun x_17 =>
              (chkK (decide (0 ≤ t84 ∧ t84 < (vworn_n : Int)))
                (chkK (decide (Int.toNat t84 * 1 + 1 ≤ List.length t62_c_1))
                  (F36_2091418 call L C n_2 n_4 vl_f vl_n vl_c vradius vworn_n vbest vdays t64 (Ow.nil) (t83) (IntKind.wrap IntKind.i64 (t84 + 1)) (writeAt t62_c_1 (Int.toNat t84 * 1) [D.int IntKind.i64 (IntKind.wrap IntKind.i64 (x_17 + 1))])))))))
            (F36_2091418 call L C n_2 n_4 vl_f vl_n vl_c vradius vworn_n vbest vdays t64 (Ow.nil) (t83) (IntKind.wrap IntKind.i64 (t84 + 1)) (t62_c_1)))))))))))))))
    (F36_2042 call L C n_2 vl_f vl_n vl_c vradius vdays (vworn_n) (Ow.own 1 [D.int IntKind.i64 vbest]) (IntKind.wrap IntKind.i64 (t64 + 1)) (t62_c_1))) := by kernel_rfl
theorem F36_2091418_eqo (call : FuncId → List D → Option D) (L : Nat) (C : Nat → Nat) (n_2 : Nat) (n_4 : Nat) (vl_f : Bool) (vl_n : Nat) (vl_c : List D) (vradius : Int) (vworn_n : Nat) (vbest : Int) (vdays : Int) (t64 : Int) (vall_2_n : Nat) (vall_2_c : List D) (t83 : Int) (t84 : Int) (t62_c_1 : List D) : F36_2091418 call L C n_2 (n_4 + 1) vl_f vl_n vl_c vradius vworn_n vbest vdays t64 (Ow.own vall_2_n vall_2_c) (t83) (t84) (t62_c_1) =
  (ifK (decide (t84 < t83))
    (chkK (decide (0 ≤ t84 ∧ t84 < (vl_n : Int)))
      (cellK (vl_c) (Int.toNat t84 * 2 + 0) fun d_10 =>
      (intK IntKind.i64 (d_10) fun x_18 =>
      (cellK (vl_c) (Int.toNat t84 * 2 + 1) fun d_11 =>
      (intK IntKind.i64 (d_11) fun x_19 =>
      (chkK (decide (0 ≤ vbest ∧ vbest < (vl_n : Int)))
        (cellK (vl_c) (Int.toNat vbest * 2 + 0) fun d_12 =>
        (intK IntKind.i64 (d_12) fun x_20 =>
        (cellK (vl_c) (Int.toNat vbest * 2 + 1) fun d_13 =>
        (intK IntKind.i64 (d_13) fun x_21 =>
        (optK (call 83 [D.agg [D.int IntKind.i64 x_18, D.int IntKind.i64 x_19], D.agg [D.int IntKind.i64 x_20, D.int IntKind.i64 x_21]]) fun r_11 =>
          (intK IntKind.i64 (r_11) fun x_22 =>
          (ifK (decide (x_22 ≤ IntKind.wrap IntKind.i64 (vradius * vradius)))
            (chkK (decide (0 ≤ t84 ∧ t84 < (vworn_n : Int)))
              (cellK (t62_c_1) (Int.toNat t84 * 1) fun d_14 =>
              (intK IntKind.i64 (d_14) fun x_23 =>
              (chkK (decide (0 ≤ t84 ∧ t84 < (vworn_n : Int)))
                (chkK (decide (Int.toNat t84 * 1 + 1 ≤ List.length t62_c_1))
                  (F36_2091418 call L C n_2 n_4 vl_f vl_n vl_c vradius vworn_n vbest vdays t64 (Ow.own vall_2_n vall_2_c) (t83) (IntKind.wrap IntKind.i64 (t84 + 1)) (writeAt t62_c_1 (Int.toNat t84 * 1) [D.int IntKind.i64 (IntKind.wrap IntKind.i64 (x_23 + 1))])))))))
            (F36_2091418 call L C n_2 n_4 vl_f vl_n vl_c vradius vworn_n vbest vdays t64 (Ow.own vall_2_n vall_2_c) (t83) (IntKind.wrap IntKind.i64 (t84 + 1)) (t62_c_1)))))))))))))))
    (chkK (decide ((vall_2_n + 1) * 8 ≤ limit ∧ vall_2_n + 1 ≤ 9223372036854775807))
      (F36_2042 call L C n_2 vl_f vl_n vl_c vradius vdays (vworn_n) (Ow.own (vall_2_n + 1) (vall_2_c ++ [D.int IntKind.i64 vbest])) (IntKind.wrap IntKind.i64 (t64 + 1)) (t62_c_1)))) := by kernel_rfl
theorem F36_1045706_eqn (call : FuncId → List D → Option D) (L : Nat) (C : Nat → Nat) (n_2 : Nat) (n_3 : Nat) (vl_f : Bool) (vl_n : Nat) (vl_c : List D) (vradius : Int) (vworn_n : Nat) (vdays : Int) (t64 : Int) (t62_c : List D) (vbest : Int) (t67 : Int) (t68 : Int) : F36_1045706 call L C n_2 (n_3 + 1) vl_f vl_n vl_c vradius vworn_n vdays t64 t62_c (Ow.nil) (vbest) (t67) (t68) =
  (ifK (decide (t68 < t67))
    (chkK (decide (0 ≤ t68 ∧ t68 < (vworn_n : Int)))
      (cellK (t62_c) (Int.toNat t68 * 1) fun d_3 =>
      (intK IntKind.i64 (d_3) fun x_10 =>
      (chkK (decide (0 ≤ vbest ∧ vbest < (vworn_n : Int)))
        (cellK (t62_c) (Int.toNat vbest * 1) fun d_4 =>
        (intK IntKind.i64 (d_4) fun x_11 =>
        (ifK (decide (x_10 < x_11))
          (F36_1045706 call L C n_2 n_3 vl_f vl_n vl_c vradius vworn_n vdays t64 t62_c (Ow.nil) (t68) (t67) (IntKind.wrap IntKind.i64 (t68 + 1)))
          (F36_1045706 call L C n_2 n_3 vl_f vl_n vl_c vradius vworn_n vdays t64 t62_c (Ow.nil) (vbest) (t67) (IntKind.wrap IntKind.i64 (t68 + 1))))))))))
    (F36_2091418 call L C n_2 L vl_f vl_n vl_c vradius vworn_n vbest vdays t64 (Ow.nil) ((vl_n : Int)) (0) (t62_c))) := by kernel_rfl
theorem F36_1045706_eqo (call : FuncId → List D → Option D) (L : Nat) (C : Nat → Nat) (n_2 : Nat) (n_3 : Nat) (vl_f : Bool) (vl_n : Nat) (vl_c : List D) (vradius : Int) (vworn_n : Nat) (vdays : Int) (t64 : Int) (t62_c : List D) (vall_1_n : Nat) (vall_1_c : List D) (vbest : Int) (t67 : Int) (t68 : Int) : F36_1045706 call L C n_2 (n_3 + 1) vl_f vl_n vl_c vradius vworn_n vdays t64 t62_c (Ow.own vall_1_n vall_1_c) (vbest) (t67) (t68) =
  (ifK (decide (t68 < t67))
    (chkK (decide (0 ≤ t68 ∧ t68 < (vworn_n : Int)))
      (cellK (t62_c) (Int.toNat t68 * 1) fun d_15 =>
      (intK IntKind.i64 (d_15) fun x_24 =>
      (chkK (decide (0 ≤ vbest ∧ vbest < (vworn_n : Int)))
        (cellK (t62_c) (Int.toNat vbest * 1) fun d_16 =>
        (intK IntKind.i64 (d_16) fun x_25 =>
        (ifK (decide (x_24 < x_25))
          (F36_1045706 call L C n_2 n_3 vl_f vl_n vl_c vradius vworn_n vdays t64 t62_c (Ow.own vall_1_n vall_1_c) (t68) (t67) (IntKind.wrap IntKind.i64 (t68 + 1)))
          (F36_1045706 call L C n_2 n_3 vl_f vl_n vl_c vradius vworn_n vdays t64 t62_c (Ow.own vall_1_n vall_1_c) (vbest) (t67) (IntKind.wrap IntKind.i64 (t68 + 1))))))))))
    (F36_2091418 call L C n_2 L vl_f vl_n vl_c vradius vworn_n vbest vdays t64 (Ow.own vall_1_n vall_1_c) ((vl_n : Int)) (0) (t62_c))) := by kernel_rfl
theorem F36_2042_eqn (call : FuncId → List D → Option D) (L : Nat) (C : Nat → Nat) (n_2 : Nat) (vl_f : Bool) (vl_n : Nat) (vl_c : List D) (vradius : Int) (vdays : Int) (vworn_n : Nat) (t64 : Int) (t62_c : List D) : F36_2042 call L C  (n_2 + 1) vl_f vl_n vl_c vradius vdays (vworn_n) (Ow.nil) (t64) (t62_c) =
  (ifK (decide (t64 < vdays))
    (F36_1045706 call L C n_2 L vl_f vl_n vl_c vradius vworn_n vdays t64 t62_c (Ow.nil) (0) ((vl_n : Int)) (0))
    (some (D.tup [D.slc true 0 [], D.int IntKind.i64 0]))) := by kernel_rfl
theorem F36_2042_eqo (call : FuncId → List D → Option D) (L : Nat) (C : Nat → Nat) (n_2 : Nat) (vl_f : Bool) (vl_n : Nat) (vl_c : List D) (vradius : Int) (vdays : Int) (vworn_n : Nat) (vall_n : Nat) (vall_c : List D) (t64 : Int) (t62_c : List D) : F36_2042 call L C  (n_2 + 1) vl_f vl_n vl_c vradius vdays (vworn_n) (Ow.own vall_n vall_c) (t64) (t62_c) =
  (ifK (decide (t64 < vdays))
    (F36_1045706 call L C n_2 L vl_f vl_n vl_c vradius vworn_n vdays t64 t62_c (Ow.own vall_n vall_c) (0) ((vl_n : Int)) (0))
    (some (D.tup [D.slc false vall_n vall_c, D.int IntKind.i64 0]))) := by kernel_rfl
theorem F36_63_eq (call : FuncId → List D → Option D) (L : Nat) (C : Nat → Nat) (vl_f : Bool) (vl_n : Nat) (vl_c : List D) (vradius : Int) (vdays : Int) (hC : ∀ t, C t = 1) : F36_63 call L C  vl_f vl_n vl_c vradius vdays  =
  (chkK (decide (0 ≤ (vl_n : Int) ∧ (vl_n : Int) ≤ (vl_n : Int) ∧ (vl_n : Int) * (8 : Int) ≤ 140737488355328 ∧ (vl_n : Int) ≤ 9223372036854775807))
    (F36_2042 call L C L vl_f vl_n vl_c vradius vdays (Int.toNat (vl_n : Int)) (Ow.nil) (0) (repD (Int.toNat (vl_n : Int)) [D.int IntKind.i64 0]))) := by
  unfold F36_63
  rw [hC]
  kernel_rfl
theorem F36_122_eq (call : FuncId → List D → Option D) (L : Nat) (C : Nat → Nat) (n : Nat) (vl_f : Bool) (vl_n : Nat) (vl_c : List D) (vradius : Int) (vdays : Int) (t34 : Int) (t35 : Int) (t32_k : List D) (t32_v : List D) : F36_122 call L C  (n + 1) vl_f vl_n vl_c vradius vdays (t34) (t35) (t32_k) (t32_v) =
  (ifK (decide (t35 < t34))
    (chkK (decide (0 ≤ t35 ∧ t35 < (vl_n : Int)))
      (cellK (vl_c) (Int.toNat t35 * 2 + 0) fun d =>
      (intK IntKind.i64 (d) fun x_3 =>
      (cellK (vl_c) (Int.toNat t35 * 2 + 1) fun d_1 =>
      (intK IntKind.i64 (d_1) fun x_4 =>
      (optK (call 77 [D.slc true 1 [D.int IntKind.i64 x_3, D.int IntKind.i64 x_4]]) fun r_3 =>
        (intK IntKind.i64 (r_3) fun x_5 =>
        (findK (findD (D.agg [D.int IntKind.i64 x_3, D.int IntKind.i64 x_4]) t32_k 0)
          (optK (call 84 [D.bool false, D.int IntKind.i64 9]) fun r_4 =>
            (intK IntKind.i64 (r_4) fun x_6 =>
            (optK (call 76 [D.slc true 2 [D.int IntKind.i64 x_5, D.int IntKind.i64 x_6]]) fun r_5 =>
              (intK IntKind.i64 (r_5) fun x_7 =>
              (ifK (x_7 != 0)
                (some (D.tup [D.slc true 0 [], D.int IntKind.i64 x_7]))
                (updK (updD (D.agg [D.int IntKind.i64 x_3, D.int IntKind.i64 x_4]) (D.bool true) t32_k t32_v) fun ks vs =>
                (F36_122 call L C n vl_f vl_n vl_c vradius vdays (t34) (IntKind.wrap IntKind.i64 (t35 + 1)) (ks) (vs)))))))) fun i =>
          (cellK (t32_v) (i) fun d_2 =>
          (boolK (d_2) fun b =>
          (optK (call 84 [D.bool b, D.int IntKind.i64 9]) fun r_6 =>
            (intK IntKind.i64 (r_6) fun x_8 =>
            (optK (call 76 [D.slc true 2 [D.int IntKind.i64 x_5, D.int IntKind.i64 x_8]]) fun r_7 =>
              (intK IntKind.i64 (r_7) fun x_9 =>
              (ifK (x_9 != 0)
                (some (D.tup [D.slc true 0 [], D.int IntKind.i64 x_9]))
                (updK (updD (D.agg [D.int IntKind.i64 x_3, D.int IntKind.i64 x_4]) (D.bool true) t32_k t32_v) fun ks_1 vs_1 =>
                (F36_122 call L C n vl_f vl_n vl_c vradius vdays (t34) (IntKind.wrap IntKind.i64 (t35 + 1)) (ks_1) (vs_1))))))))))))))))))
    (optK (call 100 [D.int IntKind.i64 vradius, D.int IntKind.i64 0, D.int IntKind.i64 1000000]) fun r_8 =>
      (boolK (r_8) fun b_1 =>
      (ifK (b_1)
        (some (D.tup [D.slc true 0 [], D.int IntKind.i64 3]))
        (optK (call 100 [D.int IntKind.i64 vdays, D.int IntKind.i64 0, D.int IntKind.i64 366]) fun r_9 =>
          (boolK (r_9) fun b_2 =>
          (ifK (b_2)
            (some (D.tup [D.slc true 0 [], D.int IntKind.i64 3]))
            (F36_63 call L C vl_f vl_n vl_c vradius vdays)))))))) := by kernel_rfl
theorem F36_eq (call : FuncId → List D → Option D) (L : Nat) (C : Nat → Nat) (vl_f : Bool) (vl_n : Nat) (vl_c : List D) (vradius : Int) (vdays : Int) : evFnT (TEf call L C) O0 N36 FinM.canon Tryz.f36 [D.slc vl_f vl_n vl_c, D.int IntKind.i64 vradius, D.int IntKind.i64 vdays] =
  (optK (call 84 [D.bool ((vl_n : Int) == 0), D.int IntKind.i64 12]) fun r =>
    (intK IntKind.i64 (r) fun x =>
    (optK (call 84 [D.bool (decide ((vl_n : Int) > 16)), D.int IntKind.i64 5]) fun r_1 =>
      (intK IntKind.i64 (r_1) fun x_1 =>
      (optK (call 76 [D.slc true 2 [D.int IntKind.i64 x, D.int IntKind.i64 x_1]]) fun r_2 =>
        (intK IntKind.i64 (r_2) fun x_2 =>
        (ifK (x_2 != 0)
          (some (D.tup [D.slc true 0 [], D.int IntKind.i64 x_2]))
          (F36_122 call L C L vl_f vl_n vl_c vradius vdays ((vl_n : Int)) (0) ([]) ([]))))))))) := by kernel_rfl

end Go.Pd
end

section
namespace Go.Pd
open Go Go.Proofs Go.RowKit
set_option maxRecDepth 100000

/-! ### Places that were seen -/
def idxK (p : Pt) : List Pt → Nat → Option Nat
  | [], _ => none
  | q :: r, i => match (p.1 == q.1) && ((p.2 == q.2) && true) with
    | true => some i
    | false => idxK p r (i + 1)
theorem findD_pts (p : Pt) : ∀ (l : List Pt) (i : Nat), findD (ptD p) (l.map ptD) i = some (idxK p l i)
  | [], _ => rfl
  | q :: r, i => by
    have hk : keyEq (ptD p) (ptD q) = some ((p.1 == q.1) && ((p.2 == q.2) && true)) := rfl
    simp only [List.map_cons, findD, hk, idxK]
    cases (p.1 == q.1) && ((p.2 == q.2) && true)
    · exact findD_pts p r (i + 1)
    · rfl
theorem idxK_some {p : Pt} : ∀ {l : List Pt} {i j : Nat}, idxK p l i = some j → i ≤ j ∧ j < i + l.length
  | [], _, _, h => by cases h
  | q :: r, i, j, h => by
    unfold idxK at h
    split at h
    · cases h; simp
    · have := idxK_some h
      simp only [List.length_cons]
      omega
def seenB (p : Pt) (pre : List Pt) : Bool := (idxK p pre 0).isSome
def seenE : List Pt → List Pt → Int
  | [], _ => 0
  | p :: r, pre => ifK (firstZ [ifK (outP p) 3 0, ifK (seenB p pre) 9 0] != 0) (firstZ [ifK (outP p) 3 0, ifK (seenB p pre) 9 0]) (seenE r (pre ++ [p]))
def trues (l : List Pt) : List D := l.map fun _ => .bool true
theorem cell_true {γ : Type} {pre : List Pt} {j : Nat} (hj : j < pre.length) (k : D → Option γ) : cellK (trues pre) j k = k (.bool true) :=
  cellK_some (by simp [trues, hj]) k
theorem updD_new {p : Pt} {pre : List Pt} (h : idxK p pre 0 = none) : updD (ptD p) (.bool true) (pre.map ptD) (trues pre) = some ((pre ++ [p]).map ptD, trues (pre ++ [p])) := by
  unfold updD
  rw [findD_pts, h]
  simp [trues]
theorem go36a {call : FuncId → List D → Option D} {f : Bool} {l : List Pt} {radius days : Int} {E : Option D} (hl : l.length ≤ 1000)
    (h77 : ∀ p : Pt, call 77 [.slc true 1 [.int .i64 p.1, .int .i64 p.2]] = some (.int .i64 (ifK (outP p) 3 0))) (h84 : ∀ b e, call 84 [.bool b, .int .i64 e] = some (.int .i64 (ifK b e 0)))
    (h76 : ∀ a b : Int, call 76 [.slc true 2 [.int .i64 a, .int .i64 b]] = some (.int .i64 (firstZ [a, b])))
    (hE : (optK (call 100 [D.int IntKind.i64 radius, D.int IntKind.i64 0, D.int IntKind.i64 1000000]) fun r_8 => (boolK (r_8) fun b_1 => (ifK (b_1) (some (D.tup [D.slc true 0 [], D.int IntKind.i64 3]))
        (optK (call 100 [D.int IntKind.i64 days, D.int IntKind.i64 0, D.int IntKind.i64 366]) fun r_9 => (boolK (r_9) fun b_2 => (ifK (b_2) (some (D.tup [D.slc true 0 [], D.int IntKind.i64 3])) (F36_63 call LL C1 f l.length (ptsC l) radius days))))))) = E) :
    ∀ (r pre : List Pt) (fuel : Nat), pre ++ r = l → r.length < fuel → F36_122 call LL C1 fuel f l.length (ptsC l) radius days (l.length : Int) (pre.length : Int) (pre.map ptD) (trues pre) = ifK (seenE r pre != 0) (some (.tup [.slc true 0 [], .int .i64 (seenE r pre)])) E := by
  intro r
  induction r with
  | nil =>
    intro pre fuel hp hf
    obtain ⟨fuel, rfl⟩ : ∃ n, fuel = n + 1 := ⟨fuel - 1, by omega⟩
    rw [List.append_nil] at hp
    rw [F36_122_eq, show decide ((pre.length : Int) < (l.length : Int)) = false by rw [hp]; simp, ifK_false, hE]
    rfl
  | cons x r ih =>
    intro pre fuel hp hf
    obtain ⟨fuel, rfl⟩ : ∃ n, fuel = n + 1 := ⟨fuel - 1, by omega⟩
    have ih := ih (pre ++ [x]) fuel (by rw [← hp]; simp) (by simp at hf; omega)
    have hlen : pre.length < l.length := by rw [← hp]; simp
    have e3 : IntKind.wrap .i64 ((pre.length : Int) + 1) = ((pre ++ [x]).length : Int) := (wrap_in (by omega)).trans (by simp)
    have c0 : ∀ {γ : Type} (k : D → Option γ), cellK (ptsC l) (Int.toNat (pre.length : Int) * 2 + 0) k = k (.int .i64 x.1) := fun k => by rw [← hp]; exact q0 pre x r
    have c1 : ∀ {γ : Type} (k : D → Option γ), cellK (ptsC l) (Int.toNat (pre.length : Int) * 2 + 1) k = k (.int .i64 x.2) := fun k => by rw [← hp]; exact q1 pre x r
    have hse : seenE (x :: r) pre = ifK (firstZ [ifK (outP x) 3 0, ifK (seenB x pre) 9 0] != 0) (firstZ [ifK (outP x) 3 0, ifK (seenB x pre) 9 0]) (seenE r (pre ++ [x])) := rfl
    have hfd : findD (D.agg [.int .i64 x.1, .int .i64 x.2]) (pre.map ptD) 0 = some (idxK x pre 0) := findD_pts x pre 0
    rw [F36_122_eq, show decide ((pre.length : Int) < (l.length : Int)) = true by simp; omega, ifK_true, show decide ((0 : Int) ≤ (pre.length : Int) ∧ (pre.length : Int) < (l.length : Int)) = true from decide_eq_true ⟨by omega, by omega⟩, chkK_true, c0, intK_int, c1, intK_int, h77, optK_some, intK_int, hfd]
    cases hi : idxK x pre 0 with
    | some j =>
      have hj := idxK_some hi
      have hsb : seenB x pre = true := by unfold seenB; rw [hi]; rfl
      show cellK (trues pre) j _ = _
      rw [cell_true (by omega), boolK_bool, h84, optK_some, intK_int, h76, optK_some, intK_int, hse, hsb, ifK_true]
      have hne : (firstZ [ifK (outP x) 3 0, 9] != 0) = true := by cases outP x <;> rfl
      rw [hne, ifK_true, ifK_true, hne, ifK_true]
    | none =>
      have hsb : seenB x pre = false := by unfold seenB; rw [hi]; rfl
      show optK (call 84 [.bool false, .int .i64 9]) _ = _
      rw [h84, optK_some, intK_int, ifK_false, h76, optK_some, intK_int, hse, hsb, ifK_false]
      have hup : updD (D.agg [.int .i64 x.1, .int .i64 x.2]) (.bool true) (pre.map ptD) (trues pre) = some ((pre ++ [x]).map ptD, trues (pre ++ [x])) := updD_new hi
      rw [hup, e3]
      show ifK (firstZ [ifK (outP x) 3 0, 0] != 0) _ (F36_122 call LL C1 fuel f l.length (ptsC l) radius days (l.length : Int) ((pre ++ [x]).length : Int) ((pre ++ [x]).map ptD) (trues (pre ++ [x]))) = _
      rw [ih]
      cases outP x <;> rfl

/-! ### The days -/
def bestG (w : List Int) : Nat → Nat → Nat → Nat
  | 0, _, b => b
  | k + 1, i, b => bestG w k (i + 1) (ifK (decide (w.getD i 0 < w.getD b 0)) i b)
def incG (l : List Pt) (b : Pt) (rr : Int) : Nat → Nat → List Int → List Int
  | 0, _, w => w
  | k + 1, i, w => incG l b rr k (i + 1) (ifK (decide (sqW (pt l i) b ≤ rr)) (w.set i (w64 (w.getD i 0 + 1))) w)
def rotG (l : List Pt) (rr : Int) : Nat → List Int → List Int → List Int
  | 0, _, all => all
  | k + 1, w, all => rotG l rr k (incG l (pt l (bestG w l.length 0 0)) rr l.length 0 w) (all ++ [((bestG w l.length 0 0 : Nat) : Int)])
def ow36 (all : List Int) : Ow := match all with
  | [] => .nil
  | _ => .own all.length (ints all)
theorem bestG_lt {w : List Int} : ∀ (k i b : Nat), i + k = w.length → b < w.length → bestG w k i b < w.length
  | 0, _, b, _, hb => hb
  | k + 1, i, b, hi, hb => by
    refine bestG_lt k (i + 1) _ (by omega) ?_
    cases decide (w.getD i 0 < w.getD b 0)
    · exact hb
    · show i < w.length; omega
theorem incG_len {l : List Pt} {b : Pt} {rr : Int} : ∀ (k i : Nat) (w : List Int), (incG l b rr k i w).length = w.length
  | 0, _, _ => rfl
  | k + 1, i, w => by
    unfold incG
    rw [incG_len k]
    cases decide (sqW (pt l i) b ≤ rr)
    · rfl
    · show (w.set i _).length = _; simp
theorem getD_some {w : List Int} {i : Nat} (h : i < w.length) : w[i]? = some (w.getD i 0) := by
  rw [List.getD_eq_getElem?_getD, List.getElem?_eq_getElem h]
  rfl
section
variable {call : FuncId → List D → Option D} {f : Bool} {l : List Pt} {radius days : Int} {w all : List Int}
theorem go36b {n2 : Nat} {t64 : Int} (hw : w.length = l.length) (hl : l.length ≤ 1000) {R : Nat → Option D}
    (hR : ∀ b, b < l.length → F36_2091418 call LL C1 n2 LL f l.length (ptsC l) radius l.length (b : Int) days t64 (ow36 all) (l.length : Int) 0 (ints w) = R b) :
    ∀ (k i b fuel : Nat), i + k = l.length → b < l.length → k < fuel → F36_1045706 call LL C1 n2 fuel f l.length (ptsC l) radius l.length days t64 (ints w) (ow36 all) (b : Int) (l.length : Int) (i : Int) = R (bestG w k i b)
  | 0, i, b, fuel, hi, hb, hf => by
    obtain ⟨fuel, rfl⟩ : ∃ n, fuel = n + 1 := ⟨fuel - 1, by omega⟩
    have e1 : decide ((i : Int) < (l.length : Int)) = false := by simp; omega
    have hR := hR b hb
    cases all with
    | nil => 
      show F36_1045706 call LL C1 n2 (fuel + 1) f l.length (ptsC l) radius l.length days t64 (ints w) .nil (b : Int) (l.length : Int) (i : Int) = _
      rw [F36_1045706_eqn, e1, ifK_false]; exact hR
    | cons a all =>
      show F36_1045706 call LL C1 n2 (fuel + 1) f l.length (ptsC l) radius l.length days t64 (ints w) (.own (a :: all).length (ints (a :: all))) (b : Int) (l.length : Int) (i : Int) = _
      rw [F36_1045706_eqo, e1, ifK_false]; exact hR
  | k + 1, i, b, fuel, hi, hb, hf => by
    obtain ⟨fuel, rfl⟩ : ∃ n, fuel = n + 1 := ⟨fuel - 1, by omega⟩
    have e1 : decide ((i : Int) < (l.length : Int)) = true := by simp; omega
    have e2 : decide ((0 : Int) ≤ (i : Int) ∧ (i : Int) < (l.length : Int)) = true := decide_eq_true ⟨by omega, by omega⟩
    have e2b : decide ((0 : Int) ≤ (b : Int) ∧ (b : Int) < (l.length : Int)) = true := decide_eq_true ⟨by omega, by omega⟩
    have e3 : IntKind.wrap .i64 ((i : Int) + 1) = ((i + 1 : Nat) : Int) := (wrap_in (by omega)).trans (by omega)
    have u1 := getD_some (w := w) (i := i) (by omega)
    have u2 := getD_some (w := w) (i := b) (by omega)
    have ih1 := go36b hw hl hR k (i + 1) i fuel (by omega) (by omega) (by omega)
    have ih2 := go36b hw hl hR k (i + 1) b fuel (by omega) hb (by omega)
    rw [show bestG w (k + 1) i b = bestG w k (i + 1) (ifK (decide (w.getD i 0 < w.getD b 0)) i b) from rfl]
    cases all with
    | nil =>
      show F36_1045706 call LL C1 n2 (fuel + 1) f l.length (ptsC l) radius l.length days t64 (ints w) .nil (b : Int) (l.length : Int) (i : Int) = _
      rw [F36_1045706_eqn, e1, ifK_true, e2, chkK_true, cell_at u1, intK_int, e2b, chkK_true, cell_at u2, intK_int, e3]
      cases decide (w.getD i 0 < w.getD b 0)
      · exact ih2
      · exact ih1
    | cons a all =>
      show F36_1045706 call LL C1 n2 (fuel + 1) f l.length (ptsC l) radius l.length days t64 (ints w) (.own (a :: all).length (ints (a :: all))) (b : Int) (l.length : Int) (i : Int) = _
      rw [F36_1045706_eqo, e1, ifK_true, e2, chkK_true, cell_at u1, intK_int, e2b, chkK_true, cell_at u2, intK_int, e3]
      cases decide (w.getD i 0 < w.getD b 0)
      · exact ih2
      · exact ih1
theorem pt_cells {i : Nat} (h : i < l.length) {γ : Type} (k : D → Option γ) : cellK (ptsC l) (Int.toNat (i : Int) * 2 + 0) k = k (.int .i64 (pt l i).1) ∧ cellK (ptsC l) (Int.toNat (i : Int) * 2 + 1) k = k (.int .i64 (pt l i).2) := by
  have hs : l = l.take i ++ l[i] :: l.drop (i + 1) := by rw [List.getElem_cons_drop, List.take_append_drop]
  have hi : (l.take i).length = i := by simp; omega
  have hp : pt l i = l[i] := by unfold pt; rw [List.getD_eq_getElem?_getD, List.getElem?_eq_getElem h]; rfl
  have h0 := q0 (l.take i) l[i] (l.drop (i + 1)) (k := k)
  have h1 := q1 (l.take i) l[i] (l.drop (i + 1)) (k := k)
  rw [← hs, hi] at h0 h1
  rw [hp]
  exact ⟨h0, h1⟩
theorem go36c {n2 b : Nat} {t64 : Int} (hl : l.length ≤ 1000) (hb : b < l.length) (h83 : ∀ a b : Pt, call 83 [ptD a, ptD b] = some (.int .i64 (sqW a b))) (hall : all.length ≤ 1000) {R : List Int → Option D}
    (hR : ∀ w, F36_2042 call LL C1 n2 f l.length (ptsC l) radius days l.length (ow36 (all ++ [(b : Int)])) (IntKind.wrap .i64 (t64 + 1)) (ints w) = R w) :
    ∀ (k i fuel : Nat) (w : List Int), w.length = l.length → i + k = l.length → k < fuel → F36_2091418 call LL C1 n2 fuel f l.length (ptsC l) radius l.length (b : Int) days t64 (ow36 all) (l.length : Int) (i : Int) (ints w) = R (incG l (pt l b) (w64 (radius * radius)) k i w)
  | 0, i, fuel, w, hw, hi, hf => by
    obtain ⟨fuel, rfl⟩ : ∃ n, fuel = n + 1 := ⟨fuel - 1, by omega⟩
    have e1 : decide ((i : Int) < (l.length : Int)) = false := by simp; omega
    have hR := hR w
    cases all with
    | nil =>
      show F36_2091418 call LL C1 n2 (fuel + 1) f l.length (ptsC l) radius l.length (b : Int) days t64 .nil (l.length : Int) (i : Int) (ints w) = _
      rw [F36_2091418_eqn, e1, ifK_false]; exact hR
    | cons a all =>
      show F36_2091418 call LL C1 n2 (fuel + 1) f l.length (ptsC l) radius l.length (b : Int) days t64 (.own (a :: all).length (ints (a :: all))) (l.length : Int) (i : Int) (ints w) = _
      have e5 : ow36 (a :: all ++ [(b : Int)]) = .own ((a :: all).length + 1) (ints (a :: all) ++ [D.int .i64 (b : Int)]) := by
        show Ow.own (a :: (all ++ [(b : Int)])).length (ints (a :: (all ++ [(b : Int)]))) = _
        simp [ints]
      rw [e5] at hR
      rw [F36_2091418_eqo, e1, ifK_false, show decide (((a :: all).length + 1) * 8 ≤ Go.Pd.limit ∧ (a :: all).length + 1 ≤ 9223372036854775807) = true from decide_eq_true ⟨by unfold Go.Pd.limit; omega, by omega⟩, chkK_true]
      exact hR
  | k + 1, i, fuel, w, hw, hi, hf => by
    obtain ⟨fuel, rfl⟩ : ∃ n, fuel = n + 1 := ⟨fuel - 1, by omega⟩
    have e1 : decide ((i : Int) < (l.length : Int)) = true := by simp; omega
    have e2 : decide ((0 : Int) ≤ (i : Int) ∧ (i : Int) < (l.length : Int)) = true := decide_eq_true ⟨by omega, by omega⟩
    have e2b : decide ((0 : Int) ≤ (b : Int) ∧ (b : Int) < (l.length : Int)) = true := decide_eq_true ⟨by omega, by omega⟩
    have e3 : IntKind.wrap .i64 ((i : Int) + 1) = ((i + 1 : Nat) : Int) := (wrap_in (by omega)).trans (by omega)
    have u1 := getD_some (w := w) (i := i) (by omega)
    have hil : i < l.length := by omega
    have e4 : decide (Int.toNat (i : Int) * 1 + 1 ≤ (ints w).length) = true := by simp [ints_len]; omega
    have e83 : call 83 [D.agg [.int .i64 (pt l i).1, .int .i64 (pt l i).2], D.agg [.int .i64 (pt l b).1, .int .i64 (pt l b).2]] = some (.int .i64 (sqW (pt l i) (pt l b))) := h83 (pt l i) (pt l b)
    have ih1 := go36c hl hb h83 hall hR k (i + 1) fuel (w.set i (w64 (w.getD i 0 + 1))) (by simpa using hw) (by omega) (by omega)
    have ih2 := go36c hl hb h83 hall hR k (i + 1) fuel w hw (by omega) (by omega)
    rw [show incG l (pt l b) (w64 (radius * radius)) (k + 1) i w = incG l (pt l b) (w64 (radius * radius)) k (i + 1) (ifK (decide (sqW (pt l i) (pt l b) ≤ w64 (radius * radius))) (w.set i (w64 (w.getD i 0 + 1))) w) from rfl]
    cases all with
    | nil =>
      show F36_2091418 call LL C1 n2 (fuel + 1) f l.length (ptsC l) radius l.length (b : Int) days t64 .nil (l.length : Int) (i : Int) (ints w) = _
      rw [F36_2091418_eqn, e1, ifK_true, e2, chkK_true, (pt_cells hil _).1, intK_int, (pt_cells hil _).2, intK_int, e2b, chkK_true, (pt_cells hb _).1, intK_int, (pt_cells hb _).2, intK_int, e83, optK_some, intK_int, e3]
      cases decide (sqW (pt l i) (pt l b) ≤ w64 (radius * radius))
      · exact ih2
      · rw [ifK_true, chkK_true, cell_at u1, intK_int, chkK_true, e4, chkK_true, Int.toNat_natCast, ints_set]
        exact ih1
    | cons a all =>
      show F36_2091418 call LL C1 n2 (fuel + 1) f l.length (ptsC l) radius l.length (b : Int) days t64 (.own (a :: all).length (ints (a :: all))) (l.length : Int) (i : Int) (ints w) = _
      rw [F36_2091418_eqo, e1, ifK_true, e2, chkK_true, (pt_cells hil _).1, intK_int, (pt_cells hil _).2, intK_int, e2b, chkK_true, (pt_cells hb _).1, intK_int, (pt_cells hb _).2, intK_int, e83, optK_some, intK_int, e3]
      cases decide (sqW (pt l i) (pt l b) ≤ w64 (radius * radius))
      · exact ih2
      · rw [ifK_true, chkK_true, cell_at u1, intK_int, chkK_true, e4, chkK_true, Int.toNat_natCast, ints_set]
        exact ih1
end
def slcI (x : List Int) : D := match x with
  | [] => .slc true 0 []
  | _ => .slc false x.length (ints x)
theorem go36d {call : FuncId → List D → Option D} {f : Bool} {l : List Pt} {radius : Int} {days : Nat} (hl : l.length ≤ 1000) (hl0 : 0 < l.length) (hd : days ≤ 366) (h83 : ∀ a b : Pt, call 83 [ptD a, ptD b] = some (.int .i64 (sqW a b))) :
    ∀ (k t fuel : Nat) (w all : List Int), t + k = days → all.length = t → w.length = l.length → k < fuel → F36_2042 call LL C1 fuel f l.length (ptsC l) radius (days : Int) l.length (ow36 all) (t : Int) (ints w) = some (.tup [slcI (rotG l (w64 (radius * radius)) k w all), .int .i64 0])
  | 0, t, fuel, w, all, ht, ha, hw, hf => by
    obtain ⟨fuel, rfl⟩ : ∃ n, fuel = n + 1 := ⟨fuel - 1, by omega⟩
    have e1 : decide ((t : Int) < (days : Int)) = false := by simp; omega
    cases all with
    | nil =>
      show F36_2042 call LL C1 (fuel + 1) f l.length (ptsC l) radius (days : Int) l.length .nil (t : Int) (ints w) = _
      rw [F36_2042_eqn, e1, ifK_false]
      rfl
    | cons a all =>
      show F36_2042 call LL C1 (fuel + 1) f l.length (ptsC l) radius (days : Int) l.length (.own (a :: all).length (ints (a :: all))) (t : Int) (ints w) = _
      rw [F36_2042_eqo, e1, ifK_false]
      rfl
  | k + 1, t, fuel, w, all, ht, ha, hw, hf => by
    obtain ⟨fuel, rfl⟩ : ∃ n, fuel = n + 1 := ⟨fuel - 1, by omega⟩
    have e1 : decide ((t : Int) < (days : Int)) = true := by simp; omega
    have e3 : IntKind.wrap .i64 ((t : Int) + 1) = ((t + 1 : Nat) : Int) := (wrap_in (by omega)).trans (by omega)
    have hbl := bestG_lt (w := w) w.length 0 0 (by omega) (by omega)
    rw [hw] at hbl
    have hR : ∀ b, b < l.length → F36_2091418 call LL C1 fuel LL f l.length (ptsC l) radius l.length (b : Int) (days : Int) (t : Int) (ow36 all) (l.length : Int) 0 (ints w) = some (.tup [slcI (rotG l (w64 (radius * radius)) k (incG l (pt l b) (w64 (radius * radius)) l.length 0 w) (all ++ [(b : Int)])), .int .i64 0]) := fun b hb => by
      refine go36c (t64 := (t : Int)) (days := (days : Int)) (R := fun w => if w.length = l.length then some (.tup [slcI (rotG l (w64 (radius * radius)) k w (all ++ [(b : Int)])), .int .i64 0]) else F36_2042 call LL C1 fuel f l.length (ptsC l) radius (days : Int) l.length (ow36 (all ++ [(b : Int)])) (IntKind.wrap .i64 ((t : Int) + 1)) (ints w)) hl hb h83 (by omega) (fun w' => ?_) l.length 0 LL w hw (by omega) (by unfold LL; omega) |>.trans ?_
      · split
        · rename_i hw'
          rw [e3]
          exact go36d hl hl0 hd h83 k (t + 1) fuel w' (all ++ [(b : Int)]) (by omega) (by simp; omega) hw' (by omega)
        · rfl
      · rw [if_pos (by rw [incG_len]; exact hw)]
    have main := go36b (call := call) (f := f) (l := l) (radius := radius) (days := (days : Int)) (w := w) (all := all) (n2 := fuel) (t64 := (t : Int)) hw hl hR l.length 0 0 LL (by omega) hl0 (by unfold LL; omega)
    rw [show rotG l (w64 (radius * radius)) (k + 1) w all = rotG l (w64 (radius * radius)) k (incG l (pt l (bestG w l.length 0 0)) (w64 (radius * radius)) l.length 0 w) (all ++ [((bestG w l.length 0 0 : Nat) : Int)]) from rfl]
    cases all with
    | nil =>
      show F36_2042 call LL C1 (fuel + 1) f l.length (ptsC l) radius (days : Int) l.length .nil (t : Int) (ints w) = _
      rw [F36_2042_eqn, e1, ifK_true]
      exact main
    | cons a all =>
      show F36_2042 call LL C1 (fuel + 1) f l.length (ptsC l) radius (days : Int) l.length (.own (a :: all).length (ints (a :: all))) (t : Int) (ints w) = _
      rw [F36_2042_eqo, e1, ifK_true]
      exact main
def rotE (l : List Pt) (radius days : Int) : Int := ifK (firstZ [ifK ((l.length : Int) == 0) 12 0, ifK (decide ((l.length : Int) > 16)) 5 0] != 0) (firstZ [ifK ((l.length : Int) == 0) 12 0, ifK (decide ((l.length : Int) > 16)) 5 0])
  (ifK (seenE l [] != 0) (seenE l []) (ifK (outLM (radius, 0, 1000000)) 3 (ifK (outLM (days, 0, 366)) 3 0)))
def rotS (l : List Pt) (radius days : Int) : List Int := rotG l (w64 (radius * radius)) days.toNat (List.replicate l.length 0) []
def rotD (l : List Pt) (radius days : Int) : D := ifK (rotE l radius days != 0) (.tup [.slc true 0 [], .int .i64 (rotE l radius days)]) (.tup [slcI (rotS l radius days), .int .i64 0])
theorem okf36 : okFn Tryz.prog O0 Tryz.f36 = true := by kernel_rfl
theorem outLM_in {x a b : Int} (h : outLM (x, a, b) = false) : a ≤ x ∧ x ≤ b := by
  unfold outLM at h
  cases h1 : decide (x < a) <;> cases h2 : decide (x > b) <;> simp only [h1, h2] at h <;> first | (simp at h1 h2; omega) | cases h
theorem rep_ints : ∀ n : Nat, repD n [D.int .i64 0] = ints (List.replicate n 0)
  | 0 => rfl
  | n + 1 => by rw [List.replicate_succ]; show D.int .i64 0 :: repD n [D.int .i64 0] = D.int .i64 0 :: ints (List.replicate n 0); rw [rep_ints n]
theorem ok36 {f : Bool} (l : List Pt) (radius days : Int) : OK2 36 [.slc f l.length (ptsC l), .int .i64 radius, .int .i64 days] (rotD l radius days) := by
  obtain ⟨B, hb, e84, e77, e76, e83, e100, _⟩ := exF [famBE 84, fam77a, famFi 76, famPP 83 fun a b => .int .i64 (sqW a b), fam100]
    ⟨famBE_good ok84 (fun _ _ => rfl), fam77a_good, famFi_good (fun l hl => ok76 l hl) (fun _ _ => rfl), famPP_good ok83 (fun _ _ => rfl), fam100_good, trivial⟩ rfl
  have f84 : ∀ b e, callOf B 84 [.bool b, .int .i64 e] = some (.int .i64 (ifK b e 0)) := fun b e => e84 (b, e)
  have f76 : ∀ a b : Int, callOf B 76 [.slc true 2 [.int .i64 a, .int .i64 b]] = some (.int .i64 (firstZ [a, b])) := fun a b => e76 ⟨[a, b], by simp⟩
  have f100 : ∀ x a b : Int, callOf B 100 [.int .i64 x, .int .i64 a, .int .i64 b] = some (.bool (outLM (x, a, b))) := fun x a b => e100 (x, a, b)
  refine fnT hb Tryz.func36 (ord := O0) (N := N36) okf36 ((F36_eq _ _ _ _ _ _ _ _).trans ?_)
  rw [f84, optK_some, intK_int, f84, optK_some, intK_int, f76, optK_some, intK_int]
  unfold rotD rotE
  by_cases hz : firstZ [ifK ((l.length : Int) == 0) 12 0, ifK (decide ((l.length : Int) > 16)) 5 0] = 0
  · have h0 := firstZ_zero hz
    have h1 : ((l.length : Int) == 0) = false := by
      have := h0 (ifK ((l.length : Int) == 0) 12 0) (by simp)
      cases hd : ((l.length : Int) == 0)
      · rfl
      · rw [hd] at this; cases this
    have h2 : decide ((l.length : Int) > 16) = false := by
      have := h0 (ifK (decide ((l.length : Int) > 16)) 5 0) (by simp)
      cases hd : decide ((l.length : Int) > 16)
      · rfl
      · rw [hd] at this; cases this
    have hl0 : 0 < l.length := by
      have : ¬ (l.length : Int) = 0 := by simpa using h1
      omega
    have hl : l.length ≤ 16 := by simp at h2; omega
    rw [show (firstZ [ifK ((l.length : Int) == 0) 12 0, ifK (decide ((l.length : Int) > 16)) 5 0] != 0) = false by simpa using hz, ifK_false, ifK_false]
    have main := go36a (call := callOf B) (f := f) (l := l) (radius := radius) (days := days) (by omega) (fun p => e77 p) f84 f76 rfl l [] LL rfl (by unfold LL; omega)
    refine main.trans ?_
    cases hs : seenE l [] != 0
    · rw [ifK_false, ifK_false, f100, optK_some, boolK_bool]
      cases hr : outLM (radius, 0, 1000000)
      · rw [ifK_false, ifK_false, f100, optK_some, boolK_bool]
        cases hd : outLM (days, 0, 366)
        · have hd' := outLM_in hd
          obtain ⟨d, rfl⟩ : ∃ d : Nat, days = d := ⟨days.toNat, by omega⟩
          rw [ifK_false, ifK_false, F36_63_eq (C := C1) (hC := fun _ => rfl), show decide ((0 : Int) ≤ (l.length : Int) ∧ (l.length : Int) ≤ (l.length : Int) ∧ (l.length : Int) * (8 : Int) ≤ 140737488355328 ∧ (l.length : Int) ≤ 9223372036854775807) = true from decide_eq_true ⟨by omega, by omega, by omega, by omega⟩, chkK_true, Int.toNat_natCast, rep_ints]
          exact go36d (by omega) hl0 (by omega) (fun a b => e83 (a, b)) d 0 LL (List.replicate l.length 0) [] (by omega) rfl (by simp) (by unfold LL; omega)
        · rfl
      · rfl
    · rw [ifK_true, ifK_true, hs]
      rfl
  · rw [show (firstZ [ifK ((l.length : Int) == 0) 12 0, ifK (decide ((l.length : Int) > 16)) 5 0] != 0) = true by simpa using hz, ifK_true, ifK_true]
    rw [show (firstZ [ifK ((l.length : Int) == 0) 12 0, ifK (decide ((l.length : Int) > 16)) 5 0] != 0) = true by simpa using hz, ifK_true]
end Go.Pd
end

section
namespace Go.Pd
open Go Go.Proofs
set_option maxRecDepth 100000
def N38 : NTab := fun p => match p with
  | 122 => some { keep := [0, 1, 2, 7], kl := [], ren := [] }
  | 15654 => some { keep := [0, 1, 2, 7, 8], kl := [], ren := [] }
  | _ => none
noncomputable def F38_15654 (call : FuncId → List D → Option D) (L : Nat) (C : Nat → Nat) (n : Nat) (n_1 : Nat) (vl_f : Bool) (vl_n : Nat) (vl_c : List D) (vradius : Int) (vdays : Int) (vi : Int) (vk : Int) : Option D :=
  loopAt (TEf call L C) O0 N38 FinM.canon Tryz.f38 [true, true, true, false, true, false, false, true, false, false, true, true, false] [n]  n_1 (St.mk [D.slc vl_f vl_n vl_c, D.int IntKind.i64 vradius, D.int IntKind.i64 vdays, J, J, J, J, D.int IntKind.i64 vi, D.int IntKind.i64 vk, J, J, J, J, J, J, J, J, J, J, J, J, J, J, J, J, J, J, J, J, J, J, J, J, J, J, J, J, J, J, J, J, J, J, J, J, J, J, J, J, J, J, J, J, J, J] [Z, Z, Z, Z, Z, Z, Z, Z, Z, Z, Z, Z, Z, Z, Z, Z, Z, Z, Z, Z, Z, Z, Z, Z, Z, Z, Z, Z, Z, Z, Z, Z, Z, Z, Z, Z, Z, Z, Z, Z, Z, Z, Z, Z, Z, Z, Z, Z, Z, Z, Z, Z, Z, Z, Z])
noncomputable def F38_122 (call : FuncId → List D → Option D) (L : Nat) (C : Nat → Nat) (n : Nat) (vl_f : Bool) (vl_n : Nat) (vl_c : List D) (vradius : Int) (vdays : Int) (vi : Int) : Option D :=
  loopAt (TEf call L C) O0 N38 FinM.canon Tryz.f38 [true, true, true, false, true, false] []  n (St.mk [D.slc vl_f vl_n vl_c, D.int IntKind.i64 vradius, D.int IntKind.i64 vdays, J, J, J, J, D.int IntKind.i64 vi, J, J, J, J, J, J, J, J, J, J, J, J, J, J, J, J, J, J, J, J, J, J, J, J, J, J, J, J, J, J, J, J, J, J, J, J, J, J, J, J, J, J, J, J, J, J, J] [Z, Z, Z, Z, Z, Z, Z, Z, Z, Z, Z, Z, Z, Z, Z, Z, Z, Z, Z, Z, Z, Z, Z, Z, Z, Z, Z, Z, Z, Z, Z, Z, Z, Z, Z, Z, Z, Z, Z, Z, Z, Z, Z, Z, Z, Z, Z, Z, Z, Z, Z, Z, Z, Z, Z])
theorem F38_15654_eq (call : FuncId → List D → Option D) (L : Nat) (C : Nat → Nat) (n : Nat) (n_1 : Nat) (vl_f : Bool) (vl_n : Nat) (vl_c : List D) (vradius : Int) (vdays : Int) (vi : Int) (vk : Int) : F38_15654 call L C n (n_1 + 1) vl_f vl_n vl_c vradius vdays vi (vk) =
  (ifK (decide (vk < vi))
    (chkK (decide (0 ≤ vk ∧ vk < (vl_n : Int)))
      (cellK (vl_c) (Int.toNat vk * 2 + 0) fun d_2 =>
      (intK IntKind.i64 (d_2) fun x_3 =>
      (cellK (vl_c) (Int.toNat vk * 2 + 1) fun d_3 =>
      (intK IntKind.i64 (d_3) fun x_4 =>
      (chkK (decide (0 ≤ vi ∧ vi < (vl_n : Int)))
        (cellK (vl_c) (Int.toNat vi * 2 + 0) fun d_4 =>
        (intK IntKind.i64 (d_4) fun x_5 =>
        (cellK (vl_c) (Int.toNat vi * 2 + 1) fun d_5 =>
        (intK IntKind.i64 (d_5) fun x_6 =>
        (ifK (x_3 == x_5 && (x_4 == x_6 && true))
          (some (D.int IntKind.i64 9))
          (F38_15654 call L C n n_1 vl_f vl_n vl_c vradius vdays vi (IntKind.wrap IntKind.i64 (vk + 1))))))))))))))
    (F38_122 call L C n vl_f vl_n vl_c vradius vdays (IntKind.wrap IntKind.i64 (vi + 1)))) := by kernel_rfl
theorem F38_122_eq (call : FuncId → List D → Option D) (L : Nat) (C : Nat → Nat) (n : Nat) (vl_f : Bool) (vl_n : Nat) (vl_c : List D) (vradius : Int) (vdays : Int) (vi : Int) : F38_122 call L C  (n + 1) vl_f vl_n vl_c vradius vdays (vi) =
  (ifK (decide (vi < (vl_n : Int)))
    (chkK (decide (0 ≤ vi ∧ vi < (vl_n : Int)))
      (cellK (vl_c) (Int.toNat vi * 2 + 0) fun d =>
      (intK IntKind.i64 (d) fun x =>
      (cellK (vl_c) (Int.toNat vi * 2 + 1) fun d_1 =>
      (intK IntKind.i64 (d_1) fun x_1 =>
      (optK (call 24 [D.agg [D.int IntKind.i64 x, D.int IntKind.i64 x_1]]) fun r =>
        (intK IntKind.i64 (r) fun x_2 =>
        (ifK (x_2 != 0)
          (some (D.int IntKind.i64 3))
          (F38_15654 call L C n L vl_f vl_n vl_c vradius vdays vi (0))))))))))
    (ifK (decide (vradius < 0))
      (some (D.int IntKind.i64 3))
      (ifK (decide (vradius > 1000000))
        (some (D.int IntKind.i64 3))
        (ifK (decide (vdays < 0))
          (some (D.int IntKind.i64 3))
          (ifK (decide (vdays > 366))
            (some (D.int IntKind.i64 3))
            (some (D.int IntKind.i64 0))))))) := by kernel_rfl
theorem F38_eq (call : FuncId → List D → Option D) (L : Nat) (C : Nat → Nat) (vl_f : Bool) (vl_n : Nat) (vl_c : List D) (vradius : Int) (vdays : Int) : evFnT (TEf call L C) O0 N38 FinM.canon Tryz.f38 [D.slc vl_f vl_n vl_c, D.int IntKind.i64 vradius, D.int IntKind.i64 vdays] =
  (ifK ((vl_n : Int) == 0)
    (some (D.int IntKind.i64 12))
    (ifK (decide ((vl_n : Int) > 16))
      (some (D.int IntKind.i64 5))
      (F38_122 call L C L vl_f vl_n vl_c vradius vdays (0)))) := by kernel_rfl

def N39 : NTab := fun p => match p with
  | 250 => some { keep := [0, 1, 5], kl := [], ren := [] }
  | _ => none
noncomputable def F39_250 (call : FuncId → List D → Option D) (L : Nat) (C : Nat → Nat) (n : Nat) (vflows_f : Bool) (vflows_n : Nat) (vflows_c : List D) (vlimit : Int) (vi : Int) : Option D :=
  loopAt (TEf call L C) O0 N39 FinM.canon Tryz.f39 [true, true, true, true, false, true, false] []  n (St.mk [D.slc vflows_f vflows_n vflows_c, D.int IntKind.i64 vlimit, J, J, J, D.int IntKind.i64 vi, J, J, J, J, J, J, J, J, J, J, J, J, J, J, J, J, J, J, J, J, J, J, J, J, J, J, J, J, J, J, J] [Z, Z, Z, Z, Z, Z, Z, Z, Z, Z, Z, Z, Z, Z, Z, Z, Z, Z, Z, Z, Z, Z, Z, Z, Z, Z, Z, Z, Z, Z, Z, Z, Z, Z, Z, Z, Z])
theorem F39_250_eq (call : FuncId → List D → Option D) (L : Nat) (C : Nat → Nat) (n : Nat) (vflows_f : Bool) (vflows_n : Nat) (vflows_c : List D) (vlimit : Int) (vi : Int) : F39_250 call L C  (n + 1) vflows_f vflows_n vflows_c vlimit (vi) =
  (ifK (decide (vi < (vflows_n : Int)))
    (chkK (decide (0 ≤ vi ∧ vi < (vflows_n : Int)))
      (cellK (vflows_c) (Int.toNat vi * 1) fun d =>
      (intK IntKind.i64 (d) fun x =>
      (ifK (decide (x < 1))
        (some (D.int IntKind.i64 3))
        (chkK (decide (0 ≤ vi ∧ vi < (vflows_n : Int)))
          (cellK (vflows_c) (Int.toNat vi * 1) fun d_1 =>
          (intK IntKind.i64 (d_1) fun x_1 =>
          (ifK (decide (x_1 > vlimit))
            (some (D.int IntKind.i64 3))
            (F39_250 call L C n vflows_f vflows_n vflows_c vlimit (IntKind.wrap IntKind.i64 (vi + 1)))))))))))
    (some (D.int IntKind.i64 0))) := by kernel_rfl
theorem F39_eq (call : FuncId → List D → Option D) (L : Nat) (C : Nat → Nat) (vflows_f : Bool) (vflows_n : Nat) (vflows_c : List D) (vlimit : Int) : evFnT (TEf call L C) O0 N39 FinM.canon Tryz.f39 [D.slc vflows_f vflows_n vflows_c, D.int IntKind.i64 vlimit] =
  (ifK ((vflows_n : Int) == 0)
    (some (D.int IntKind.i64 12))
    (ifK (decide ((vflows_n : Int) > 8))
      (some (D.int IntKind.i64 22))
      (ifK (decide (vlimit < 1))
        (some (D.int IntKind.i64 3))
        (ifK (decide (vlimit > 999999999))
          (some (D.int IntKind.i64 3))
          (F39_250 call L C L vflows_f vflows_n vflows_c vlimit (0)))))) := by kernel_rfl

def N40 : NTab := fun p => match p with
  | 58 => some { keep := [0, 1, 2, 7, 8], kl := [], ren := [(59, 59)] }
  | 14922 => some { keep := [0, 1, 2, 7, 8, 9, 10, 11], kl := [], ren := [(59, 59)] }
  | 3820106 => some { keep := [0, 1, 2, 7, 8, 9, 10, 11, 12, 13], kl := [], ren := [(59, 59)] }
  | _ => none
noncomputable def F40_3820106 (call : FuncId → List D → Option D) (L : Nat) (C : Nat → Nat) (n : Nat) (n_1 : Nat) (n_2 : Nat) (vl_f : Bool) (vl_n : Nat) (vl_c : List D) (vradius : Int) (vdays : Int) (vd : Int) (vbest : Int) (vleast : Int) (vi : Int) (vout_2 : Ow) (vn : Int) (vk : Int) : Option D :=
  loopAt (TEf call L C) O0 N40 FinM.canon Tryz.f40 [true, true, false, true, false, false, true, false, false, true, false, true, false, false, true, false, false, true, false, true, false] [n, n_1]  n_2 (St.mk [D.slc vl_f vl_n vl_c, D.int IntKind.i64 vradius, D.int IntKind.i64 vdays, J, J, J, J, ownD 59 vout_2, D.int IntKind.i64 vd, D.int IntKind.i64 vbest, D.int IntKind.i64 vleast, D.int IntKind.i64 vi, D.int IntKind.i64 vn, D.int IntKind.i64 vk, J, J, J, J, J, J, J, J, J, J, J, J, J, J, J, J, J, J, J, J, J, J, J, J, J, J, J, J, J, J, J, J, J, J, J, J, J, J, J, J, J, J, J, J, J, J, J] [Z, Z, Z, Z, Z, Z, Z, Z, Z, Z, Z, Z, Z, Z, Z, Z, Z, Z, Z, Z, Z, Z, Z, Z, Z, Z, Z, Z, Z, Z, Z, Z, Z, Z, Z, Z, Z, Z, Z, Z, Z, Z, Z, Z, Z, Z, Z, Z, Z, Z, Z, Z, Z, Z, Z, Z, Z, Z, Z, ownO 3 1 vout_2, Z])
noncomputable def F40_14922 (call : FuncId → List D → Option D) (L : Nat) (C : Nat → Nat) (n : Nat) (n_1 : Nat) (vl_f : Bool) (vl_n : Nat) (vl_c : List D) (vradius : Int) (vdays : Int) (vd : Int) (vout_1 : Ow) (vbest : Int) (vleast : Int) (vi : Int) : Option D :=
  loopAt (TEf call L C) O0 N40 FinM.canon Tryz.f40 [true, true, false, true, false, false, true, false, false, true, false, true, false] [n]  n_1 (St.mk [D.slc vl_f vl_n vl_c, D.int IntKind.i64 vradius, D.int IntKind.i64 vdays, J, J, J, J, ownD 59 vout_1, D.int IntKind.i64 vd, D.int IntKind.i64 vbest, D.int IntKind.i64 vleast, D.int IntKind.i64 vi, J, J, J, J, J, J, J, J, J, J, J, J, J, J, J, J, J, J, J, J, J, J, J, J, J, J, J, J, J, J, J, J, J, J, J, J, J, J, J, J, J, J, J, J, J, J, J, J, J] [Z, Z, Z, Z, Z, Z, Z, Z, Z, Z, Z, Z, Z, Z, Z, Z, Z, Z, Z, Z, Z, Z, Z, Z, Z, Z, Z, Z, Z, Z, Z, Z, Z, Z, Z, Z, Z, Z, Z, Z, Z, Z, Z, Z, Z, Z, Z, Z, Z, Z, Z, Z, Z, Z, Z, Z, Z, Z, Z, ownO 3 1 vout_1, Z])
noncomputable def F40_58 (call : FuncId → List D → Option D) (L : Nat) (C : Nat → Nat) (n : Nat) (vl_f : Bool) (vl_n : Nat) (vl_c : List D) (vradius : Int) (vdays : Int) (vout : Ow) (vd : Int) : Option D :=
  loopAt (TEf call L C) O0 N40 FinM.canon Tryz.f40 [true, true, false, true, false] []  n (St.mk [D.slc vl_f vl_n vl_c, D.int IntKind.i64 vradius, D.int IntKind.i64 vdays, J, J, J, J, ownD 59 vout, D.int IntKind.i64 vd, J, J, J, J, J, J, J, J, J, J, J, J, J, J, J, J, J, J, J, J, J, J, J, J, J, J, J, J, J, J, J, J, J, J, J, J, J, J, J, J, J, J, J, J, J, J, J, J, J, J, J, J] [Z, Z, Z, Z, Z, Z, Z, Z, Z, Z, Z, Z, Z, Z, Z, Z, Z, Z, Z, Z, Z, Z, Z, Z, Z, Z, Z, Z, Z, Z, Z, Z, Z, Z, Z, Z, Z, Z, Z, Z, Z, Z, Z, Z, Z, Z, Z, Z, Z, Z, Z, Z, Z, Z, Z, Z, Z, Z, Z, ownO 3 1 vout, Z])
theorem F40_3820106_eqn (call : FuncId → List D → Option D) (L : Nat) (C : Nat → Nat) (n : Nat) (n_1 : Nat) (n_2 : Nat) (vl_f : Bool) (vl_n : Nat) (vl_c : List D) (vradius : Int) (vdays : Int) (vd : Int) (vbest : Int) (vleast : Int) (vi : Int) (vn : Int) (vk : Int) : F40_3820106 call L C n n_1 (n_2 + 1) vl_f vl_n vl_c vradius vdays vd vbest vleast vi (Ow.nil) (vn) (vk) =
  (ifK (decide (vk < 0))
    none
    (ifK (decide (vn < vleast))
      (F40_14922 call L C n n_1 vl_f vl_n vl_c vradius vdays vd (Ow.nil) (vi) (vn) (IntKind.wrap IntKind.i64 (vi + 1)))
      (F40_14922 call L C n n_1 vl_f vl_n vl_c vradius vdays vd (Ow.nil) (vbest) (vleast) (IntKind.wrap IntKind.i64 (vi + 1))))) := by kernel_rfl
theorem F40_3820106_eqo (call : FuncId → List D → Option D) (L : Nat) (C : Nat → Nat) (n : Nat) (n_1 : Nat) (n_2 : Nat) (vl_f : Bool) (vl_n : Nat) (vl_c : List D) (vradius : Int) (vdays : Int) (vd : Int) (vbest : Int) (vleast : Int) (vi : Int) (vout_2_n : Nat) (vout_2_c : List D) (vn : Int) (vk : Int) : F40_3820106 call L C n n_1 (n_2 + 1) vl_f vl_n vl_c vradius vdays vd vbest vleast vi (Ow.own vout_2_n vout_2_c) (vn) (vk) =
  (ifK (decide (vk < (vout_2_n : Int)))
    (chkK (decide (0 ≤ vk ∧ vk < (vout_2_n : Int)))
      (cellK (vout_2_c) (Int.toNat vk * 1) fun d =>
      (intK IntKind.i64 (d) fun x =>
      (chkK (decide (0 ≤ x ∧ x < (vl_n : Int)))
        (cellK (vl_c) (Int.toNat x * 2 + 0) fun d_1 =>
        (intK IntKind.i64 (d_1) fun x_1 =>
        (cellK (vl_c) (Int.toNat x * 2 + 1) fun d_2 =>
        (intK IntKind.i64 (d_2) fun x_2 =>
        (chkK (decide (0 ≤ vi ∧ vi < (vl_n : Int)))
          (cellK (vl_c) (Int.toNat vi * 2 + 0) fun d_3 =>
          (intK IntKind.i64 (d_3) fun x_3 =>
          (cellK (vl_c) (Int.toNat vi * 2 + 1) fun d_4 =>
          (intK IntKind.i64 (d_4) fun x_4 =>
          (optK (call 47 [D.agg [D.int IntKind.i64 x_1, D.int IntKind.i64 x_2], D.agg [D.int IntKind.i64 x_3, D.int IntKind.i64 x_4]]) fun r =>
            (intK IntKind.i64 (r) fun x_5 =>
            (ifK (decide (x_5 ≤ IntKind.wrap IntKind.i64 (vradius * vradius)))
              (F40_3820106 call L C n n_1 n_2 vl_f vl_n vl_c vradius vdays vd vbest vleast vi (Ow.own vout_2_n vout_2_c) (IntKind.wrap IntKind.i64 (vn + 1)) (IntKind.wrap IntKind.i64 (vk + 1)))
              (F40_3820106 call L C n n_1 n_2 vl_f vl_n vl_c vradius vdays vd vbest vleast vi (Ow.own vout_2_n vout_2_c) (vn) (IntKind.wrap IntKind.i64 (vk + 1)))))))))))))))))))
    (ifK (decide (vn < vleast))
      (F40_14922 call L C n n_1 vl_f vl_n vl_c vradius vdays vd (Ow.own vout_2_n vout_2_c) (vi) (vn) (IntKind.wrap IntKind.i64 (vi + 1)))
      (F40_14922 call L C n n_1 vl_f vl_n vl_c vradius vdays vd (Ow.own vout_2_n vout_2_c) (vbest) (vleast) (IntKind.wrap IntKind.i64 (vi + 1))))) := by kernel_rfl
theorem F40_14922_eqn (call : FuncId → List D → Option D) (L : Nat) (C : Nat → Nat) (n : Nat) (n_1 : Nat) (vl_f : Bool) (vl_n : Nat) (vl_c : List D) (vradius : Int) (vdays : Int) (vd : Int) (vbest : Int) (vleast : Int) (vi : Int) : F40_14922 call L C n (n_1 + 1) vl_f vl_n vl_c vradius vdays vd (Ow.nil) (vbest) (vleast) (vi) =
  (ifK (decide (vi < (vl_n : Int)))
    (F40_3820106 call L C n n_1 L vl_f vl_n vl_c vradius vdays vd vbest vleast vi (Ow.nil) (0) (0))
    (F40_58 call L C n vl_f vl_n vl_c vradius vdays (Ow.own 1 [D.int IntKind.i64 vbest]) (IntKind.wrap IntKind.i64 (vd + 1)))) := by kernel_rfl
theorem F40_14922_eqo (call : FuncId → List D → Option D) (L : Nat) (C : Nat → Nat) (n : Nat) (n_1 : Nat) (vl_f : Bool) (vl_n : Nat) (vl_c : List D) (vradius : Int) (vdays : Int) (vd : Int) (vout_1_n : Nat) (vout_1_c : List D) (vbest : Int) (vleast : Int) (vi : Int) : F40_14922 call L C n (n_1 + 1) vl_f vl_n vl_c vradius vdays vd (Ow.own vout_1_n vout_1_c) (vbest) (vleast) (vi) =
  (ifK (decide (vi < (vl_n : Int)))
    (F40_3820106 call L C n n_1 L vl_f vl_n vl_c vradius vdays vd vbest vleast vi (Ow.own vout_1_n vout_1_c) (0) (0))
    (chkK (decide ((vout_1_n + 1) * 8 ≤ limit ∧ vout_1_n + 1 ≤ 9223372036854775807))
      (F40_58 call L C n vl_f vl_n vl_c vradius vdays (Ow.own (vout_1_n + 1) (vout_1_c ++ [D.int IntKind.i64 vbest])) (IntKind.wrap IntKind.i64 (vd + 1))))) := by kernel_rfl
theorem F40_58_eqn (call : FuncId → List D → Option D) (L : Nat) (C : Nat → Nat) (n : Nat) (vl_f : Bool) (vl_n : Nat) (vl_c : List D) (vradius : Int) (vdays : Int) (vd : Int) : F40_58 call L C  (n + 1) vl_f vl_n vl_c vradius vdays (Ow.nil) (vd) =
  (ifK (decide (vd < vdays))
    (F40_14922 call L C n L vl_f vl_n vl_c vradius vdays vd (Ow.nil) (0) (IntKind.wrap IntKind.i64 (vdays + 1)) (0))
    (some (D.slc true 0 []))) := by kernel_rfl
theorem F40_58_eqo (call : FuncId → List D → Option D) (L : Nat) (C : Nat → Nat) (n : Nat) (vl_f : Bool) (vl_n : Nat) (vl_c : List D) (vradius : Int) (vdays : Int) (vout_n : Nat) (vout_c : List D) (vd : Int) : F40_58 call L C  (n + 1) vl_f vl_n vl_c vradius vdays (Ow.own vout_n vout_c) (vd) =
  (ifK (decide (vd < vdays))
    (F40_14922 call L C n L vl_f vl_n vl_c vradius vdays vd (Ow.own vout_n vout_c) (0) (IntKind.wrap IntKind.i64 (vdays + 1)) (0))
    (some (D.slc false vout_n vout_c))) := by kernel_rfl
theorem F40_eq (call : FuncId → List D → Option D) (L : Nat) (C : Nat → Nat) (vl_f : Bool) (vl_n : Nat) (vl_c : List D) (vradius : Int) (vdays : Int) : evFnT (TEf call L C) O0 N40 FinM.canon Tryz.f40 [D.slc vl_f vl_n vl_c, D.int IntKind.i64 vradius, D.int IntKind.i64 vdays] =
  (F40_58 call L C L vl_f vl_n vl_c vradius vdays (Ow.nil) (0)) := by kernel_rfl

end Go.Pd
end

section
namespace Go.Pd
open Go Go.Proofs Go.RowKit
set_option maxRecDepth 100000

/-! ### Rounds -/
def flE (limit : Int) : List Int → Int
  | [] => 0
  | x :: r => ifK (decide (x < 1)) 3 (ifK (decide (x > limit)) 3 (flE limit r))
def rndE (flows : List Int) (limit : Int) : Int := ifK ((flows.length : Int) == 0) 12 (ifK (decide ((flows.length : Int) > 8)) 22 (ifK (decide (limit < 1)) 3 (ifK (decide (limit > 999999999)) 3 (flE limit flows))))
theorem go39 {call : FuncId → List D → Option D} {f : Bool} {flows : List Int} {limit : Int} (hl : flows.length ≤ 1000) : ∀ (k i fuel : Nat), i + k = flows.length → k < fuel → F39_250 call LL C1 fuel f flows.length (ints flows) limit (i : Int) = some (.int .i64 (flE limit (flows.drop i)))
  | 0, i, fuel, hi, hf => by
    obtain ⟨fuel, rfl⟩ : ∃ n, fuel = n + 1 := ⟨fuel - 1, by omega⟩
    rw [F39_250_eq, show decide ((i : Int) < (flows.length : Int)) = false by simp; omega, ifK_false, List.drop_eq_nil_of_le (by omega)]
    rfl
  | k + 1, i, fuel, hi, hf => by
    obtain ⟨fuel, rfl⟩ : ∃ n, fuel = n + 1 := ⟨fuel - 1, by omega⟩
    have hlt : i < flows.length := by omega
    have hu : flows[i]? = some flows[i] := List.getElem?_eq_getElem hlt
    have ih := go39 (call := call) (f := f) (limit := limit) hl k (i + 1) fuel (by omega) (by omega)
    have e2 : decide ((0 : Int) ≤ (i : Int) ∧ (i : Int) < (flows.length : Int)) = true := decide_eq_true ⟨by omega, by omega⟩
    rw [F39_250_eq, show decide ((i : Int) < (flows.length : Int)) = true by simp; omega, ifK_true, e2, chkK_true, chkK_true, cell_at hu, intK_int, cell_at hu, intK_int,
      show IntKind.wrap .i64 ((i : Int) + 1) = ((i + 1 : Nat) : Int) from (wrap_in (by omega)).trans (by omega), ih, List.drop_eq_getElem_cons hlt]
    rw [show flE limit (flows[i] :: flows.drop (i + 1)) = ifK (decide (flows[i] < 1)) 3 (ifK (decide (flows[i] > limit)) 3 (flE limit (flows.drop (i + 1)))) from rfl]
    cases decide (flows[i] < 1) <;> cases decide (flows[i] > limit) <;> rfl
theorem ok39 {f : Bool} (flows : List Int) (limit : Int) : OK2 39 [.slc f flows.length (ints flows), .int .i64 limit] (.int .i64 (rndE flows limit)) := by
  refine fnT none_ok Tryz.func39 (ord := O0) (N := N39) (by kernel_rfl) ((F39_eq _ _ _ _ _ _ _).trans ?_)
  unfold rndE
  cases ((flows.length : Int) == 0)
  · rw [ifK_false, ifK_false]
    cases hg : decide ((flows.length : Int) > 8)
    · rw [ifK_false, ifK_false]
      have hl : flows.length ≤ 8 := by simp at hg; omega
      cases decide (limit < 1)
      · rw [ifK_false, ifK_false]
        cases decide (limit > 999999999)
        · rw [ifK_false, ifK_false]
          exact go39 (by omega) flows.length 0 LL (by omega) (by unfold LL; omega)
        · rfl
      · rfl
    · rfl
  · rfl
/-! The same errors. -/
theorem flE_eq (limit : Int) : ∀ l : List Int, flE limit l = ifK (greatB limit l) 3 0
  | [] => rfl
  | x :: r => by
    have ih := flE_eq limit r
    unfold greatB at ih ⊢
    rw [show flE limit (x :: r) = ifK (decide (x < 1)) 3 (ifK (decide (x > limit)) 3 (flE limit r)) from rfl, ih, List.any_cons]
    unfold outLM
    dsimp only
    cases decide (x < 1) <;> cases decide (x > limit) <;> cases List.any r _ <;> rfl
theorem rounds_same (flows : List Int) (limit : Int) : roundsE flows limit = rndE flows limit := by
  unfold roundsE rndE
  rw [flE_eq]
  unfold outLM
  dsimp only
  cases ((flows.length : Int) == 0) <;> cases decide ((flows.length : Int) > 8) <;> cases decide (limit < 1) <;> cases decide (limit > 999999999) <;> cases greatB limit flows <;> rfl

/-! ### Rotations -/
def anyB (p : Pt) (l : List Pt) : Bool := l.any fun q => (q.1 == p.1) && ((q.2 == p.2) && true)
theorem any_idx (p : Pt) : ∀ (l : List Pt) (i : Nat), (idxK p l i).isSome = anyB p l
  | [], _ => rfl
  | q :: r, i => by
    have ih := any_idx p r (i + 1)
    unfold anyB at ih ⊢
    rw [List.any_cons, ← ih]
    have e1 : (p.1 == q.1) = (q.1 == p.1) := BEq.comm
    have e2 : (p.2 == q.2) = (q.2 == p.2) := BEq.comm
    rw [show idxK p (q :: r) i = (match (p.1 == q.1) && ((p.2 == q.2) && true) with
      | true => some i
      | false => idxK p r (i + 1)) from rfl, e1, e2]
    cases (q.1 == p.1) && ((q.2 == p.2) && true) <;> rfl
def seenR : List Pt → List Pt → Int
  | [], _ => 0
  | p :: r, pre => ifK (outP p) 3 (ifK (anyB p pre) 9 (seenR r (pre ++ [p])))
theorem seen_same : ∀ r pre : List Pt, seenE r pre = seenR r pre
  | [], _ => rfl
  | p :: r, pre => by
    rw [show seenE (p :: r) pre = ifK (firstZ [ifK (outP p) 3 0, ifK (seenB p pre) 9 0] != 0) (firstZ [ifK (outP p) 3 0, ifK (seenB p pre) 9 0]) (seenE r (pre ++ [p])) from rfl, seen_same r (pre ++ [p])]
    rw [show seenR (p :: r) pre = ifK (outP p) 3 (ifK (anyB p pre) 9 (seenR r (pre ++ [p]))) from rfl, show seenB p pre = anyB p pre from any_idx p pre 0]
    cases outP p <;> cases anyB p pre <;> rfl
def rotR (l : List Pt) (radius days : Int) : Int := ifK ((l.length : Int) == 0) 12 (ifK (decide ((l.length : Int) > 16)) 5 (ifK (seenR l [] != 0) (seenR l []) (ifK (decide (radius < 0)) 3 (ifK (decide (radius > 1000000)) 3 (ifK (decide (days < 0)) 3 (ifK (decide (days > 366)) 3 0))))))
section
variable {call : FuncId → List D → Option D} {f : Bool} {l : List Pt} {radius days : Int}
theorem go38i {p : Pt} {r pre : List Pt} {n : Nat} (hl : l.length ≤ 1000) (hp : pre ++ p :: r = l) : ∀ (b a : List Pt) (fuel : Nat), a ++ b = pre → b.length < fuel →
    F38_15654 call LL C1 n fuel f l.length (ptsC l) radius days (pre.length : Int) (a.length : Int) = ifK (anyB p b) (some (.int .i64 9)) (F38_122 call LL C1 n f l.length (ptsC l) radius days ((pre ++ [p]).length : Int)) := by
  have hlen : pre.length < l.length := by rw [← hp]; simp
  have e3 : IntKind.wrap .i64 ((pre.length : Int) + 1) = ((pre ++ [p]).length : Int) := (wrap_in (by omega)).trans (by simp)
  intro b
  induction b with
  | nil =>
    intro a fuel ha hf
    obtain ⟨fuel, rfl⟩ : ∃ n, fuel = n + 1 := ⟨fuel - 1, by omega⟩
    rw [List.append_nil] at ha
    rw [F38_15654_eq, show decide ((a.length : Int) < (pre.length : Int)) = false by rw [ha]; simp, ifK_false, e3]
    rfl
  | cons q b ih =>
    intro a fuel ha hf
    obtain ⟨fuel, rfl⟩ : ∃ n, fuel = n + 1 := ⟨fuel - 1, by omega⟩
    have ih := ih (a ++ [q]) fuel (by rw [← ha]; simp) (by simp at hf; omega)
    have hal : a.length < pre.length := by rw [← ha]; simp
    have e4 : IntKind.wrap .i64 ((a.length : Int) + 1) = ((a ++ [q]).length : Int) := (wrap_in (by omega)).trans (by simp)
    have hq : l = a ++ q :: (b ++ p :: r) := by rw [← hp, ← ha]; simp
    have c0 : ∀ {γ : Type} (k : D → Option γ), cellK (ptsC l) (Int.toNat (a.length : Int) * 2 + 0) k = k (.int .i64 q.1) := fun k => by rw [hq]; exact q0 a q _
    have c1 : ∀ {γ : Type} (k : D → Option γ), cellK (ptsC l) (Int.toNat (a.length : Int) * 2 + 1) k = k (.int .i64 q.2) := fun k => by rw [hq]; exact q1 a q _
    have d0 : ∀ {γ : Type} (k : D → Option γ), cellK (ptsC l) (Int.toNat (pre.length : Int) * 2 + 0) k = k (.int .i64 p.1) := fun k => by rw [← hp]; exact q0 pre p r
    have d1 : ∀ {γ : Type} (k : D → Option γ), cellK (ptsC l) (Int.toNat (pre.length : Int) * 2 + 1) k = k (.int .i64 p.2) := fun k => by rw [← hp]; exact q1 pre p r
    rw [F38_15654_eq, show decide ((a.length : Int) < (pre.length : Int)) = true by simp; omega, ifK_true, show decide ((0 : Int) ≤ (a.length : Int) ∧ (a.length : Int) < (l.length : Int)) = true from decide_eq_true ⟨by omega, by omega⟩, chkK_true, c0, intK_int, c1, intK_int,
      show decide ((0 : Int) ≤ (pre.length : Int) ∧ (pre.length : Int) < (l.length : Int)) = true from decide_eq_true ⟨by omega, by omega⟩, chkK_true, d0, intK_int, d1, intK_int, e4, ih]
    rw [show anyB p (q :: b) = (((q.1 == p.1) && ((q.2 == p.2) && true)) || anyB p b) from rfl]
    cases (q.1 == p.1) && ((q.2 == p.2) && true) <;> rfl
theorem go38 (hl : l.length ≤ 1000) (h24 : ∀ p : Pt, call 24 [ptD p] = some (.int .i64 (ifK (outP p) 3 0))) : ∀ (r pre : List Pt) (fuel : Nat), pre ++ r = l → r.length < fuel →
    F38_122 call LL C1 fuel f l.length (ptsC l) radius days (pre.length : Int) = some (.int .i64 (ifK (seenR r pre != 0) (seenR r pre) (ifK (decide (radius < 0)) 3 (ifK (decide (radius > 1000000)) 3 (ifK (decide (days < 0)) 3 (ifK (decide (days > 366)) 3 0)))))) := by
  intro r
  induction r with
  | nil =>
    intro pre fuel hp hf
    obtain ⟨fuel, rfl⟩ : ∃ n, fuel = n + 1 := ⟨fuel - 1, by omega⟩
    rw [List.append_nil] at hp
    rw [F38_122_eq, show decide ((pre.length : Int) < (l.length : Int)) = false by rw [hp]; simp, ifK_false]
    show _ = some (D.int .i64 (ifK (decide (radius < 0)) 3 (ifK (decide (radius > 1000000)) 3 (ifK (decide (days < 0)) 3 (ifK (decide (days > 366)) 3 0)))))
    cases decide (radius < 0) <;> cases decide (radius > 1000000) <;> cases decide (days < 0) <;> cases decide (days > 366) <;> rfl
  | cons x r ih =>
    intro pre fuel hp hf
    obtain ⟨fuel, rfl⟩ : ∃ n, fuel = n + 1 := ⟨fuel - 1, by omega⟩
    have ih := ih (pre ++ [x]) fuel (by rw [← hp]; simp) (by simp at hf; omega)
    have hlen : pre.length < l.length := by rw [← hp]; simp
    have c0 : ∀ {γ : Type} (k : D → Option γ), cellK (ptsC l) (Int.toNat (pre.length : Int) * 2 + 0) k = k (.int .i64 x.1) := fun k => by rw [← hp]; exact q0 pre x r
    have c1 : ∀ {γ : Type} (k : D → Option γ), cellK (ptsC l) (Int.toNat (pre.length : Int) * 2 + 1) k = k (.int .i64 x.2) := fun k => by rw [← hp]; exact q1 pre x r
    have f24 : call 24 [D.agg [.int .i64 x.1, .int .i64 x.2]] = some (.int .i64 (ifK (outP x) 3 0)) := h24 x
    have hin := go38i (call := call) (f := f) (radius := radius) (days := days) (n := fuel) hl hp pre [] LL rfl (by unfold LL; omega)
    rw [F38_122_eq, show decide ((pre.length : Int) < (l.length : Int)) = true by simp; omega, ifK_true, show decide ((0 : Int) ≤ (pre.length : Int) ∧ (pre.length : Int) < (l.length : Int)) = true from decide_eq_true ⟨by omega, by omega⟩, chkK_true, c0, intK_int, c1, intK_int, f24, optK_some, intK_int]
    rw [show seenR (x :: r) pre = ifK (outP x) 3 (ifK (anyB x pre) 9 (seenR r (pre ++ [x]))) from rfl]
    cases outP x
    · rw [ifK_false, ifK_false, show ((0 : Int) != 0) = false from rfl, ifK_false]
      refine hin.trans ?_
      cases anyB x pre
      · rw [ifK_false, ifK_false]; exact ih
      · rfl
    · rfl
end
theorem ok38 {f : Bool} (l : List Pt) (radius days : Int) : OK2 38 [.slc f l.length (ptsC l), .int .i64 radius, .int .i64 days] (.int .i64 (rotR l radius days)) := by
  obtain ⟨B, hb, e24, _⟩ := exF [famP 24 fun p => .int .i64 (ifK (outP p) 3 0)] ⟨famP_good ok24 (fun _ => rfl), trivial⟩ rfl
  refine fnT hb Tryz.func38 (ord := O0) (N := N38) (by kernel_rfl) ((F38_eq _ _ _ _ _ _ _ _).trans ?_)
  unfold rotR
  cases ((l.length : Int) == 0)
  · rw [ifK_false, ifK_false]
    cases hg : decide ((l.length : Int) > 16)
    · rw [ifK_false, ifK_false]
      have hl : l.length ≤ 16 := by simp at hg; omega
      exact go38 (by omega) (fun p => e24 p) l [] LL rfl (by unfold LL; omega)
    · rfl
  · rfl
theorem rot_same (l : List Pt) (radius days : Int) : rotE l radius days = rotR l radius days := by
  unfold rotE rotR
  rw [seen_same]
  unfold outLM
  dsimp only
  cases ((l.length : Int) == 0) <;> cases decide ((l.length : Int) > 16) <;> cases decide (radius < 0) <;> cases decide (radius > 1000000) <;> cases decide (days < 0) <;> cases decide (days > 366) <;> first | rfl | (cases seenR l [] != 0 <;> rfl)
end Go.Pd
end

section
namespace Go.Pd
open Go Go.Proofs Go.RowKit
set_option maxRecDepth 100000

def cntR (l : List Pt) (rr : Int) (p : Pt) : List Int → Int → Int
  | [], n => n
  | o :: r, n => cntR l rr p r (ifK (decide (sqW (pt l o.toNat) p ≤ rr)) (w64 (n + 1)) n)
def bestR (l : List Pt) (rr : Int) (out : List Int) : Nat → Nat → Nat → Int → Nat
  | 0, _, b, _ => b
  | k + 1, i, b, le => ifK (decide (cntR l rr (pt l i) out 0 < le)) (bestR l rr out k (i + 1) i (cntR l rr (pt l i) out 0)) (bestR l rr out k (i + 1) b le)
def rotRG (l : List Pt) (rr : Int) (days : Nat) : Nat → List Int → List Int
  | 0, out => out
  | k + 1, out => rotRG l rr days k (out ++ [((bestR l rr out l.length 0 0 ((days : Int) + 1) : Nat) : Int)])
section
variable {call : FuncId → List D → Option D} {f : Bool} {l : List Pt} {radius days : Int} {out : List Int}
theorem go40i {n n1 : Nat} {vd : Int} {best i : Nat} {least : Int} (hi : i < l.length) (h47 : ∀ a b : Pt, call 47 [ptD a, ptD b] = some (.int .i64 (sqW a b))) (ho : ∀ o ∈ out, 0 ≤ o ∧ o < l.length) (hol : out.length ≤ 1000) {R : Int → Option D}
    (hR : ∀ c, ifK (decide (c < least)) (F40_14922 call LL C1 n n1 f l.length (ptsC l) radius days vd (ow36 out) (i : Int) c (IntKind.wrap .i64 ((i : Int) + 1))) (F40_14922 call LL C1 n n1 f l.length (ptsC l) radius days vd (ow36 out) (best : Int) least (IntKind.wrap .i64 ((i : Int) + 1))) = R c) :
    ∀ (b a : List Int) (fuel : Nat) (c : Int), a ++ b = out → b.length < fuel → F40_3820106 call LL C1 n n1 fuel f l.length (ptsC l) radius days vd (best : Int) least (i : Int) (ow36 out) c (a.length : Int) = R (cntR l (w64 (radius * radius)) (pt l i) b c) := by
  intro b
  induction b with
  | nil =>
    intro a fuel c ha hf
    obtain ⟨fuel, rfl⟩ : ∃ n, fuel = n + 1 := ⟨fuel - 1, by omega⟩
    rw [List.append_nil] at ha
    subst ha
    have hR := hR c
    cases a with
    | nil =>
      show F40_3820106 call LL C1 n n1 (fuel + 1) f l.length (ptsC l) radius days vd (best : Int) least (i : Int) .nil c ((0 : Nat) : Int) = _
      rw [F40_3820106_eqn, show decide (((0 : Nat) : Int) < 0) = false from rfl, ifK_false]
      exact hR
    | cons x a =>
      show F40_3820106 call LL C1 n n1 (fuel + 1) f l.length (ptsC l) radius days vd (best : Int) least (i : Int) (.own (x :: a).length (ints (x :: a))) c ((x :: a).length : Int) = _
      rw [F40_3820106_eqo, show decide (((x :: a).length : Int) < ((x :: a).length : Int)) = false by simp, ifK_false]
      exact hR
  | cons o b ih =>
    intro a fuel c ha hf
    obtain ⟨fuel, rfl⟩ : ∃ n, fuel = n + 1 := ⟨fuel - 1, by omega⟩
    have ih := fun c => ih (a ++ [o]) fuel c (by rw [← ha]; simp) (by simp at hf; omega)
    have hal : a.length < out.length := by rw [← ha]; simp
    obtain ⟨o0, o1⟩ := ho o (by rw [← ha]; simp)
    obtain ⟨j, rfl⟩ : ∃ j : Nat, o = j := ⟨o.toNat, by omega⟩
    have hj : j < l.length := by omega
    have hu : out[a.length]? = some ((j : Nat) : Int) := by rw [← ha]; simp
    have e4 : IntKind.wrap .i64 ((a.length : Int) + 1) = ((a ++ [(j : Int)]).length : Int) := (wrap_in (by omega)).trans (by simp)
    have e47 : call 47 [D.agg [.int .i64 (pt l j).1, .int .i64 (pt l j).2], D.agg [.int .i64 (pt l i).1, .int .i64 (pt l i).2]] = some (.int .i64 (sqW (pt l j) (pt l i))) := h47 _ _
    have hcell : ∀ k : D → Option D, cellK (ints out) (Int.toNat (a.length : Int) * 1) k = k (.int .i64 (j : Int)) := fun k => cell_at hu k
    have how : ow36 out = .own out.length (ints out) := by
      cases out with
      | nil => simp at hal
      | cons => rfl
    rw [how] at ih ⊢
    rw [F40_3820106_eqo, show decide ((a.length : Int) < (out.length : Int)) = true by simp; omega, ifK_true, show decide ((0 : Int) ≤ (a.length : Int) ∧ (a.length : Int) < (out.length : Int)) = true from decide_eq_true ⟨by omega, by omega⟩, chkK_true, hcell, intK_int,
      show decide ((0 : Int) ≤ (j : Int) ∧ (j : Int) < (l.length : Int)) = true from decide_eq_true ⟨by omega, by omega⟩, chkK_true, (pt_cells hj _).1, intK_int, (pt_cells hj _).2, intK_int,
      show decide ((0 : Int) ≤ (i : Int) ∧ (i : Int) < (l.length : Int)) = true from decide_eq_true ⟨by omega, by omega⟩, chkK_true, (pt_cells hi _).1, intK_int, (pt_cells hi _).2, intK_int, e47, optK_some, intK_int, e4, ih, ih]
    rw [show cntR l (w64 (radius * radius)) (pt l i) ((j : Int) :: b) c = cntR l (w64 (radius * radius)) (pt l i) b (ifK (decide (sqW (pt l j) (pt l i) ≤ w64 (radius * radius))) (w64 (c + 1)) c) from rfl]
    cases decide (sqW (pt l j) (pt l i) ≤ w64 (radius * radius)) <;> rfl
theorem go40b {n : Nat} {vd : Int} (hl : l.length ≤ 1000) (h47 : ∀ a b : Pt, call 47 [ptD a, ptD b] = some (.int .i64 (sqW a b))) (ho : ∀ o ∈ out, 0 ≤ o ∧ o < l.length) (hol : out.length ≤ 1000) {R : Nat → Option D}
    (hR : ∀ b : Nat, F40_58 call LL C1 n f l.length (ptsC l) radius days (ow36 (out ++ [(b : Int)])) (IntKind.wrap .i64 (vd + 1)) = R b) :
    ∀ (k i best fuel : Nat) (least : Int), i + k = l.length → k < fuel → F40_14922 call LL C1 n fuel f l.length (ptsC l) radius days vd (ow36 out) (best : Int) least (i : Int) = R (bestR l (w64 (radius * radius)) out k i best least)
  | 0, i, best, fuel, least, hi, hf => by
    obtain ⟨fuel, rfl⟩ : ∃ n, fuel = n + 1 := ⟨fuel - 1, by omega⟩
    have e1 : decide ((i : Int) < (l.length : Int)) = false := by simp; omega
    have hR := hR best
    cases out with
    | nil =>
      show F40_14922 call LL C1 n (fuel + 1) f l.length (ptsC l) radius days vd .nil (best : Int) least (i : Int) = _
      rw [F40_14922_eqn, e1, ifK_false]
      exact hR
    | cons a out =>
      show F40_14922 call LL C1 n (fuel + 1) f l.length (ptsC l) radius days vd (.own (a :: out).length (ints (a :: out))) (best : Int) least (i : Int) = _
      have e5 : ow36 (a :: out ++ [(best : Int)]) = .own ((a :: out).length + 1) (ints (a :: out) ++ [D.int .i64 (best : Int)]) := by
        show Ow.own (a :: (out ++ [(best : Int)])).length (ints (a :: (out ++ [(best : Int)]))) = _
        simp [ints]
      rw [e5] at hR
      rw [F40_14922_eqo, e1, ifK_false, show decide (((a :: out).length + 1) * 8 ≤ Go.Pd.limit ∧ (a :: out).length + 1 ≤ 9223372036854775807) = true from decide_eq_true ⟨by unfold Go.Pd.limit; omega, by omega⟩, chkK_true]
      exact hR
  | k + 1, i, best, fuel, least, hi, hf => by
    obtain ⟨fuel, rfl⟩ : ∃ n, fuel = n + 1 := ⟨fuel - 1, by omega⟩
    have e1 : decide ((i : Int) < (l.length : Int)) = true := by simp; omega
    have e3 : IntKind.wrap .i64 ((i : Int) + 1) = ((i + 1 : Nat) : Int) := (wrap_in (by omega)).trans (by omega)
    have ih := fun b le => go40b (n := n) (vd := vd) hl h47 ho hol hR k (i + 1) b fuel le (by omega) (by omega)
    have inner := go40i (call := call) (f := f) (radius := radius) (days := days) (out := out) (n := n) (n1 := fuel) (vd := vd) (best := best) (least := least) (i := i) (by omega) h47 ho hol
      (R := fun c => ifK (decide (c < least)) (R (bestR l (w64 (radius * radius)) out k (i + 1) i c)) (R (bestR l (w64 (radius * radius)) out k (i + 1) best least))) (fun c => by rw [e3, ih, ih]) out [] LL 0 rfl (by unfold LL; omega)
    have hb : bestR l (w64 (radius * radius)) out (k + 1) i best least = ifK (decide (cntR l (w64 (radius * radius)) (pt l i) out 0 < least)) (bestR l (w64 (radius * radius)) out k (i + 1) i (cntR l (w64 (radius * radius)) (pt l i) out 0)) (bestR l (w64 (radius * radius)) out k (i + 1) best least) := rfl
    have fin : F40_3820106 call LL C1 n fuel LL f l.length (ptsC l) radius days vd (best : Int) least (i : Int) (ow36 out) 0 0 = R (bestR l (w64 (radius * radius)) out (k + 1) i best least) := by
      refine inner.trans ?_
      rw [hb]
      cases decide (cntR l (w64 (radius * radius)) (pt l i) out 0 < least) <;> rfl
    cases out with
    | nil =>
      show F40_14922 call LL C1 n (fuel + 1) f l.length (ptsC l) radius days vd .nil (best : Int) least (i : Int) = _
      rw [F40_14922_eqn, e1, ifK_true]
      exact fin
    | cons a out =>
      show F40_14922 call LL C1 n (fuel + 1) f l.length (ptsC l) radius days vd (.own (a :: out).length (ints (a :: out))) (best : Int) least (i : Int) = _
      rw [F40_14922_eqo, e1, ifK_true]
      exact fin
theorem bestR_lt {rr : Int} : ∀ (k i best : Nat) (least : Int), i + k = l.length → best < l.length → bestR l rr out k i best least < l.length
  | 0, _, _, _, _, h => h
  | k + 1, i, best, least, hi, hb => by
    unfold bestR
    cases decide (cntR l rr (pt l i) out 0 < least)
    · exact bestR_lt k (i + 1) best least (by omega) hb
    · exact bestR_lt k (i + 1) i _ (by omega) (by omega)
end
theorem go40d {call : FuncId → List D → Option D} {f : Bool} {l : List Pt} {radius : Int} {days : Nat} (hl : l.length ≤ 1000) (hl0 : 0 < l.length) (hd : days ≤ 366) (h47 : ∀ a b : Pt, call 47 [ptD a, ptD b] = some (.int .i64 (sqW a b))) :
    ∀ (k t fuel : Nat) (out : List Int), t + k = days → out.length = t → (∀ o ∈ out, 0 ≤ o ∧ o < l.length) → k < fuel → F40_58 call LL C1 fuel f l.length (ptsC l) radius (days : Int) (ow36 out) (t : Int) = some (slcI (rotRG l (w64 (radius * radius)) days k out))
  | 0, t, fuel, out, ht, ha, ho, hf => by
    obtain ⟨fuel, rfl⟩ : ∃ n, fuel = n + 1 := ⟨fuel - 1, by omega⟩
    have e1 : decide ((t : Int) < (days : Int)) = false := by simp; omega
    cases out with
    | nil =>
      show F40_58 call LL C1 (fuel + 1) f l.length (ptsC l) radius (days : Int) .nil (t : Int) = _
      rw [F40_58_eqn, e1, ifK_false]
      rfl
    | cons a out =>
      show F40_58 call LL C1 (fuel + 1) f l.length (ptsC l) radius (days : Int) (.own (a :: out).length (ints (a :: out))) (t : Int) = _
      rw [F40_58_eqo, e1, ifK_false]
      rfl
  | k + 1, t, fuel, out, ht, ha, ho, hf => by
    obtain ⟨fuel, rfl⟩ : ∃ n, fuel = n + 1 := ⟨fuel - 1, by omega⟩
    have e1 : decide ((t : Int) < (days : Int)) = true := by simp; omega
    have e3 : IntKind.wrap .i64 ((t : Int) + 1) = ((t + 1 : Nat) : Int) := (wrap_in (by omega)).trans (by omega)
    have e4 : IntKind.wrap .i64 ((days : Int) + 1) = (days : Int) + 1 := wrap_in (by omega)
    have hR : ∀ b : Nat, F40_58 call LL C1 fuel f l.length (ptsC l) radius (days : Int) (ow36 (out ++ [(b : Int)])) (IntKind.wrap .i64 ((t : Int) + 1)) = if b < l.length then some (slcI (rotRG l (w64 (radius * radius)) days k (out ++ [(b : Int)]))) else F40_58 call LL C1 fuel f l.length (ptsC l) radius (days : Int) (ow36 (out ++ [(b : Int)])) (IntKind.wrap .i64 ((t : Int) + 1)) := fun b => by
      split
      · rename_i hb
        rw [e3]
        exact go40d hl hl0 hd h47 k (t + 1) fuel (out ++ [(b : Int)]) (by omega) (by simp; omega) (fun o h => by
          rcases List.mem_append.1 h with h | h
          · exact ho o h
          · rw [List.mem_singleton.1 h]; omega) (by omega)
      · rfl
    have main := go40b (call := call) (f := f) (l := l) (radius := radius) (days := (days : Int)) (out := out) (n := fuel) (vd := (t : Int)) hl h47 ho (by omega) hR l.length 0 0 LL ((days : Int) + 1) (by omega) (by unfold LL; omega)
    rw [if_pos (bestR_lt l.length 0 0 _ (by omega) hl0)] at main
    rw [show rotRG l (w64 (radius * radius)) days (k + 1) out = rotRG l (w64 (radius * radius)) days k (out ++ [((bestR l (w64 (radius * radius)) out l.length 0 0 ((days : Int) + 1) : Nat) : Int)]) from rfl]
    cases out with
    | nil =>
      show F40_58 call LL C1 (fuel + 1) f l.length (ptsC l) radius (days : Int) .nil (t : Int) = _
      rw [F40_58_eqn, e1, ifK_true, e4]
      exact main
    | cons a out =>
      show F40_58 call LL C1 (fuel + 1) f l.length (ptsC l) radius (days : Int) (.own (a :: out).length (ints (a :: out))) (t : Int) = _
      rw [F40_58_eqo, e1, ifK_true, e4]
      exact main
theorem ok40 {f : Bool} (l : List Pt) (radius : Int) (days : Nat) (hl : l.length ≤ 1000) (hl0 : 0 < l.length) (hd : days ≤ 366) : OK2 40 [.slc f l.length (ptsC l), .int .i64 radius, .int .i64 (days : Int)] (slcI (rotRG l (w64 (radius * radius)) days days [])) := by
  obtain ⟨B, hb, e47, _⟩ := exF [famPP 47 fun a b => .int .i64 (sqW a b)] ⟨famPP_good ok47 (fun _ _ => rfl), trivial⟩ rfl
  exact fnT hb Tryz.func40 (ord := O0) (N := N40) (by kernel_rfl) ((F40_eq _ _ _ _ _ _ _ _).trans (go40d hl hl0 hd (fun a b => e47 (a, b)) days 0 LL [] (by omega) rfl (fun o h => by cases h) (by unfold LL; omega)))
end Go.Pd
end

section
namespace Go.Pd
open Go Go.Proofs Go.RowKit
set_option maxRecDepth 100000

theorem cntR_app {l : List Pt} {rr : Int} {p : Pt} : ∀ (a : List Int) (o n : Int), cntR l rr p (a ++ [o]) n = ifK (decide (sqW (pt l o.toNat) p ≤ rr)) (w64 (cntR l rr p a n + 1)) (cntR l rr p a n)
  | [], _, _ => rfl
  | _ :: a, o, _ => cntR_app a o _
theorem cntR_le {l : List Pt} {rr : Int} {p : Pt} : ∀ (a : List Int) (n : Int), 0 ≤ n → n + a.length ≤ 1000 → 0 ≤ cntR l rr p a n ∧ cntR l rr p a n ≤ n + a.length
  | [], n, h0, _ => ⟨h0, by simp [cntR]⟩
  | x :: a, n, h0, h1 => by
    simp only [List.length_cons] at h1 ⊢
    show 0 ≤ cntR l rr p a _ ∧ cntR l rr p a _ ≤ _
    cases decide (sqW (pt l x.toNat) p ≤ rr)
    · have := cntR_le (l := l) (rr := rr) (p := p) a n h0 (by omega)
      rw [ifK_false]; omega
    · rw [ifK_true, show w64 (n + 1) = n + 1 from wrap_in (by omega)]
      have := cntR_le (l := l) (rr := rr) (p := p) a (n + 1) (by omega) (by omega)
      omega
theorem getD_set (w : List Int) (i j : Nat) (v : Int) (hi : i < w.length) : (w.set i v).getD j 0 = if i = j then v else w.getD j 0 := by
  rw [List.getD_eq_getElem?_getD, List.getD_eq_getElem?_getD]
  by_cases e : i = j
  · subst e
    rw [List.getElem?_set_self hi, if_pos rfl]
    rfl
  · rw [List.getElem?_set_ne e, if_neg e]
theorem incG_at {l : List Pt} {b : Pt} {rr : Int} : ∀ (k i : Nat) (w : List Int) (j : Nat), i + k ≤ w.length → (incG l b rr k i w).getD j 0 = if i ≤ j ∧ j < i + k then ifK (decide (sqW (pt l j) b ≤ rr)) (w64 (w.getD j 0 + 1)) (w.getD j 0) else w.getD j 0
  | 0, i, w, j, _ => by rw [if_neg (by omega)]; rfl
  | k + 1, i, w, j, hi => by
    unfold incG
    cases hd : decide (sqW (pt l i) b ≤ rr)
    · rw [ifK_false, incG_at k (i + 1) w j (by omega)]
      by_cases e : j = i
      · subst e
        rw [if_neg (by omega), if_pos (by omega), hd, ifK_false]
      · by_cases h : i + 1 ≤ j ∧ j < i + 1 + k
        · rw [if_pos h, if_pos (by omega)]
        · rw [if_neg h, if_neg (by omega)]
    · rw [ifK_true, incG_at k (i + 1) _ j (by simp; omega)]
      by_cases e : j = i
      · subst e
        rw [if_neg (by omega), if_pos (by omega), hd, ifK_true, getD_set _ _ _ _ (by omega), if_pos rfl]
      · have hs : (w.set i (w64 (w.getD i 0 + 1))).getD j 0 = w.getD j 0 := by rw [getD_set _ _ _ _ (by omega), if_neg (fun h => e h.symm)]
        rw [hs]
        by_cases h : i + 1 ≤ j ∧ j < i + 1 + k
        · rw [if_pos h, if_pos (by omega)]
        · rw [if_neg h, if_neg (by omega)]
theorem best_eq {l : List Pt} {rr : Int} {out w : List Int} (hw : ∀ i, i < l.length → w.getD i 0 = cntR l rr (pt l i) out 0) : ∀ (k i best : Nat), i + k = l.length → bestR l rr out k i best (w.getD best 0) = bestG w k i best
  | 0, _, _, _ => rfl
  | k + 1, i, best, hi => by
    have h1 := best_eq hw k (i + 1) i (by omega)
    have h2 := best_eq hw k (i + 1) best (by omega)
    show ifK (decide (cntR l rr (pt l i) out 0 < w.getD best 0)) (bestR l rr out k (i + 1) i (cntR l rr (pt l i) out 0)) (bestR l rr out k (i + 1) best (w.getD best 0)) = bestG w k (i + 1) (ifK (decide (w.getD i 0 < w.getD best 0)) i best)
    rw [← hw i (by omega), h1, h2]
    cases decide (w.getD i 0 < w.getD best 0) <;> rfl
theorem rot_eq {l : List Pt} {rr : Int} {days : Nat} (hl0 : 0 < l.length) (hin : ∀ p ∈ l, InP p) (hd : days ≤ 366) : ∀ (k : Nat) (w out : List Int), out.length + k = days → w.length = l.length → (∀ i, i < l.length → w.getD i 0 = cntR l rr (pt l i) out 0) → rotG l rr k w out = rotRG l rr days k out
  | 0, _, _, _, _, _ => rfl
  | k + 1, w, out, ho, hwl, hw => by
    have hp : ∀ i, i < l.length → InP (pt l i) := fun i hi => by
      have : pt l i = l[i] := by unfold pt; rw [List.getD_eq_getElem?_getD, List.getElem?_eq_getElem hi]; rfl
      rw [this]
      exact hin _ (List.getElem_mem hi)
    have hb : bestR l rr out l.length 0 0 ((days : Int) + 1) = bestG w l.length 0 0 := by
      obtain ⟨m, hm⟩ : ∃ m, l.length = m + 1 := ⟨l.length - 1, by omega⟩
      have hc := (cntR_le (l := l) (rr := rr) (p := pt l 0) out 0 (by omega) (by omega)).2
      have h1 := best_eq hw m 1 0 (by omega)
      rw [hm]
      show ifK (decide (cntR l rr (pt l 0) out 0 < (days : Int) + 1)) (bestR l rr out m 1 0 (cntR l rr (pt l 0) out 0)) _ = bestG w m 1 (ifK (decide (w.getD 0 0 < w.getD 0 0)) 0 0)
      rw [show decide (cntR l rr (pt l 0) out 0 < (days : Int) + 1) = true by simp; omega, ifK_true, ← hw 0 hl0, h1]
      cases decide (w.getD 0 0 < w.getD 0 0) <;> rfl
    have hbl := bestG_lt (w := w) w.length 0 0 (by omega) (by omega)
    rw [hwl] at hbl
    show rotG l rr k (incG l (pt l (bestG w l.length 0 0)) rr l.length 0 w) (out ++ [((bestG w l.length 0 0 : Nat) : Int)]) = rotRG l rr days k (out ++ [((bestR l rr out l.length 0 0 ((days : Int) + 1) : Nat) : Int)])
    rw [hb]
    refine rot_eq hl0 hin hd k _ _ (by simp; omega) (by rw [incG_len]; exact hwl) fun i hi => ?_
    rw [incG_at _ _ _ _ (by omega), if_pos (by omega), cntR_app, hw i hi, Int.toNat_natCast, sq_comm (hp i hi) (hp _ hbl)]
end Go.Pd
end
