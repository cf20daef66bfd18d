/-
  Chapter 5: what functions make of open arguments (printed by the desk's tool, each proved by the kernel): scores.
  Chapter 5: net strokes by the reference; scores of a player.
  Chapter 5: points and results against par; what the scores of a player are.
  Chapter 5: what is answered of a player.
-/
import Derived.Test.YtanpmgfaieekhaaGreatDoorFmA
import Derived.KernelRfl
import Derived.Test.YtanpmgfaieekhaaGreatDoorFmC1
import Derived.Test.YtanpmgfaieekhaaGreatDoorFmS
import Derived.Test.YtanpmgfaieekhaaGreatDoorFmT
section
namespace Go.Pd
open Go Go.Proofs
set_option maxRecDepth 100000
theorem F109_eq (call : FuncId → List D → Option D) (L : Nat) (C : Nat → Nat) (ve0 : Int) (ve1 : ByteArray) : evFnT (TEf call L C) O0 N0 FinM.canon Tryz.f109 [D.agg [D.int IntKind.i64 ve0, D.str ve1]] =
  (some (D.int IntKind.i64 ve0)) := by kernel_rfl

theorem F111_eq (call : FuncId → List D → Option D) (L : Nat) (C : Nat → Nat) (vn0 : Int) (vn1 : ByteArray) : evFnT (TEf call L C) O0 N0 FinM.canon Tryz.f111 [D.agg [D.int IntKind.i64 vn0, D.str vn1]] =
  (some (D.int IntKind.i64 vn0)) := by kernel_rfl

theorem F148_eq (call : FuncId → List D → Option D) (L : Nat) (C : Nat → Nat) (vn0 : Int) (vn1 : ByteArray) : evFnT (TEf call L C) O0 N0 FinM.canon Tryz.f148 [D.agg [D.int IntKind.i64 vn0, D.str vn1]] =
  (optK (call 102 [D.agg [D.int IntKind.i64 vn0, D.str vn1]]) fun r =>
    (boolK (r) fun b =>
    (some (D.bool !b)))) := by kernel_rfl

def N175 : NTab := fun p => match p with
  | 26 => some { keep := [0, 1, 7, 8], kl := [], ren := [] }
  | _ => none
noncomputable def F175_26 (call : FuncId → List D → Option D) (L : Nat) (C : Nat → Nat) (n : Nat) (vs_f : Bool) (vs_n : Nat) (vs_c : List D) (t7 : Int) (t8 : Int) : Option D :=
  loopAt (TEf call L C) O0 N175 FinM.canon Tryz.f175 [true, false, true, false] []  n (St.mk [D.slc vs_f vs_n vs_c, D.fn (Fn.func 148) [] [], J, J, J, J, J, D.int IntKind.i64 t7, D.int IntKind.i64 t8, J, J, J, J, J, J, J, J, J, J] [Z, Z, Z, Z, Z, Z, Z, Z, Z, Z, Z, Z, Z, Z, Z, Z, Z, Z, Z])
theorem F175_26_eq (call : FuncId → List D → Option D) (L : Nat) (C : Nat → Nat) (n : Nat) (vs_f : Bool) (vs_n : Nat) (vs_c : List D) (t7 : Int) (t8 : Int) : F175_26 call L C  (n + 1) vs_f vs_n vs_c (t7) (t8) =
  (ifK (decide (t8 < t7))
    (chkK (decide (0 ≤ t8 ∧ t8 < (vs_n : Int)))
      (cellK (vs_c) (Int.toNat t8 * 2 + 0) fun d =>
      (intK IntKind.i64 (d) fun x =>
      (cellK (vs_c) (Int.toNat t8 * 2 + 1) fun d_1 =>
      (strK (d_1) fun s =>
      (optK (call 148 [D.agg [D.int IntKind.i64 x, D.str s]]) fun r =>
        (boolK (r) fun b =>
        (ifK (b)
          (some (D.int IntKind.i64 t8))
          (F175_26 call L C n vs_f vs_n vs_c (t7) (IntKind.wrap IntKind.i64 (t8 + 1)))))))))))
    (some (D.int IntKind.i64 (-1)))) := by kernel_rfl
theorem F175_eq (call : FuncId → List D → Option D) (L : Nat) (C : Nat → Nat) (vs_f : Bool) (vs_n : Nat) (vs_c : List D) : evFnT (TEf call L C) O0 N175 FinM.canon Tryz.f175 [D.slc vs_f vs_n vs_c, D.fn (Fn.func 148) [] []] =
  (F175_26 call L C L vs_f vs_n vs_c ((vs_n : Int)) (0)) := by kernel_rfl

theorem F147_eq (call : FuncId → List D → Option D) (L : Nat) (C : Nat → Nat) (vs_f : Bool) (vs_n : Nat) (vs_c : List D) : evFnT (TEf call L C) O0 N0 FinM.canon Tryz.f147 [D.slc vs_f vs_n vs_c, D.fn (Fn.func 148) [] []] =
  (optK (call 175 [D.slc vs_f vs_n vs_c, D.fn (Fn.func 148) [] []]) fun r =>
    (intK IntKind.i64 (r) fun x =>
    (some (D.bool (decide (x ≥ 0)))))) := by kernel_rfl

theorem F119_eq (call : FuncId → List D → Option D) (L : Nat) (C : Nat → Nat) (vl_f : Bool) (vl_n : Nat) (vl_c : List D) : evFnT (TEf call L C) O0 N0 FinM.canon Tryz.f119 [D.slc vl_f vl_n vl_c] =
  (optK (call 147 [D.slc vl_f vl_n vl_c, D.fn (Fn.func 148) [] []]) fun r =>
    (boolK (r) fun b =>
    (some (D.bool !b)))) := by kernel_rfl

def N59 : NTab := fun p => match p with
  | 122 => some { keep := [6, 7, 8], kl := [3], ren := [(3, 3)] }
  | _ => none
noncomputable def F59_122 (call : FuncId → List D → Option D) (L : Nat) (C : Nat → Nat) (n_1 : Nat) (vl_f : Bool) (vl_n : Nat) (vl_c : List D) (vn : Int) (vi : Int) : Option D :=
  loopAt (TEf call L C) O0 N59 FinM.canon Tryz.f59 [true, true, true, false, true, false] []  n_1 (St.mk [J, J, J, J, J, J, D.slc vl_f vl_n vl_c, D.int IntKind.i64 vn, D.int IntKind.i64 vi, J, J, J, J, J, J, J, J, J, J, J, J, J, J, J, J, J, J, J, J, J, J, J] [Z, Z, Z, Z, Z, Z, Z, Z, Z, Z, Z, Z, Z, Z, Z, Z, Z, Z, Z, Z, Z, Z, Z, Z, Z, Z, Z, Z, Z, Z, Z, Z])
theorem F59_122_eq (call : FuncId → List D → Option D) (L : Nat) (C : Nat → Nat) (n_1 : Nat) (vl_f : Bool) (vl_n : Nat) (vl_c : List D) (vn : Int) (vi : Int) : F59_122 call L C  (n_1 + 1)  (vl_f) (vl_n) (vl_c) (vn) (vi) =
  (ifK (decide (vi < (vl_n : Int)))
    (chkK (decide (0 ≤ vi ∧ vi < (vl_n : Int)))
      (cellK (vl_c) (Int.toNat vi * 2 + 1) fun d =>
      (strK (d) fun s =>
      (ifK (!ByteArray.toList s == ByteArray.toList (ByteArray.mk #[]))
        (some (D.tup [D.int IntKind.i64 0, D.bool false]))
        (chkK (decide (0 ≤ vi ∧ vi < (vl_n : Int)))
          (cellK (vl_c) (Int.toNat vi * 2 + 0) fun d_1 =>
          (intK IntKind.i64 (d_1) fun x =>
          (F59_122 call L C n_1 (vl_f) (vl_n) (vl_c) (IntKind.wrap IntKind.i64 (vn + x)) (IntKind.wrap IntKind.i64 (vi + 1))))))))))
    (some (D.tup [D.int IntKind.i64 vn, D.bool true]))) := by kernel_rfl
theorem F59_eq (call : FuncId → List D → Option D) (L : Nat) (C : Nat → Nat) (vh_f : Bool) (vh_n : Nat) (vh_c : List D) (vp0 : ByteArray) (vp1_f : Bool) (vp1_n : Nat) (vp1_c : List D) (vp2 : Int) : evFnT (TEf call L C) O0 N59 FinM.canon Tryz.f59 [D.slc vh_f vh_n vh_c, D.agg [D.str vp0, D.slc vp1_f vp1_n vp1_c, D.int IntKind.i64 vp2]] =
  (optK (call 26 [D.slc vh_f vh_n vh_c, D.agg [D.str vp0, D.slc vp1_f vp1_n vp1_c, D.int IntKind.i64 vp2]]) fun r =>
    (slcK (r) fun f n c =>
    (F59_122 call L C L (f) (n) (c) (0) (0)))) := by kernel_rfl

def N60 : NTab := fun p => match p with
  | 122 => some { keep := [0, 5, 6, 7], kl := [3], ren := [(3, 3), (40, 40)] }
  | _ => none
noncomputable def F60_122 (call : FuncId → List D → Option D) (L : Nat) (C : Nat → Nat) (n_1 : Nat) (vh_f : Bool) (vh_n : Nat) (vh_c : List D) (vl_f : Bool) (vl_n : Nat) (vl_c : List D) (vr : Ow) (vi : Int) : Option D :=
  loopAt (TEf call L C) O0 N60 FinM.canon Tryz.f60 [true, true, true, false, true, false] []  n_1 (St.mk [D.slc vh_f vh_n vh_c, J, J, J, J, D.slc vl_f vl_n vl_c, ownD 40 vr, D.int IntKind.i64 vi, J, J, J, J, J, J, J, J, J, J, J, J, J, J, J, J, J, J, J, J, J, J, J, J, J, J, J, J, J, J, J, J, J, J] [Z, Z, Z, Z, Z, Z, Z, Z, Z, Z, Z, Z, Z, Z, Z, Z, Z, Z, Z, Z, Z, Z, Z, Z, Z, Z, Z, Z, Z, Z, Z, Z, Z, Z, Z, Z, Z, Z, Z, Z, ownO 3 1 vr, Z])
theorem F60_122_eqn (call : FuncId → List D → Option D) (L : Nat) (C : Nat → Nat) (n_1 : Nat) (vh_f : Bool) (vh_n : Nat) (vh_c : List D) (vl_f : Bool) (vl_n : Nat) (vl_c : List D) (vi : Int) : F60_122 call L C  (n_1 + 1) vh_f vh_n vh_c (vl_f) (vl_n) (vl_c) (Ow.nil) (vi) =
  (ifK (decide (vi < (vl_n : Int)))
    (chkK (decide (0 ≤ vi ∧ vi < (vl_n : Int)))
      (cellK (vl_c) (Int.toNat vi * 2 + 1) fun d =>
      (strK (d) fun s =>
      (ifK (ByteArray.toList s == ByteArray.toList (ByteArray.mk #[]))
        (chkK (decide (0 ≤ vi ∧ vi < (vh_n : Int)))
          (cellK (vh_c) (Int.toNat vi * 2 + 0) fun d_1 =>
          (intK IntKind.i64 (d_1) fun x =>
          (chkK (decide (0 ≤ vi ∧ vi < (vl_n : Int)))
            (cellK (vl_c) (Int.toNat vi * 2 + 0) fun d_2 =>
            (intK IntKind.i64 (d_2) fun x_1 =>
            (F60_122 call L C n_1 vh_f vh_n vh_c (vl_f) (vl_n) (vl_c) (Ow.own 1 [D.int IntKind.i64 (if IntKind.wrap IntKind.i64 (IntKind.wrap IntKind.i64 (2 + x) - x_1) > 0 then IntKind.wrap IntKind.i64 (IntKind.wrap IntKind.i64 (2 + x) - x_1) else 0)]) (IntKind.wrap IntKind.i64 (vi + 1)))))))))
        (F60_122 call L C n_1 vh_f vh_n vh_c (vl_f) (vl_n) (vl_c) (Ow.own 1 [D.int IntKind.i64 0]) (IntKind.wrap IntKind.i64 (vi + 1)))))))
    (some (D.slc true 0 []))) := by kernel_rfl
theorem F60_122_eqo (call : FuncId → List D → Option D) (L : Nat) (C : Nat → Nat) (n_1 : Nat) (vh_f : Bool) (vh_n : Nat) (vh_c : List D) (vl_f : Bool) (vl_n : Nat) (vl_c : List D) (vr_n : Nat) (vr_c : List D) (vi : Int) : F60_122 call L C  (n_1 + 1) vh_f vh_n vh_c (vl_f) (vl_n) (vl_c) (Ow.own vr_n vr_c) (vi) =
  (ifK (decide (vi < (vl_n : Int)))
    (chkK (decide (0 ≤ vi ∧ vi < (vl_n : Int)))
      (cellK (vl_c) (Int.toNat vi * 2 + 1) fun d_3 =>
      (strK (d_3) fun s_1 =>
      (ifK (ByteArray.toList s_1 == ByteArray.toList (ByteArray.mk #[]))
        (chkK (decide (0 ≤ vi ∧ vi < (vh_n : Int)))
          (cellK (vh_c) (Int.toNat vi * 2 + 0) fun d_4 =>
          (intK IntKind.i64 (d_4) fun x_2 =>
          (chkK (decide (0 ≤ vi ∧ vi < (vl_n : Int)))
            (cellK (vl_c) (Int.toNat vi * 2 + 0) fun d_5 =>
            (intK IntKind.i64 (d_5) fun x_3 =>
            (chkK (decide ((vr_n + 1) * 8 ≤ limit ∧ vr_n + 1 ≤ 9223372036854775807))
              (F60_122 call L C n_1 vh_f vh_n vh_c (vl_f) (vl_n) (vl_c) (Ow.own (vr_n + 1) (vr_c ++ [D.int IntKind.i64 (if IntKind.wrap IntKind.i64 (IntKind.wrap IntKind.i64 (2 + x_2) - x_3) > 0 then IntKind.wrap IntKind.i64 (IntKind.wrap IntKind.i64 (2 + x_2) - x_3) else 0)])) (IntKind.wrap IntKind.i64 (vi + 1))))))))))
        (chkK (decide ((vr_n + 1) * 8 ≤ limit ∧ vr_n + 1 ≤ 9223372036854775807))
          (F60_122 call L C n_1 vh_f vh_n vh_c (vl_f) (vl_n) (vl_c) (Ow.own (vr_n + 1) (vr_c ++ [D.int IntKind.i64 0])) (IntKind.wrap IntKind.i64 (vi + 1))))))))
    (some (D.slc false vr_n vr_c))) := by kernel_rfl
theorem F60_eq (call : FuncId → List D → Option D) (L : Nat) (C : Nat → Nat) (vh_f : Bool) (vh_n : Nat) (vh_c : List D) (vp0 : ByteArray) (vp1_f : Bool) (vp1_n : Nat) (vp1_c : List D) (vp2 : Int) : evFnT (TEf call L C) O0 N60 FinM.canon Tryz.f60 [D.slc vh_f vh_n vh_c, D.agg [D.str vp0, D.slc vp1_f vp1_n vp1_c, D.int IntKind.i64 vp2]] =
  (optK (call 26 [D.slc vh_f vh_n vh_c, D.agg [D.str vp0, D.slc vp1_f vp1_n vp1_c, D.int IntKind.i64 vp2]]) fun r =>
    (slcK (r) fun f n c =>
    (F60_122 call L C L vh_f vh_n vh_c (f) (n) (c) (Ow.nil) (0)))) := by kernel_rfl

def N61 : NTab := fun p => match p with
  | 122 => some { keep := [0, 5, 6, 7], kl := [3], ren := [(3, 3), (51, 51)] }
  | 979 => some { keep := [0, 5, 6, 7], kl := [3], ren := [(3, 3), (51, 51)] }
  | 7827 => some { keep := [0, 5, 6, 7, 8], kl := [3], ren := [(3, 3), (51, 51)] }
  | 15653 => some { keep := [0, 5, 6, 7, 8, 36], kl := [3], ren := [(3, 3), (51, 51)] }
  | _ => none
noncomputable def F61_979 (call : FuncId → List D → Option D) (L : Nat) (C : Nat → Nat) (n_1 : Nat) (vh_f : Bool) (vh_n : Nat) (vh_c : List D) (vl_f : Bool) (vl_n : Nat) (vl_c : List D) (vi : Int) (vr_n : Nat) (t51_c : List D) : Option D :=
  cutAt (TEf call L C) O0 N61 FinM.canon Tryz.f61 [true, true, true, false, true, false, false, true, true] [n_1]  (C 979) (St.mk [D.slc vh_f vh_n vh_c, J, J, J, J, D.slc vl_f vl_n vl_c, D.own 51 0 vr_n, D.int IntKind.i64 vi, J, J, J, J, J, J, J, J, J, J, J, J, J, J, J, J, J, J, J, J, J, J, J, J, J, J, J, J, J, J, J, J, J, J, J, J, J, J, J, J, J, J, J, J, J] [Z, Z, Z, Z, Z, Z, Z, Z, Z, Z, Z, Z, Z, Z, Z, Z, Z, Z, Z, Z, Z, Z, Z, Z, Z, Z, Z, Z, Z, Z, Z, Z, Z, Z, Z, Z, Z, Z, Z, Z, Z, Z, Z, Z, Z, Z, Z, Z, Z, Z, Z, (1, some (Ob.arr 3 1 t51_c false)), Z])
noncomputable def F61_7827 (call : FuncId → List D → Option D) (L : Nat) (C : Nat → Nat) (n_1 : Nat) (vh_f : Bool) (vh_n : Nat) (vh_c : List D) (vl_f : Bool) (vl_n : Nat) (vl_c : List D) (vi : Int) (vr_2 : Ow) (vn : Int) : Option D :=
  cutAt (TEf call L C) O0 N61 FinM.canon Tryz.f61 [true, true, true, false, true, false, false, true, false, false, true, true] [n_1]  (C 7827) (St.mk [D.slc vh_f vh_n vh_c, J, J, J, J, D.slc vl_f vl_n vl_c, ownD 51 vr_2, D.int IntKind.i64 vi, D.int IntKind.i64 vn, J, J, J, J, J, J, J, J, J, J, J, J, J, J, J, J, J, J, J, J, J, J, J, J, J, J, J, J, J, J, J, J, J, J, J, J, J, J, J, J, J, J, J, J] [Z, Z, Z, Z, Z, Z, Z, Z, Z, Z, Z, Z, Z, Z, Z, Z, Z, Z, Z, Z, Z, Z, Z, Z, Z, Z, Z, Z, Z, Z, Z, Z, Z, Z, Z, Z, Z, Z, Z, Z, Z, Z, Z, Z, Z, Z, Z, Z, Z, Z, Z, ownO 3 1 vr_2, Z])
noncomputable def F61_15653 (call : FuncId → List D → Option D) (L : Nat) (C : Nat → Nat) (n_1 : Nat) (vh_f : Bool) (vh_n : Nat) (vh_c : List D) (vl_f : Bool) (vl_n : Nat) (vl_c : List D) (vi : Int) (vr_1 : Ow) (t36 : Bool) : Option D :=
  cutAt (TEf call L C) O0 N61 FinM.canon Tryz.f61 [true, true, true, false, true, false, false, true, false, false, true, false, true] [n_1]  (C 15653) (St.mk [D.slc vh_f vh_n vh_c, J, J, J, J, D.slc vl_f vl_n vl_c, ownD 51 vr_1, D.int IntKind.i64 vi, D.int IntKind.i64 0, J, J, J, J, J, J, J, J, J, J, J, J, J, J, J, J, J, J, J, J, J, J, J, J, J, J, J, D.bool t36, J, J, J, J, J, J, J, J, J, J, J, J, J, J, J, J] [Z, Z, Z, Z, Z, Z, Z, Z, Z, Z, Z, Z, Z, Z, Z, Z, Z, Z, Z, Z, Z, Z, Z, Z, Z, Z, Z, Z, Z, Z, Z, Z, Z, Z, Z, Z, Z, Z, Z, Z, Z, Z, Z, Z, Z, Z, Z, Z, Z, Z, Z, ownO 3 1 vr_1, Z])
noncomputable def F61_122 (call : FuncId → List D → Option D) (L : Nat) (C : Nat → Nat) (n_1 : Nat) (vh_f : Bool) (vh_n : Nat) (vh_c : List D) (vl_f : Bool) (vl_n : Nat) (vl_c : List D) (vr : Ow) (vi : Int) : Option D :=
  loopAt (TEf call L C) O0 N61 FinM.canon Tryz.f61 [true, true, true, false, true, false] []  n_1 (St.mk [D.slc vh_f vh_n vh_c, J, J, J, J, D.slc vl_f vl_n vl_c, ownD 51 vr, D.int IntKind.i64 vi, J, J, J, J, J, J, J, J, J, J, J, J, J, J, J, J, J, J, J, J, J, J, J, J, J, J, J, J, J, J, J, J, J, J, J, J, J, J, J, J, J, J, J, J, J] [Z, Z, Z, Z, Z, Z, Z, Z, Z, Z, Z, Z, Z, Z, Z, Z, Z, Z, Z, Z, Z, Z, Z, Z, Z, Z, Z, Z, Z, Z, Z, Z, Z, Z, Z, Z, Z, Z, Z, Z, Z, Z, Z, Z, Z, Z, Z, Z, Z, Z, Z, ownO 3 1 vr, Z])
theorem F61_979_eq (call : FuncId → List D → Option D) (L : Nat) (C : Nat → Nat) (n_1 : Nat) (vh_f : Bool) (vh_n : Nat) (vh_c : List D) (vl_f : Bool) (vl_n : Nat) (vl_c : List D) (vi : Int) (vr_n : Nat) (t51_c : List D) (hC : ∀ t, C t = 1) : F61_979 call L C n_1 vh_f vh_n vh_c vl_f vl_n vl_c vi (vr_n) (t51_c) =
  (F61_122 call L C n_1 vh_f vh_n vh_c (vl_f) (vl_n) (vl_c) (Ow.own vr_n t51_c) (IntKind.wrap IntKind.i64 (vi + 1))) := by
  unfold F61_979
  rw [hC]
  kernel_rfl
theorem F61_7827_eqn (call : FuncId → List D → Option D) (L : Nat) (C : Nat → Nat) (n_1 : Nat) (vh_f : Bool) (vh_n : Nat) (vh_c : List D) (vl_f : Bool) (vl_n : Nat) (vl_c : List D) (vi : Int) (vn : Int) (hC : ∀ t, C t = 1) : F61_7827 call L C n_1 vh_f vh_n vh_c vl_f vl_n vl_c vi (Ow.nil) (vn) =
  (F61_979 call L C n_1 vh_f vh_n vh_c vl_f vl_n vl_c vi (1) ([D.int IntKind.i64 vn])) := by
  unfold F61_7827
  rw [hC]
  kernel_rfl
theorem F61_7827_eqo (call : FuncId → List D → Option D) (L : Nat) (C : Nat → Nat) (n_1 : Nat) (vh_f : Bool) (vh_n : Nat) (vh_c : List D) (vl_f : Bool) (vl_n : Nat) (vl_c : List D) (vi : Int) (vr_2_n : Nat) (vr_2_c : List D) (vn : Int) (hC : ∀ t, C t = 1) : F61_7827 call L C n_1 vh_f vh_n vh_c vl_f vl_n vl_c vi (Ow.own vr_2_n vr_2_c) (vn) =
  (chkK (decide ((vr_2_n + 1) * 8 ≤ limit ∧ vr_2_n + 1 ≤ 9223372036854775807))
    (F61_979 call L C n_1 vh_f vh_n vh_c vl_f vl_n vl_c vi (vr_2_n + 1) (vr_2_c ++ [D.int IntKind.i64 vn]))) := by
  unfold F61_7827
  rw [hC]
  kernel_rfl
theorem F61_15653_eqn (call : FuncId → List D → Option D) (L : Nat) (C : Nat → Nat) (n_1 : Nat) (vh_f : Bool) (vh_n : Nat) (vh_c : List D) (vl_f : Bool) (vl_n : Nat) (vl_c : List D) (vi : Int) (t36 : Bool) (hC : ∀ t, C t = 1) : F61_15653 call L C n_1 vh_f vh_n vh_c vl_f vl_n vl_c vi (Ow.nil) (t36) =
  (ifK (t36)
    (F61_7827 call L C n_1 vh_f vh_n vh_c vl_f vl_n vl_c vi (Ow.nil) (-1))
    (chkK (decide (0 ≤ vi ∧ vi < (vl_n : Int)))
      (cellK (vl_c) (Int.toNat vi * 2 + 0) fun d_1 =>
      (intK IntKind.i64 (d_1) fun x =>
      (chkK (decide (0 ≤ vi ∧ vi < (vh_n : Int)))
        (cellK (vh_c) (Int.toNat vi * 2 + 0) fun d_2 =>
        (intK IntKind.i64 (d_2) fun x_1 =>
        (ifK (decide (x < x_1))
          (F61_7827 call L C n_1 vh_f vh_n vh_c vl_f vl_n vl_c vi (Ow.nil) (1))
          (F61_7827 call L C n_1 vh_f vh_n vh_c vl_f vl_n vl_c vi (Ow.nil) (0)))))))))) := by
  unfold F61_15653
  rw [hC]
  kernel_rfl
theorem F61_15653_eqo (call : FuncId → List D → Option D) (L : Nat) (C : Nat → Nat) (n_1 : Nat) (vh_f : Bool) (vh_n : Nat) (vh_c : List D) (vl_f : Bool) (vl_n : Nat) (vl_c : List D) (vi : Int) (vr_1_n : Nat) (vr_1_c : List D) (t36 : Bool) (hC : ∀ t, C t = 1) : F61_15653 call L C n_1 vh_f vh_n vh_c vl_f vl_n vl_c vi (Ow.own vr_1_n vr_1_c) (t36) =
  (ifK (t36)
    (F61_7827 call L C n_1 vh_f vh_n vh_c vl_f vl_n vl_c vi (Ow.own vr_1_n vr_1_c) (-1))
    (chkK (decide (0 ≤ vi ∧ vi < (vl_n : Int)))
      (cellK (vl_c) (Int.toNat vi * 2 + 0) fun d_3 =>
      (intK IntKind.i64 (d_3) fun x_2 =>
      (chkK (decide (0 ≤ vi ∧ vi < (vh_n : Int)))
        (cellK (vh_c) (Int.toNat vi * 2 + 0) fun d_4 =>
        (intK IntKind.i64 (d_4) fun x_3 =>
        (ifK (decide (x_2 < x_3))
          (F61_7827 call L C n_1 vh_f vh_n vh_c vl_f vl_n vl_c vi (Ow.own vr_1_n vr_1_c) (1))
          (F61_7827 call L C n_1 vh_f vh_n vh_c vl_f vl_n vl_c vi (Ow.own vr_1_n vr_1_c) (0)))))))))) := by
  unfold F61_15653
  rw [hC]
  kernel_rfl
theorem F61_122_eqn (call : FuncId → List D → Option D) (L : Nat) (C : Nat → Nat) (n_1 : Nat) (vh_f : Bool) (vh_n : Nat) (vh_c : List D) (vl_f : Bool) (vl_n : Nat) (vl_c : List D) (vi : Int) : F61_122 call L C  (n_1 + 1) vh_f vh_n vh_c (vl_f) (vl_n) (vl_c) (Ow.nil) (vi) =
  (ifK (decide (vi < (vl_n : Int)))
    (chkK (decide (0 ≤ vi ∧ vi < (vl_n : Int)))
      (cellK (vl_c) (Int.toNat vi * 2 + 1) fun d =>
      (strK (d) fun s =>
      (ifK (!ByteArray.toList s == ByteArray.toList (ByteArray.mk #[]))
        (F61_15653 call L C n_1 vh_f vh_n vh_c vl_f vl_n vl_c vi (Ow.nil) (true))
        (chkK (decide (0 ≤ vi ∧ vi < (vl_n : Int)))
          (cellK (vl_c) (Int.toNat vi * 2 + 0) fun d_5 =>
          (intK IntKind.i64 (d_5) fun x_4 =>
          (chkK (decide (0 ≤ vi ∧ vi < (vh_n : Int)))
            (cellK (vh_c) (Int.toNat vi * 2 + 0) fun d_6 =>
            (intK IntKind.i64 (d_6) fun x_5 =>
            (F61_15653 call L C n_1 vh_f vh_n vh_c vl_f vl_n vl_c vi (Ow.nil) (decide (x_4 > x_5)))))))))))))
    (some (D.slc true 0 []))) := by kernel_rfl
theorem F61_122_eqo (call : FuncId → List D → Option D) (L : Nat) (C : Nat → Nat) (n_1 : Nat) (vh_f : Bool) (vh_n : Nat) (vh_c : List D) (vl_f : Bool) (vl_n : Nat) (vl_c : List D) (vr_n_1 : Nat) (vr_c : List D) (vi : Int) : F61_122 call L C  (n_1 + 1) vh_f vh_n vh_c (vl_f) (vl_n) (vl_c) (Ow.own vr_n_1 vr_c) (vi) =
  (ifK (decide (vi < (vl_n : Int)))
    (chkK (decide (0 ≤ vi ∧ vi < (vl_n : Int)))
      (cellK (vl_c) (Int.toNat vi * 2 + 1) fun d_7 =>
      (strK (d_7) fun s_1 =>
      (ifK (!ByteArray.toList s_1 == ByteArray.toList (ByteArray.mk #[]))
        (F61_15653 call L C n_1 vh_f vh_n vh_c vl_f vl_n vl_c vi (Ow.own vr_n_1 vr_c) (true))
        (chkK (decide (0 ≤ vi ∧ vi < (vl_n : Int)))
          (cellK (vl_c) (Int.toNat vi * 2 + 0) fun d_8 =>
          (intK IntKind.i64 (d_8) fun x_6 =>
          (chkK (decide (0 ≤ vi ∧ vi < (vh_n : Int)))
            (cellK (vh_c) (Int.toNat vi * 2 + 0) fun d_9 =>
            (intK IntKind.i64 (d_9) fun x_7 =>
            (F61_15653 call L C n_1 vh_f vh_n vh_c vl_f vl_n vl_c vi (Ow.own vr_n_1 vr_c) (decide (x_6 > x_7)))))))))))))
    (some (D.slc false vr_n_1 vr_c))) := by kernel_rfl
theorem F61_eq (call : FuncId → List D → Option D) (L : Nat) (C : Nat → Nat) (vh_f : Bool) (vh_n : Nat) (vh_c : List D) (vp0 : ByteArray) (vp1_f : Bool) (vp1_n : Nat) (vp1_c : List D) (vp2 : Int) : evFnT (TEf call L C) O0 N61 FinM.canon Tryz.f61 [D.slc vh_f vh_n vh_c, D.agg [D.str vp0, D.slc vp1_f vp1_n vp1_c, D.int IntKind.i64 vp2]] =
  (optK (call 26 [D.slc vh_f vh_n vh_c, D.agg [D.str vp0, D.slc vp1_f vp1_n vp1_c, D.int IntKind.i64 vp2]]) fun r =>
    (slcK (r) fun f n c =>
    (F61_122 call L C L vh_f vh_n vh_c (f) (n) (c) (Ow.nil) (0)))) := by kernel_rfl

end Go.Pd
end

section
namespace Go.Pd
open Go Go.Proofs Go.RowKit

theorem entE_marks {x : NetV} (h : entE x = 0) : (markX x.2 || dashB x.2) = !(emptyB x.2 || markC x.2) := by
  unfold entE at h
  cases h1 : (emptyB x.2 || markC x.2) with
  | true =>
    have key : ∀ a b : List UInt8, (ByteArray.toList x.2 == a) = true → a ≠ b → (ByteArray.toList x.2 == b) = false := fun a b e hne => by
      have : ByteArray.toList x.2 = a := by simpa using e
      rw [this]
      simpa using hne
    unfold emptyB markC at h1
    unfold markX dashB
    rw [ByteArray.toList_eq (ByteArray.mk #[120]), ByteArray.toList_eq (ByteArray.mk #[45])]
    rw [ByteArray.toList_eq (ByteArray.mk #[]), ByteArray.toList_eq (ByteArray.mk #[99])] at h1
    rcases Bool.or_eq_true _ _ ▸ h1 with e | e
    · rw [key _ _ e (by decide), key _ _ e (by decide)]; rfl
    · rw [key _ _ e (by decide), key _ _ e (by decide)]; rfl
  | false =>
    rw [h1, ifK_false] at h
    cases h2 : (markX x.2 || dashB x.2) with
    | true => rfl
    | false => rw [h2, ifK_false] at h; cases h
theorem go26 {call : FuncId → List D → Option D} {f g gf : Bool} {n : Nat} {c : List D} {s : ByteArray} {h : Int} (gv : Nat → Int) : ∀ (r pre : List NetV) (fuel : Nat) (acc : List NetV), (∀ x ∈ r, entE x = 0) → (pre ++ r).length = n → n ≤ 1000 → acc.length = pre.length → r.length < fuel →
    F26_122 call LL C1 fuel f n c s g n ((pre ++ r).flatMap netD) h gf n (tabF gv n) (owR netD acc) (pre.length : Int) = some (slR netD (acc ++ ntGo gv r pre.length)) := by
  intro r
  induction r with
  | nil =>
    intro pre fuel acc he hn hB ha hf
    cases fuel with
    | zero => exact absurd hf (Nat.not_lt_zero _)
    | succ fuel =>
      have h1 : decide ((pre.length : Int) < (n : Int)) = false := by rw [← hn]; simp
      rw [show acc ++ ntGo gv [] pre.length = acc from List.append_nil acc]
      cases acc with
      | nil =>
        show F26_122 call LL C1 (fuel + 1) f _ _ _ _ _ _ _ _ _ _ .nil _ = _
        rw [F26_122_eqn, h1, ifK_false]
        rfl
      | cons o os =>
        show F26_122 call LL C1 (fuel + 1) f _ _ _ _ _ _ _ _ _ _ (.own (os.length + 1) ((o :: os).flatMap netD)) _ = _
        rw [F26_122_eqo, h1, ifK_false]
        rfl
  | cons x r ih =>
    intro pre fuel acc he hn hB ha hf
    cases fuel with
    | zero => exact absurd hf (Nat.not_lt_zero _)
    | succ fuel =>
      have ih := ih (pre ++ [x]) fuel (acc ++ [nvE gv x pre.length]) (fun y hy => he y (List.mem_cons_of_mem _ hy)) (by rw [app1]; exact hn) hB (by simp [ha]) (by simp at hf; omega)
      rw [app1, owR_snoc, List.append_assoc, show (pre ++ [x]).length = pre.length + 1 by simp] at ih
      have hlen : n = pre.length + r.length + 1 := by rw [← hn]; simp; omega
      have hi : decide ((0 : Int) ≤ (pre.length : Int) ∧ (pre.length : Int) < (n : Int)) = true := by simp; omega
      have h1 : decide ((pre.length : Int) < (n : Int)) = true := by simp; omega
      have hw : IntKind.wrap .i64 ((pre.length : Int) + 1) = ((pre.length + 1 : Nat) : Int) := by rw [wrap_id (by omega)]; rfl
      have hg : ∀ {γ : Type} (k : D → Option γ), cellK (tabF gv n) (Int.toNat (pre.length : Int) * 1) k = k (.int .i64 (gv pre.length)) := fun k => cellK_some (by rw [Int.toNat_natCast, Nat.mul_one]; exact tabF_get gv n _ (by omega)) k
      rw [show ntGo gv (x :: r) pre.length = nvE gv x pre.length :: ntGo gv r (pre.length + 1) from rfl]
      have hm := entE_marks (he x (by simp))
      have key : F26_122 call LL C1 (fuel + 1) f n c s g n ((pre ++ x :: r).flatMap netD) h gf n (tabF gv n) (owR netD acc) (pre.length : Int) =
          F26_122 call LL C1 fuel f n c s g n ((pre ++ x :: r).flatMap netD) h gf n (tabF gv n) (.own (acc.length + 1) (acc.flatMap netD ++ netD (nvE gv x pre.length))) ((pre.length + 1 : Nat) : Int) := by
        unfold nvE
        have hmx : (ByteArray.toList x.2 == ByteArray.toList (ByteArray.mk #[120])) = markX x.2 := rfl
        have hdx : (ByteArray.toList x.2 == ByteArray.toList (ByteArray.mk #[45])) = dashB x.2 := rfl
        cases acc with
        | nil =>
          show F26_122 call LL C1 (fuel + 1) f _ _ _ _ _ _ _ _ _ _ .nil _ = _
          rw [F26_122_eqn, h1, ifK_true, hi, chkK_true, n0, intK_int, n1, strK_str, hmx, hdx, F26_7827_eqn _ _ _ _ _ _ _ _ _ _ _ _ _ _ _ _ _ _ _ (fun _ => rfl : ∀ t, C1 t = 1), F26_7827_eqn _ _ _ _ _ _ _ _ _ _ _ _ _ _ _ _ _ _ _ (fun _ => rfl : ∀ t, C1 t = 1), hi, chkK_true, hg, intK_int, hw]
          cases hq : (emptyB x.2 || markC x.2) <;> rw [hq] at hm <;> cases hx : markX x.2 <;> cases hd : dashB x.2 <;> rw [hx, hd] at hm <;> first | rfl | cases hm
        | cons o os =>
          show F26_122 call LL C1 (fuel + 1) f _ _ _ _ _ _ _ _ _ _ (.own (os.length + 1) ((o :: os).flatMap netD)) _ = _
          rw [F26_122_eqo, h1, ifK_true, hi, chkK_true, n0, intK_int, n1, strK_str, hmx, hdx, F26_7827_eqo _ _ _ _ _ _ _ _ _ _ _ _ _ _ _ _ _ _ _ _ _ (fun _ => rfl : ∀ t, C1 t = 1), F26_7827_eqo _ _ _ _ _ _ _ _ _ _ _ _ _ _ _ _ _ _ _ _ _ (fun _ => rfl : ∀ t, C1 t = 1), hi, chkK_true, hg, intK_int, hw,
            room24 (by have hlo : (o :: os).length = os.length + 1 := rfl; omega), chkK_true, chkK_true]
          cases hq : (emptyB x.2 || markC x.2) <;> rw [hq] at hm <;> cases hx : markX x.2 <;> cases hd : dashB x.2 <;> rw [hx, hd] at hm <;> first | rfl | cases hm
      rw [key]
      exact ih
/-- The net strokes of a valid player by the reference. -/
theorem ok26 {f g : Bool} {n : Nat} {c : List D} {P S : Nat → Int} (hc : HolesC n c P S) (h0 : 0 < n) (hn : n ≤ 36) (hS : ∀ i, i < n → 1 ≤ S i ∧ S i ≤ n) {h : Int} (hl : -99 ≤ h) (hr : h ≤ 99) (s : ByteArray) (l : List NetV) (hll : l.length = n) (he : ∀ x ∈ l, entE x = 0) :
    OK5 26 [.slc f n c, .agg [.str s, .slc g n (l.flatMap netD), .int .i64 h]] (slR netD (ntGo (gvH n S h) l 0)) := by
  have hb : CallsT (tabC [(19, [.slc f n c, .int .i64 h], .slc false n (tabF (gvH n S h) n))]) := tabC_ok fun e he => by
    simp only [List.mem_singleton] at he
    subst he
    exact ok19 hc h0 hn hS hl hr
  refine fnT hb Tryz.func26 (ord := O0) (N := N26) (by kernel_rfl) ((F26_eq _ _ _ _ _ _ _ _ _ _ _).trans ?_)
  rw [callOf_tab rfl, tabC_hit, optK_some, slcK_slc]
  exact go26 (f := f) (g := g) (gf := false) (gvH n S h) l [] LL [] he hll (by omega) rfl (by unfold LL; omega)
/-! ### Do all holes count? -/
def bNt : FuncId → List D → Option D := fun k ds => match k, ds with
  | 102, [.agg [.int .i64 _, .str s]] => some (.bool (emptyB s))
  | 113, [.int .i64 x, .int .i64 y] => some (.int .i64 (cmpV x y))
  | 109, [.agg [.int .i64 x, .str _]] => some (.int .i64 x)
  | 111, [.agg [.int .i64 x, .str _]] => some (.int .i64 x)
  | _, _ => none
theorem ok109 (x : Int) (s : ByteArray) : OK5 109 [.agg [.int .i64 x, .str s]] (.int .i64 x) := fnT none_ok Tryz.func109 (ord := O0) (N := N0) (by kernel_rfl) ((F109_eq _ _ _ x s).trans rfl)
theorem ok111 (x : Int) (s : ByteArray) : OK5 111 [.agg [.int .i64 x, .str s]] (.int .i64 x) := fnT none_ok Tryz.func111 (ord := O0) (N := N0) (by kernel_rfl) ((F111_eq _ _ _ x s).trans rfl)
theorem bNt_ok : CallsT bNt := by
  intro k ds r h
  unfold bNt at h
  split at h
  · cases h; exact b1_ok _ _ _ rfl
  · cases h; exact b2_ok _ _ _ rfl
  · cases h; exact ok109 _ _
  · cases h; exact ok111 _ _
  · cases h
theorem ok148 (x : Int) (s : ByteArray) : OK5 148 [.agg [.int .i64 x, .str s]] (.bool (!emptyB s)) := fnT bNt_ok Tryz.func148 (ord := O0) (N := N0) (by kernel_rfl) ((F148_eq _ _ _ x s).trans rfl)
def b148 : FuncId → List D → Option D := fun k ds => match k, ds with
  | 148, [.agg [.int .i64 _, .str s]] => some (.bool (!emptyB s))
  | _, _ => none
theorem b148_ok : CallsT b148 := by
  intro k ds r h
  unfold b148 at h
  split at h
  · cases h; exact ok148 _ _
  · cases h
theorem h148 (x : Int) (s : ByteArray) : callOf b148 148 [.agg [.int .i64 x, .str s]] = some (.bool (!emptyB s)) := rfl
def allB (l : List NetV) : Bool := l.all fun x => emptyB x.2
/-- The place of the first hole that does not count, or -1. -/
def noGo : List NetV → Int → Int
  | [], _ => -1
  | x :: r, i => ifK (!emptyB x.2) i (noGo r (i + 1))
theorem noGo_all : ∀ (l : List NetV) (i : Int), 0 ≤ i → decide (noGo l i ≥ 0) = !allB l
  | [], i, _ => rfl
  | x :: r, i, hi => by
    have ih := noGo_all r (i + 1) (by omega)
    rw [show noGo (x :: r) i = ifK (!emptyB x.2) i (noGo r (i + 1)) from rfl, show allB (x :: r) = (emptyB x.2 && allB r) from rfl]
    cases emptyB x.2 with
    | true => rw [Bool.not_true, ifK_false, ih, Bool.true_and]
    | false =>
      rw [Bool.not_false, ifK_true, Bool.false_and]
      simpa using hi
theorem go175 {f : Bool} {n : Nat} : ∀ (r pre : List NetV) (fuel : Nat), (pre ++ r).length = n → n ≤ 1000 → r.length < fuel → F175_26 (callOf b148) LL C1 fuel f n ((pre ++ r).flatMap netD) n (pre.length : Int) = some (.int .i64 (noGo r pre.length)) := by
  intro r
  induction r with
  | nil =>
    intro pre fuel hn hB hf
    cases fuel with
    | zero => exact absurd hf (Nat.not_lt_zero _)
    | succ fuel =>
      subst hn
      rw [F175_26_eq, end_pre, ifK_false]
      rfl
  | cons x r ih =>
    intro pre fuel hn hB hf
    cases fuel with
    | zero => exact absurd hf (Nat.not_lt_zero _)
    | succ fuel =>
      have ih := ih (pre ++ [x]) fuel (by rw [app1]; exact hn) hB (by simp at hf; omega)
      rw [app1] at ih
      subst hn
      rw [F175_26_eq, lt_pre, ifK_true, in_pre, chkK_true, n0, intK_int, n1, strK_str, h148, optK_some, boolK_bool, step_pre pre x r (by omega), ih]
      rw [show ((pre ++ [x]).length : Int) = (pre.length : Int) + 1 by simp, show noGo (x :: r) (pre.length : Int) = ifK (!emptyB x.2) (pre.length : Int) (noGo r ((pre.length : Int) + 1)) from rfl]
      cases emptyB x.2 <;> rfl
theorem ok119 {f : Bool} (l : List NetV) (hl : l.length ≤ 1000) : OK5 119 [.slc f l.length (l.flatMap netD)] (.bool (allB l)) := by
  have k175 : OK5 175 [.slc f l.length (l.flatMap netD), .fn (.func 148) [] []] (.int .i64 (noGo l 0)) :=
    fnT b148_ok Tryz.func175 (ord := O0) (N := N175) (by kernel_rfl) ((F175_eq _ _ _ _ _ _).trans (go175 (f := f) l [] LL rfl hl (by unfold LL; omega)))
  have k147 : OK5 147 [.slc f l.length (l.flatMap netD), .fn (.func 148) [] []] (.bool (!allB l)) := by
    refine fnT (tabC_ok (l := [(175, [.slc f l.length (l.flatMap netD), .fn (.func 148) [] []], .int .i64 (noGo l 0))]) fun e he => by
      simp only [List.mem_singleton] at he
      subst he
      exact k175) Tryz.func147 (ord := O0) (N := N0) (by kernel_rfl) ((F147_eq _ _ _ _ _ _).trans ?_)
    rw [callOf_tab rfl, tabC_hit, optK_some, intK_int, noGo_all l 0 (by omega)]
  refine fnT (tabC_ok (l := [(147, [.slc f l.length (l.flatMap netD), .fn (.func 148) [] []], .bool (!allB l))]) fun e he => by
    simp only [List.mem_singleton] at he
    subst he
    exact k147) Tryz.func119 (ord := O0) (N := N0) (by kernel_rfl) ((F119_eq _ _ _ _ _ _).trans ?_)
  rw [callOf_tab rfl, tabC_hit, optK_some, boolK_bool, Bool.not_not]

/-! ### Sums -/
def sumW : List NetV → Int → Int
  | [], acc => acc
  | x :: r, acc => sumW r (IntKind.wrap .i64 (acc + x.1))
theorem go59 {call : FuncId → List D → Option D} {f : Bool} {n : Nat} : ∀ (r pre : List NetV) (fuel : Nat) (acc : Int), (pre ++ r).length = n → n ≤ 1000 → r.length < fuel →
    F59_122 call LL C1 fuel f n ((pre ++ r).flatMap netD) acc (pre.length : Int) = some (.tup [.int .i64 (ifK (allB r) (sumW r acc) 0), .bool (allB r)]) := by
  intro r
  induction r with
  | nil =>
    intro pre fuel acc hn hB hf
    cases fuel with
    | zero => exact absurd hf (Nat.not_lt_zero _)
    | succ fuel =>
      subst hn
      rw [F59_122_eq, end_pre, ifK_false]
      rfl
  | cons x r ih =>
    intro pre fuel acc hn hB hf
    cases fuel with
    | zero => exact absurd hf (Nat.not_lt_zero _)
    | succ fuel =>
      have ih := ih (pre ++ [x]) fuel (IntKind.wrap .i64 (acc + x.1)) (by rw [app1]; exact hn) hB (by simp at hf; omega)
      rw [app1] at ih
      subst hn
      rw [F59_122_eq, lt_pre, ifK_true, in_pre, chkK_true, n1, strK_str, chkK_true, n0, intK_int, step_pre pre x r (by omega), ih]
      rw [show allB (x :: r) = (emptyB x.2 && allB r) from rfl, show sumW (x :: r) acc = sumW r (IntKind.wrap .i64 (acc + x.1)) from rfl]
      unfold emptyB
      cases (ByteArray.toList x.2 == ByteArray.toList (ByteArray.mk #[])) <;> rfl
end Go.Pd
end

section
namespace Go.Pd
open Go Go.Proofs Go.RowKit

def intD (x : Int) : List D := [.int .i64 x]
theorem room8m {i : Nat} (h : i ≤ 1000000) : decide ((i + 1) * 8 ≤ limit ∧ i + 1 ≤ 9223372036854775807) = true := by
  simp only [decide_eq_true_eq]
  rw [show limit = 140737488355328 from rfl]
  omega
def ptV (x : NetV) (par : Int) : Int := ifK (!emptyB x.2) 0 (if IntKind.wrap .i64 (IntKind.wrap .i64 (2 + par) - x.1) > 0 then IntKind.wrap .i64 (IntKind.wrap .i64 (2 + par) - x.1) else 0)
def agV (x : NetV) (par : Int) : Int := ifK (!emptyB x.2) (-1) (cmpV par x.1)
/-- What is made of net strokes, hole by hole. -/
def lsGo (F : NetV → Int → Int) (P : Nat → Int) : List NetV → Nat → List Int
  | [], _ => []
  | x :: r, i => F x (P i) :: lsGo F P r (i + 1)
section
variable {f g : Bool} {n : Nat} {c : List D} {P S : Nat → Int}
theorem holes0 (hc : HolesC n c P S) {i : Nat} (hi : i < n) {γ : Type} (k : D → Option γ) : cellK c (Int.toNat (i : Int) * 2 + 0) k = k (.int .i64 (P i)) := cellK_some (by rw [Int.toNat_natCast]; exact (hc i hi).1) k
theorem go60 {call : FuncId → List D → Option D} (hc : HolesC n c P S) : ∀ (r pre : List NetV) (fuel : Nat) (acc : List Int), (pre ++ r).length = n → n ≤ 1000 → acc.length = pre.length → r.length < fuel →
    F60_122 call LL C1 fuel f n c g n ((pre ++ r).flatMap netD) (owR intD acc) (pre.length : Int) = some (slR intD (acc ++ lsGo ptV P r pre.length)) := by
  intro r
  induction r with
  | nil =>
    intro pre fuel acc hn hB ha hf
    cases fuel with
    | zero => exact absurd hf (Nat.not_lt_zero _)
    | succ fuel =>
      have h1 : decide ((pre.length : Int) < (n : Int)) = false := by rw [← hn]; simp
      rw [show acc ++ lsGo ptV P [] pre.length = acc from List.append_nil acc]
      cases acc with
      | nil =>
        show F60_122 call LL C1 (fuel + 1) f _ _ _ _ _ .nil _ = _
        rw [F60_122_eqn, h1, ifK_false]
        rfl
      | cons o os =>
        show F60_122 call LL C1 (fuel + 1) f _ _ _ _ _ (.own (os.length + 1) ((o :: os).flatMap intD)) _ = _
        rw [F60_122_eqo, h1, ifK_false]
        rfl
  | cons x r ih =>
    intro pre fuel acc hn hB ha hf
    cases fuel with
    | zero => exact absurd hf (Nat.not_lt_zero _)
    | succ fuel =>
      have ih := ih (pre ++ [x]) fuel (acc ++ [ptV x (P pre.length)]) (by rw [app1]; exact hn) hB (by simp [ha]) (by simp at hf; omega)
      rw [app1, owR_snoc, List.append_assoc, show (pre ++ [x]).length = pre.length + 1 by simp] at ih
      have hlen : n = pre.length + r.length + 1 := by rw [← hn]; simp; omega
      have hi : decide ((0 : Int) ≤ (pre.length : Int) ∧ (pre.length : Int) < (n : Int)) = true := by simp; omega
      have h1 : decide ((pre.length : Int) < (n : Int)) = true := by simp; omega
      have hw : IntKind.wrap .i64 ((pre.length : Int) + 1) = ((pre.length + 1 : Nat) : Int) := by rw [wrap_id (by omega)]; rfl
      have hp : ∀ {γ : Type} (k : D → Option γ), cellK c (Int.toNat (pre.length : Int) * 2 + 0) k = k (.int .i64 (P pre.length)) := fun k => holes0 hc (by omega) k
      rw [show lsGo ptV P (x :: r) pre.length = ptV x (P pre.length) :: lsGo ptV P r (pre.length + 1) from rfl]
      have key : F60_122 call LL C1 (fuel + 1) f n c g n ((pre ++ x :: r).flatMap netD) (owR intD acc) (pre.length : Int) =
          F60_122 call LL C1 fuel f n c g n ((pre ++ x :: r).flatMap netD) (.own (acc.length + 1) (acc.flatMap intD ++ intD (ptV x (P pre.length)))) ((pre.length + 1 : Nat) : Int) := by
        unfold ptV emptyB
        cases acc with
        | nil =>
          show F60_122 call LL C1 (fuel + 1) f _ _ _ _ _ .nil _ = _
          rw [F60_122_eqn, h1, ifK_true, hi, chkK_true, n1, strK_str, chkK_true, hp, intK_int, chkK_true, n0, intK_int, hw]
          cases (ByteArray.toList x.2 == ByteArray.toList (ByteArray.mk #[])) <;> rfl
        | cons o os =>
          show F60_122 call LL C1 (fuel + 1) f _ _ _ _ _ (.own (os.length + 1) ((o :: os).flatMap intD)) _ = _
          rw [F60_122_eqo, h1, ifK_true, hi, chkK_true, n1, strK_str, chkK_true, hp, intK_int, chkK_true, n0, intK_int, hw, room8m (by have hlo : (o :: os).length = os.length + 1 := rfl; omega), chkK_true, chkK_true]
          cases (ByteArray.toList x.2 == ByteArray.toList (ByteArray.mk #[])) <;> rfl
      rw [key]
      exact ih
theorem go61 {call : FuncId → List D → Option D} (hc : HolesC n c P S) : ∀ (r pre : List NetV) (fuel : Nat) (acc : List Int), (pre ++ r).length = n → n ≤ 1000 → acc.length = pre.length → r.length < fuel →
    F61_122 call LL C1 fuel f n c g n ((pre ++ r).flatMap netD) (owR intD acc) (pre.length : Int) = some (slR intD (acc ++ lsGo agV P r pre.length)) := by
  intro r
  induction r with
  | nil =>
    intro pre fuel acc hn hB ha hf
    cases fuel with
    | zero => exact absurd hf (Nat.not_lt_zero _)
    | succ fuel =>
      have h1 : decide ((pre.length : Int) < (n : Int)) = false := by rw [← hn]; simp
      rw [show acc ++ lsGo agV P [] pre.length = acc from List.append_nil acc]
      cases acc with
      | nil =>
        show F61_122 call LL C1 (fuel + 1) f _ _ _ _ _ .nil _ = _
        rw [F61_122_eqn, h1, ifK_false]
        rfl
      | cons o os =>
        show F61_122 call LL C1 (fuel + 1) f _ _ _ _ _ (.own (os.length + 1) ((o :: os).flatMap intD)) _ = _
        rw [F61_122_eqo, h1, ifK_false]
        rfl
  | cons x r ih =>
    intro pre fuel acc hn hB ha hf
    cases fuel with
    | zero => exact absurd hf (Nat.not_lt_zero _)
    | succ fuel =>
      have ih := ih (pre ++ [x]) fuel (acc ++ [agV x (P pre.length)]) (by rw [app1]; exact hn) hB (by simp [ha]) (by simp at hf; omega)
      rw [app1, owR_snoc, List.append_assoc, show (pre ++ [x]).length = pre.length + 1 by simp] at ih
      have hlen : n = pre.length + r.length + 1 := by rw [← hn]; simp; omega
      have hi : decide ((0 : Int) ≤ (pre.length : Int) ∧ (pre.length : Int) < (n : Int)) = true := by simp; omega
      have h1 : decide ((pre.length : Int) < (n : Int)) = true := by simp; omega
      have hw : IntKind.wrap .i64 ((pre.length : Int) + 1) = ((pre.length + 1 : Nat) : Int) := by rw [wrap_id (by omega)]; rfl
      have hp : ∀ {γ : Type} (k : D → Option γ), cellK c (Int.toNat (pre.length : Int) * 2 + 0) k = k (.int .i64 (P pre.length)) := fun k => holes0 hc (by omega) k
      have h979 : ∀ m cs, F61_979 call LL C1 fuel f n c g n ((pre ++ x :: r).flatMap netD) (pre.length : Int) m cs = F61_122 call LL C1 fuel f n c g n ((pre ++ x :: r).flatMap netD) (.own m cs) ((pre.length + 1 : Nat) : Int) := fun m cs => by
        rw [F61_979_eq _ _ _ _ _ _ _ _ _ _ _ _ _ (fun _ => rfl : ∀ t, C1 t = 1), hw]
      have h78 : ∀ v, F61_7827 call LL C1 fuel f n c g n ((pre ++ x :: r).flatMap netD) (pre.length : Int) (owR intD acc) v = F61_122 call LL C1 fuel f n c g n ((pre ++ x :: r).flatMap netD) (.own (acc.length + 1) (acc.flatMap intD ++ intD v)) ((pre.length + 1 : Nat) : Int) := fun v => by
        cases acc with
        | nil =>
          show F61_7827 call LL C1 fuel f n c g n _ _ .nil v = _
          rw [F61_7827_eqn _ _ _ _ _ _ _ _ _ _ _ _ (fun _ => rfl : ∀ t, C1 t = 1), h979]
          rfl
        | cons o os =>
          show F61_7827 call LL C1 fuel f n c g n _ _ (.own (os.length + 1) ((o :: os).flatMap intD)) v = _
          rw [F61_7827_eqo _ _ _ _ _ _ _ _ _ _ _ _ _ _ (fun _ => rfl : ∀ t, C1 t = 1), room8m (by have hlo : (o :: os).length = os.length + 1 := rfl; omega), chkK_true, h979]
          rfl
      have h156 : ∀ t, F61_15653 call LL C1 fuel f n c g n ((pre ++ x :: r).flatMap netD) (pre.length : Int) (owR intD acc) t = F61_122 call LL C1 fuel f n c g n ((pre ++ x :: r).flatMap netD) (.own (acc.length + 1) (acc.flatMap intD ++ intD (ifK t (-1) (ifK (decide (x.1 < P pre.length)) 1 0)))) ((pre.length + 1 : Nat) : Int) := fun t => by
        cases acc with
        | nil =>
          have h78' : ∀ v, F61_7827 call LL C1 fuel f n c g n ((pre ++ x :: r).flatMap netD) (pre.length : Int) .nil v = _ := h78
          show F61_15653 call LL C1 fuel f n c g n _ _ .nil t = _
          rw [F61_15653_eqn _ _ _ _ _ _ _ _ _ _ _ _ (fun _ => rfl : ∀ t, C1 t = 1), hi, chkK_true, n0, intK_int, chkK_true, hp, intK_int, h78', h78', h78']
          cases t <;> cases decide (x.1 < P pre.length) <;> rfl
        | cons o os =>
          have h78' : ∀ v, F61_7827 call LL C1 fuel f n c g n ((pre ++ x :: r).flatMap netD) (pre.length : Int) (.own (os.length + 1) ((o :: os).flatMap intD)) v = _ := h78
          show F61_15653 call LL C1 fuel f n c g n _ _ (.own (os.length + 1) ((o :: os).flatMap intD)) t = _
          rw [F61_15653_eqo _ _ _ _ _ _ _ _ _ _ _ _ _ _ (fun _ => rfl : ∀ t, C1 t = 1), hi, chkK_true, n0, intK_int, chkK_true, hp, intK_int, h78', h78', h78']
          cases t <;> cases decide (x.1 < P pre.length) <;> rfl
      rw [show lsGo agV P (x :: r) pre.length = agV x (P pre.length) :: lsGo agV P r (pre.length + 1) from rfl]
      have hv : ∀ b : Bool, (b = decide (x.1 > P pre.length)) → ifK (!emptyB x.2) (ifK true (-1) (ifK (decide (x.1 < P pre.length)) 1 0)) (ifK b (-1) (ifK (decide (x.1 < P pre.length)) 1 0)) = agV x (P pre.length) := fun b hb => by
        subst hb
        unfold agV cmpV
        cases emptyB x.2 <;> rfl
      have key : F61_122 call LL C1 (fuel + 1) f n c g n ((pre ++ x :: r).flatMap netD) (owR intD acc) (pre.length : Int) =
          F61_122 call LL C1 fuel f n c g n ((pre ++ x :: r).flatMap netD) (.own (acc.length + 1) (acc.flatMap intD ++ intD (agV x (P pre.length)))) ((pre.length + 1 : Nat) : Int) := by
        rw [← hv _ rfl]
        have he : (ByteArray.toList x.2 == ByteArray.toList (ByteArray.mk #[])) = emptyB x.2 := rfl
        cases acc with
        | nil =>
          have h156' : ∀ t, F61_15653 call LL C1 fuel f n c g n ((pre ++ x :: r).flatMap netD) (pre.length : Int) .nil t = _ := h156
          show F61_122 call LL C1 (fuel + 1) f _ _ _ _ _ .nil _ = _
          rw [F61_122_eqn, h1, ifK_true, hi, chkK_true, n1, strK_str, chkK_true, n0, intK_int, chkK_true, hp, intK_int, he, h156', h156']
          cases emptyB x.2 <;> rfl
        | cons o os =>
          have h156' : ∀ t, F61_15653 call LL C1 fuel f n c g n ((pre ++ x :: r).flatMap netD) (pre.length : Int) (.own (os.length + 1) ((o :: os).flatMap intD)) t = _ := h156
          show F61_122 call LL C1 (fuel + 1) f _ _ _ _ _ (.own (os.length + 1) ((o :: os).flatMap intD)) _ = _
          rw [F61_122_eqo, h1, ifK_true, hi, chkK_true, n1, strK_str, chkK_true, n0, intK_int, chkK_true, hp, intK_int, he, h156', h156']
          cases emptyB x.2 <;> rfl
      rw [key]
      exact ih
end
end Go.Pd
end

section
namespace Go.Pd
open Go Go.Proofs Go.RowKit

/-- A player. -/
def plD (s : ByteArray) (g : Bool) (l : List NetV) (h : Int) : D := .agg [.str s, .slc g l.length (l.flatMap netD), .int .i64 h]
/-- Are the texts short? -/
def shEnt : List NetV → Bool
  | [] => true
  | x :: r => ifK (decide ((x.2.size : Int) > 60)) false (shEnt r)
def shP (s : ByteArray) (l : List NetV) : Bool := ifK (decide ((s.size : Int) > 60)) false (ifK (decide ((l.length : Int) > 39)) false (shEnt l))
theorem shP_true {s : ByteArray} {l : List NetV} (h : shP s l = true) : s.size ≤ 60 ∧ l.length ≤ 39 := by
  unfold shP at h
  cases h1 : decide ((s.size : Int) > 60) with
  | true => rw [h1, ifK_true] at h; cases h
  | false =>
    rw [h1, ifK_false] at h
    cases h2 : decide ((l.length : Int) > 39) with
    | true => rw [h2, ifK_true] at h; cases h
    | false =>
      simp only [decide_eq_false_iff_not] at h1 h2
      omega
theorem go78 {call : FuncId → List D → Option D} {f : Bool} {n : Nat} {s : ByteArray} {h : Int} : ∀ (r pre : List NetV) (fuel : Nat), (pre ++ r).length = n → n ≤ 1000 → r.length < fuel → F78_58 call LL C1 fuel s f n ((pre ++ r).flatMap netD) h (pre.length : Int) = some (.bool (shEnt r)) := by
  intro r
  induction r with
  | nil =>
    intro pre fuel hn hB hf
    cases fuel with
    | zero => exact absurd hf (Nat.not_lt_zero _)
    | succ fuel =>
      subst hn
      rw [F78_58_eq, end_pre, ifK_false]
      rfl
  | cons x r ih =>
    intro pre fuel hn hB hf
    cases fuel with
    | zero => exact absurd hf (Nat.not_lt_zero _)
    | succ fuel =>
      have ih := ih (pre ++ [x]) fuel (by rw [app1]; exact hn) hB (by simp at hf; omega)
      rw [app1] at ih
      subst hn
      rw [F78_58_eq, lt_pre, ifK_true, in_pre, chkK_true, n1, strK_str, step_pre pre x r (by omega), ih, show shEnt (x :: r) = ifK (decide ((x.2.size : Int) > 60)) false (shEnt r) from rfl]
      cases decide ((x.2.size : Int) > 60) <;> rfl
theorem ok78 {g : Bool} (s : ByteArray) (l : List NetV) (h : Int) : OK5 78 [plD s g l h] (.bool (shP s l)) := by
  refine fnT none_ok Tryz.func78 (ord := O0) (N := N78) (by kernel_rfl) ((F78_eq _ _ _ _ _ _ _ _).trans ?_)
  unfold shP
  cases decide ((s.size : Int) > 60) with
  | true => rfl
  | false =>
    rw [ifK_false, ifK_false]
    cases h2 : decide ((l.length : Int) > 39) with
    | true => rfl
    | false =>
      rw [ifK_false, ifK_false]
      simp only [decide_eq_false_iff_not] at h2
      exact go78 (f := g) l [] LL rfl (by omega) (by unfold LL; omega)
section
variable {f g : Bool} {n : Nat} {c : List D} {P S : Nat → Int}
theorem callOf_b {b : FuncId → List D → Option D} {k : FuncId} {ds : List D} (h : cstG k ds = none) : callOf b k ds = b k ds := by
  unfold callOf
  rw [h]
/-! ### The reference, of a valid player -/
theorem ok59 (hc : HolesC n c P S) (s : ByteArray) (l : List NetV) (h : Int) (hz0 : plErr n P S s l h = 0) :
    OK5 59 [.slc f n c, plD s g l h] (.tup [.int .i64 (ifK (allB (ntGo (gvH n S h) l 0)) (sumW (ntGo (gvH n S h) l 0) 0) 0), .bool (allB (ntGo (gvH n S h) l 0))]) ∧
    OK5 26 [.slc f n c, plD s g l h] (slR netD (ntGo (gvH n S h) l 0)) ∧
    OK5 60 [.slc f n c, plD s g l h] (slR intD (lsGo ptV P (ntGo (gvH n S h) l 0) 0)) ∧
    OK5 61 [.slc f n c, plD s g l h] (slR intD (lsGo agV P (ntGo (gvH n S h) l 0) 0)) := by
  obtain ⟨⟨a1, a2, a3⟩, ⟨a4, a5⟩, a6, a7⟩ := plErr_zero hz0
  have hN : (ntGo (gvH n S h) l 0).length = n := by rw [ntGo_len, a6]
  have k26 : OK5 26 [.slc f n c, plD s g l h] (slR netD (ntGo (gvH n S h) l 0)) := by
    have := ok26 (f := f) (g := g) hc a1 a2 a3 a4 a5 s l a6 a7
    unfold plD
    rw [a6]
    exact this
  have hb : CallsT (tabC [(26, [.slc f n c, plD s g l h], slR netD (ntGo (gvH n S h) l 0))]) := tabC_ok fun e he => by
    simp only [List.mem_singleton] at he
    subst he
    exact k26
  refine ⟨?_, k26, ?_, ?_⟩
  · refine fnT hb Tryz.func59 (ord := O0) (N := N59) (by kernel_rfl) ((F59_eq _ _ _ _ _ _ _ _ _ _ _).trans ?_)
    rw [callOf_tab rfl]
    show optK (tabC _ 26 [.slc f n c, plD s g l h]) _ = _
    rw [tabC_hit, optK_some]
    unfold slR
    rw [slcK_slc, hN]
    exact go59 (ntGo (gvH n S h) l 0) [] LL 0 hN (by omega) (by unfold LL; omega)
  · refine fnT hb Tryz.func60 (ord := O0) (N := N60) (by kernel_rfl) ((F60_eq _ _ _ _ _ _ _ _ _ _ _).trans ?_)
    rw [callOf_tab rfl]
    show optK (tabC _ 26 [.slc f n c, plD s g l h]) _ = _
    rw [tabC_hit, optK_some]
    unfold slR
    rw [slcK_slc, hN]
    exact go60 (f := f) hc (ntGo (gvH n S h) l 0) [] LL [] hN (by omega) rfl (by unfold LL; omega)
  · refine fnT hb Tryz.func61 (ord := O0) (N := N61) (by kernel_rfl) ((F61_eq _ _ _ _ _ _ _ _ _ _ _).trans ?_)
    rw [callOf_tab rfl]
    show optK (tabC _ 26 [.slc f n c, plD s g l h]) _ = _
    rw [tabC_hit, optK_some]
    unfold slR
    rw [slcK_slc, hN]
    exact go61 (f := f) hc (ntGo (gvH n S h) l 0) [] LL [] hN (by omega) rfl (by unfold LL; omega)
end
end Go.Pd
end
