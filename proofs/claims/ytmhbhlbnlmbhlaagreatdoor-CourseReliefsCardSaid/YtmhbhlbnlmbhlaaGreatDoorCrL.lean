/-
  Chapter 2: the law of reliefs and the relief of the reference, as equations.
  CourseReliefs: the relief of the reference is that of the program.
  CourseReliefs: Relief returns the place or the error of the reference.
-/
import Derived.Test.YtmhbhlbnlmbhlaaGreatDoorCrA
import Derived.KernelRfl
import Derived.Test.YtmhbhlbnlmbhlaaGreatDoorCrF
import Derived.Test.YtmhbhlbnlmbhlaaGreatDoorCrK
section
namespace Go.Pd
open Go Go.Proofs
set_option maxRecDepth 100000
def N35 : NTab := fun p => match p with
  | 58 => some { keep := [2, 3, 4, 5, 8, 10, 11, 12], kl := [14], ren := [(4, 4), (5, 5), (8, 8), (10, 10), (14, 14)] }
  | 3730 => some { keep := [2, 3, 4, 5, 8, 10, 11, 12, 13], kl := [14], ren := [(4, 4), (5, 5), (8, 8), (10, 10), (14, 14)] }
  | 29843 => some { keep := [2, 3, 4, 5, 8, 10, 11, 12, 13], kl := [14], ren := [(4, 4), (5, 5), (8, 8), (10, 10), (14, 14)] }
  | 238739 => some { keep := [2, 3, 4, 5, 8, 10, 11, 12, 13, 14], kl := [], ren := [(4, 4), (5, 5), (8, 8), (10, 10), (14, 14)] }
  | _ => none
noncomputable def F35_29843 (call : FuncId → List D → Option D) (L : Nat) (C : Nat → Nat) (n : Nat) (n_1 : Nat) (vkind : ByteArray) (vreach : Int) (vx : Int) (vy : Int) (vh0 : ByteArray) (vh1 : Int) (vh2 : Int) (vh3 : Int) (vh4 : Int) (vh5_f : Bool) (vh5_n : Nat) (vh5_c : List D) (vh6_f : Bool) (vh6_n : Nat) (vh6_c : List D) (vp0 : Int) (vp1 : Int) (vfound_2 : Bool) (vbest_2 : Int) (vbest1_2 : Int) : Option D :=
  cutAt (TEf call L C) O0 N35 FinM.canon Tryz.f35 [true, true, false, true, false, false, true, false, false, true, false, false, true, true] [n, n_1]  (C 29843) (St.mk [J, J, D.str vkind, D.int IntKind.i64 vreach, D.loc 4 0 0, D.loc 5 0 0, J, J, D.loc 8 0 0, J, D.loc 10 0 0, D.bool vfound_2, D.int IntKind.i64 vx, D.int IntKind.i64 vy, J, J, J, J, J, J, J, J, J, J, J, J, J, J, J, J, J, J, J, J, J, J, J, J, J, J, J, J, J, J, J, J, J, J, J, J, J, J, J, J, J, J, J, J, J, J, J, J, J, J, J, J, J, J, J, J, J, J, J, J, J, J, J, J, J, J, J, J, J, J, J, J, J, J, J, J, J, J, J, J, J, J, J] [Z, Z, Z, Z, (1, some (Ob.box [D.str vh0, D.int IntKind.i64 vh1, D.int IntKind.i64 vh2, D.int IntKind.i64 vh3, D.int IntKind.i64 vh4, D.slc vh5_f vh5_n vh5_c, D.slc vh6_f vh6_n vh6_c] false)), (1, some (Ob.box [D.int IntKind.i64 vp0, D.int IntKind.i64 vp1] false)), Z, Z, (1, some (Ob.box [D.int IntKind.i64 0, D.int IntKind.i64 0] false)), Z, (1, some (Ob.box [D.int IntKind.i64 vbest_2, D.int IntKind.i64 vbest1_2] false)), Z, Z, Z, Z, Z, Z, Z, Z, Z, Z, Z, Z, Z, Z, Z, Z, Z, Z, Z, Z, Z, Z, Z, Z, Z, Z, Z, Z, Z, Z, Z, Z, Z, Z, Z, Z, Z, Z, Z, Z, Z, Z, Z, Z, Z, Z, Z, Z, Z, Z, Z, Z, Z, Z, Z, Z, Z, Z, Z, Z, Z, Z, Z, Z, Z, Z, Z, Z, Z, Z, Z, Z, Z, Z, Z, Z, Z, Z, Z, Z, Z, Z, Z, Z, Z, Z])
noncomputable def F35_238739 (call : FuncId → List D → Option D) (L : Nat) (C : Nat → Nat) (n : Nat) (n_1 : Nat) (vkind : ByteArray) (vreach : Int) (vfound_1 : Bool) (vx : Int) (vy : Int) (vh0 : ByteArray) (vh1 : Int) (vh2 : Int) (vh3 : Int) (vh4 : Int) (vh5_f : Bool) (vh5_n : Nat) (vh5_c : List D) (vh6_f : Bool) (vh6_n : Nat) (vh6_c : List D) (vp0 : Int) (vp1 : Int) (vbest_1 : Int) (vbest1_1 : Int) : Option D :=
  cutAt (TEf call L C) O0 N35 FinM.canon Tryz.f35 [true, true, false, true, false, false, true, false, false, true, false, false, true, false, false, true, true] [n, n_1]  (C 238739) (St.mk [J, J, D.str vkind, D.int IntKind.i64 vreach, D.loc 4 0 0, D.loc 5 0 0, J, J, D.loc 8 0 0, J, D.loc 10 0 0, D.bool vfound_1, D.int IntKind.i64 vx, D.int IntKind.i64 vy, D.loc 14 0 0, J, J, J, J, J, J, J, J, J, J, J, J, J, J, J, J, J, J, J, J, J, J, J, J, J, J, J, J, J, J, J, J, J, J, J, J, J, J, J, J, J, J, J, J, J, J, J, J, J, J, J, J, J, J, J, J, J, J, J, J, J, J, J, J, J, J, J, J, J, J, J, J, J, J, J, J, J, J, J, J, J, J] [Z, Z, Z, Z, (1, some (Ob.box [D.str vh0, D.int IntKind.i64 vh1, D.int IntKind.i64 vh2, D.int IntKind.i64 vh3, D.int IntKind.i64 vh4, D.slc vh5_f vh5_n vh5_c, D.slc vh6_f vh6_n vh6_c] false)), (1, some (Ob.box [D.int IntKind.i64 vp0, D.int IntKind.i64 vp1] false)), Z, Z, (1, some (Ob.box [D.int IntKind.i64 0, D.int IntKind.i64 0] false)), Z, (1, some (Ob.box [D.int IntKind.i64 vbest_1, D.int IntKind.i64 vbest1_1] false)), Z, Z, Z, (1, some (Ob.box [D.int IntKind.i64 vx, D.int IntKind.i64 vy] false)), Z, Z, Z, Z, Z, Z, Z, Z, Z, Z, Z, Z, Z, Z, Z, Z, Z, Z, Z, Z, Z, Z, Z, Z, Z, Z, Z, Z, Z, Z, Z, Z, Z, Z, Z, Z, Z, Z, Z, Z, Z, Z, Z, Z, Z, Z, Z, Z, Z, Z, Z, Z, Z, Z, Z, Z, Z, Z, Z, Z, Z, Z, Z, Z, Z, Z, Z, Z, Z, Z, Z, Z, Z, Z, Z, Z, Z, Z, Z, Z, Z, Z])
noncomputable def F35_3730 (call : FuncId → List D → Option D) (L : Nat) (C : Nat → Nat) (n : Nat) (n_1 : Nat) (vkind : ByteArray) (vreach : Int) (vx : Int) (vh0 : ByteArray) (vh1 : Int) (vh2 : Int) (vh3 : Int) (vh4 : Int) (vh5_f : Bool) (vh5_n : Nat) (vh5_c : List D) (vh6_f : Bool) (vh6_n : Nat) (vh6_c : List D) (vp0 : Int) (vp1 : Int) (vfound_1 : Bool) (vy : Int) (vbest_1 : Int) (vbest1_1 : Int) : Option D :=
  loopAt (TEf call L C) O0 N35 FinM.canon Tryz.f35 [true, true, false, true, false, false, true, false, false, true, false] [n]  n_1 (St.mk [J, J, D.str vkind, D.int IntKind.i64 vreach, D.loc 4 0 0, D.loc 5 0 0, J, J, D.loc 8 0 0, J, D.loc 10 0 0, D.bool vfound_1, D.int IntKind.i64 vx, D.int IntKind.i64 vy, J, J, J, J, J, J, J, J, J, J, J, J, J, J, J, J, J, J, J, J, J, J, J, J, J, J, J, J, J, J, J, J, J, J, J, J, J, J, J, J, J, J, J, J, J, J, J, J, J, J, J, J, J, J, J, J, J, J, J, J, J, J, J, J, J, J, J, J, J, J, J, J, J, J, J, J, J, J, J, J, J, J, J] [Z, Z, Z, Z, (1, some (Ob.box [D.str vh0, D.int IntKind.i64 vh1, D.int IntKind.i64 vh2, D.int IntKind.i64 vh3, D.int IntKind.i64 vh4, D.slc vh5_f vh5_n vh5_c, D.slc vh6_f vh6_n vh6_c] false)), (1, some (Ob.box [D.int IntKind.i64 vp0, D.int IntKind.i64 vp1] false)), Z, Z, (1, some (Ob.box [D.int IntKind.i64 0, D.int IntKind.i64 0] false)), Z, (1, some (Ob.box [D.int IntKind.i64 vbest_1, D.int IntKind.i64 vbest1_1] false)), Z, Z, Z, Z, Z, Z, Z, Z, Z, Z, Z, Z, Z, Z, Z, Z, Z, Z, Z, Z, Z, Z, Z, Z, Z, Z, Z, Z, Z, Z, Z, Z, Z, Z, Z, Z, Z, Z, Z, Z, Z, Z, Z, Z, Z, Z, Z, Z, Z, Z, Z, Z, Z, Z, Z, Z, Z, Z, Z, Z, Z, Z, Z, Z, Z, Z, Z, Z, Z, Z, Z, Z, Z, Z, Z, Z, Z, Z, Z, Z, Z, Z, Z, Z, Z, Z])
noncomputable def F35_58 (call : FuncId → List D → Option D) (L : Nat) (C : Nat → Nat) (n : Nat) (vkind : ByteArray) (vreach : Int) (vh0 : ByteArray) (vh1 : Int) (vh2 : Int) (vh3 : Int) (vh4 : Int) (vh5_f : Bool) (vh5_n : Nat) (vh5_c : List D) (vh6_f : Bool) (vh6_n : Nat) (vh6_c : List D) (vp0 : Int) (vp1 : Int) (vfound : Bool) (vx : Int) (vbest : Int) (vbest1 : Int) : Option D :=
  loopAt (TEf call L C) O0 N35 FinM.canon Tryz.f35 [true, true, false, true, false] []  n (St.mk [J, J, D.str vkind, D.int IntKind.i64 vreach, D.loc 4 0 0, D.loc 5 0 0, J, J, D.loc 8 0 0, J, D.loc 10 0 0, D.bool vfound, D.int IntKind.i64 vx, J, J, J, J, J, J, J, J, J, J, J, J, J, J, J, J, J, J, J, J, J, J, J, J, J, J, J, J, J, J, J, J, J, J, J, J, J, J, J, J, J, J, J, J, J, J, J, J, J, J, J, J, J, J, J, J, J, J, J, J, J, J, J, J, J, J, J, J, J, J, J, J, J, J, J, J, J, J, J, J, J, J, J, J] [Z, Z, Z, Z, (1, some (Ob.box [D.str vh0, D.int IntKind.i64 vh1, D.int IntKind.i64 vh2, D.int IntKind.i64 vh3, D.int IntKind.i64 vh4, D.slc vh5_f vh5_n vh5_c, D.slc vh6_f vh6_n vh6_c] false)), (1, some (Ob.box [D.int IntKind.i64 vp0, D.int IntKind.i64 vp1] false)), Z, Z, (1, some (Ob.box [D.int IntKind.i64 0, D.int IntKind.i64 0] false)), Z, (1, some (Ob.box [D.int IntKind.i64 vbest, D.int IntKind.i64 vbest1] false)), Z, Z, Z, Z, Z, Z, Z, Z, Z, Z, Z, Z, Z, Z, Z, Z, Z, Z, Z, Z, Z, Z, Z, Z, Z, Z, Z, Z, Z, Z, Z, Z, Z, Z, Z, Z, Z, Z, Z, Z, Z, Z, Z, Z, Z, Z, Z, Z, Z, Z, Z, Z, Z, Z, Z, Z, Z, Z, Z, Z, Z, Z, Z, Z, Z, Z, Z, Z, Z, Z, Z, Z, Z, Z, Z, Z, Z, Z, Z, Z, Z, Z, Z, Z, Z, Z])
theorem F35_29843_eq (call : FuncId → List D → Option D) (L : Nat) (C : Nat → Nat) (n : Nat) (n_1 : Nat) (vkind : ByteArray) (vreach : Int) (vx : Int) (vy : Int) (vh0 : ByteArray) (vh1 : Int) (vh2 : Int) (vh3 : Int) (vh4 : Int) (vh5_f : Bool) (vh5_n : Nat) (vh5_c : List D) (vh6_f : Bool) (vh6_n : Nat) (vh6_c : List D) (vp0 : Int) (vp1 : Int) (vfound_2 : Bool) (vbest_2 : Int) (vbest1_2 : Int) (hC : ∀ t, C t = 1) : F35_29843 call L C n n_1 vkind vreach vx vy vh0 vh1 vh2 vh3 vh4 vh5_f vh5_n vh5_c vh6_f vh6_n vh6_c vp0 vp1 (vfound_2) (vbest_2) (vbest1_2) =
  (F35_3730 call L C n n_1 vkind vreach vx vh0 vh1 vh2 vh3 vh4 vh5_f vh5_n vh5_c vh6_f vh6_n vh6_c vp0 vp1 (vfound_2) (IntKind.wrap IntKind.i64 (vy + 1)) (vbest_2) (vbest1_2)) := by
  unfold F35_29843
  rw [hC]
  kernel_rfl
theorem F35_238739_eq (call : FuncId → List D → Option D) (L : Nat) (C : Nat → Nat) (n : Nat) (n_1 : Nat) (vkind : ByteArray) (vreach : Int) (vfound_1 : Bool) (vx : Int) (vy : Int) (vh0 : ByteArray) (vh1 : Int) (vh2 : Int) (vh3 : Int) (vh4 : Int) (vh5_f : Bool) (vh5_n : Nat) (vh5_c : List D) (vh6_f : Bool) (vh6_n : Nat) (vh6_c : List D) (vp0 : Int) (vp1 : Int) (vbest_1 : Int) (vbest1_1 : Int) (hC : ∀ t, C t = 1) : F35_238739 call L C n n_1 vkind vreach vfound_1 vx vy vh0 vh1 vh2 vh3 vh4 vh5_f vh5_n vh5_c vh6_f vh6_n vh6_c vp0 vp1 vbest_1 vbest1_1  =
  (optK (call 25 [D.agg [D.str vh0, D.int IntKind.i64 vh1, D.int IntKind.i64 vh2, D.int IntKind.i64 vh3, D.int IntKind.i64 vh4, D.slc vh5_f vh5_n vh5_c, D.slc vh6_f vh6_n vh6_c], D.agg [D.int IntKind.i64 vx, D.int IntKind.i64 vy]]) fun r_4 =>
    (tupK (r_4) 2 fun c =>
    (cellK (c) (0) fun d =>
    (strK (d) fun s =>
    (cellK (c) (1) fun d_1 =>
    (intK IntKind.i64 (d_1) fun _x_4 =>
    (ifK (!ByteArray.toList s == ByteArray.toList vkind)
      (ifK (!ByteArray.toList s == ByteArray.toList (ByteArray.mk #[111, 117, 116]))
        (ifK (!vfound_1)
          (F35_29843 call L C n n_1 vkind vreach vx vy vh0 vh1 vh2 vh3 vh4 vh5_f vh5_n vh5_c vh6_f vh6_n vh6_c vp0 vp1 (true) (vx) (vy))
          (optK (call 47 [D.agg [D.int IntKind.i64 vp0, D.int IntKind.i64 vp1], D.agg [D.int IntKind.i64 vx, D.int IntKind.i64 vy]]) fun r_5 =>
            (intK IntKind.i64 (r_5) fun x_5 =>
            (optK (call 47 [D.agg [D.int IntKind.i64 vp0, D.int IntKind.i64 vp1], D.agg [D.int IntKind.i64 vbest_1, D.int IntKind.i64 vbest1_1]]) fun r_6 =>
              (intK IntKind.i64 (r_6) fun x_6 =>
              (ifK (decide (x_5 < x_6))
                (F35_29843 call L C n n_1 vkind vreach vx vy vh0 vh1 vh2 vh3 vh4 vh5_f vh5_n vh5_c vh6_f vh6_n vh6_c vp0 vp1 (true) (vx) (vy))
                (F35_29843 call L C n n_1 vkind vreach vx vy vh0 vh1 vh2 vh3 vh4 vh5_f vh5_n vh5_c vh6_f vh6_n vh6_c vp0 vp1 (vfound_1) (vbest_1) (vbest1_1))))))))
        (F35_29843 call L C n n_1 vkind vreach vx vy vh0 vh1 vh2 vh3 vh4 vh5_f vh5_n vh5_c vh6_f vh6_n vh6_c vp0 vp1 (vfound_1) (vbest_1) (vbest1_1)))
      (F35_29843 call L C n n_1 vkind vreach vx vy vh0 vh1 vh2 vh3 vh4 vh5_f vh5_n vh5_c vh6_f vh6_n vh6_c vp0 vp1 (vfound_1) (vbest_1) (vbest1_1))))))))) := by
  unfold F35_238739
  rw [hC]
  kernel_rfl
theorem F35_3730_eq (call : FuncId → List D → Option D) (L : Nat) (C : Nat → Nat) (n : Nat) (n_1 : Nat) (vkind : ByteArray) (vreach : Int) (vx : Int) (vh0 : ByteArray) (vh1 : Int) (vh2 : Int) (vh3 : Int) (vh4 : Int) (vh5_f : Bool) (vh5_n : Nat) (vh5_c : List D) (vh6_f : Bool) (vh6_n : Nat) (vh6_c : List D) (vp0 : Int) (vp1 : Int) (vfound_1 : Bool) (vy : Int) (vbest_1 : Int) (vbest1_1 : Int) : F35_3730 call L C n (n_1 + 1) vkind vreach vx vh0 vh1 vh2 vh3 vh4 vh5_f vh5_n vh5_c vh6_f vh6_n vh6_c vp0 vp1 (vfound_1) (vy) (vbest_1) (vbest1_1) =
  (ifK (decide (vy ≤ IntKind.wrap IntKind.i64 (vp1 + vreach)))
    (optK (call 24 [D.agg [D.int IntKind.i64 vx, D.int IntKind.i64 vy]]) fun r =>
      (intK IntKind.i64 (r) fun x =>
      (ifK (x != 0)
        (F35_29843 call L C n n_1 vkind vreach vx vy vh0 vh1 vh2 vh3 vh4 vh5_f vh5_n vh5_c vh6_f vh6_n vh6_c vp0 vp1 (vfound_1) (vbest_1) (vbest1_1))
        (optK (call 47 [D.agg [D.int IntKind.i64 vp0, D.int IntKind.i64 vp1], D.agg [D.int IntKind.i64 vx, D.int IntKind.i64 vy]]) fun r_1 =>
          (intK IntKind.i64 (r_1) fun x_1 =>
          (ifK (decide (x_1 > IntKind.wrap IntKind.i64 (vreach * vreach)))
            (F35_29843 call L C n n_1 vkind vreach vx vy vh0 vh1 vh2 vh3 vh4 vh5_f vh5_n vh5_c vh6_f vh6_n vh6_c vp0 vp1 (vfound_1) (vbest_1) (vbest1_1))
            (optK (call 47 [D.agg [D.int IntKind.i64 vx, D.int IntKind.i64 vy], D.agg [D.int IntKind.i64 vh3, D.int IntKind.i64 vh4]]) fun r_2 =>
              (intK IntKind.i64 (r_2) fun x_2 =>
              (optK (call 47 [D.agg [D.int IntKind.i64 vp0, D.int IntKind.i64 vp1], D.agg [D.int IntKind.i64 vh3, D.int IntKind.i64 vh4]]) fun r_3 =>
                (intK IntKind.i64 (r_3) fun x_3 =>
                (ifK (decide (x_2 < x_3))
                  (F35_29843 call L C n n_1 vkind vreach vx vy vh0 vh1 vh2 vh3 vh4 vh5_f vh5_n vh5_c vh6_f vh6_n vh6_c vp0 vp1 (vfound_1) (vbest_1) (vbest1_1))
                  (F35_238739 call L C n n_1 vkind vreach vfound_1 vx vy vh0 vh1 vh2 vh3 vh4 vh5_f vh5_n vh5_c vh6_f vh6_n vh6_c vp0 vp1 vbest_1 vbest1_1))))))))))))
    (F35_58 call L C n vkind vreach vh0 vh1 vh2 vh3 vh4 vh5_f vh5_n vh5_c vh6_f vh6_n vh6_c vp0 vp1 (vfound_1) (IntKind.wrap IntKind.i64 (vx + 1)) (vbest_1) (vbest1_1))) := by kernel_rfl
theorem F35_58_eq (call : FuncId → List D → Option D) (L : Nat) (C : Nat → Nat) (n : Nat) (vkind : ByteArray) (vreach : Int) (vh0 : ByteArray) (vh1 : Int) (vh2 : Int) (vh3 : Int) (vh4 : Int) (vh5_f : Bool) (vh5_n : Nat) (vh5_c : List D) (vh6_f : Bool) (vh6_n : Nat) (vh6_c : List D) (vp0 : Int) (vp1 : Int) (vfound : Bool) (vx : Int) (vbest : Int) (vbest1 : Int) : F35_58 call L C  (n + 1) vkind vreach vh0 vh1 vh2 vh3 vh4 vh5_f vh5_n vh5_c vh6_f vh6_n vh6_c vp0 vp1 (vfound) (vx) (vbest) (vbest1) =
  (ifK (decide (vx ≤ IntKind.wrap IntKind.i64 (vp0 + vreach)))
    (F35_3730 call L C n L vkind vreach vx vh0 vh1 vh2 vh3 vh4 vh5_f vh5_n vh5_c vh6_f vh6_n vh6_c vp0 vp1 (vfound) (IntKind.wrap IntKind.i64 (vp1 - vreach)) (vbest) (vbest1))
    (some (D.tup [D.agg [D.int IntKind.i64 vbest, D.int IntKind.i64 vbest1], D.bool vfound]))) := by kernel_rfl
theorem F35_eq (call : FuncId → List D → Option D) (L : Nat) (C : Nat → Nat) (vh0 : ByteArray) (vh1 : Int) (vh2 : Int) (vh3 : Int) (vh4 : Int) (vh5_f : Bool) (vh5_n : Nat) (vh5_c : List D) (vh6_f : Bool) (vh6_n : Nat) (vh6_c : List D) (vp0 : Int) (vp1 : Int) (vkind : ByteArray) (vreach : Int) : evFnT (TEf call L C) O0 N35 FinM.canon Tryz.f35 [D.agg [D.str vh0, D.int IntKind.i64 vh1, D.int IntKind.i64 vh2, D.int IntKind.i64 vh3, D.int IntKind.i64 vh4, D.slc vh5_f vh5_n vh5_c, D.slc vh6_f vh6_n vh6_c], D.agg [D.int IntKind.i64 vp0, D.int IntKind.i64 vp1], D.str vkind, D.int IntKind.i64 vreach] =
  (F35_58 call L C L vkind vreach vh0 vh1 vh2 vh3 vh4 vh5_f vh5_n vh5_c vh6_f vh6_n vh6_c vp0 vp1 (false) (IntKind.wrap IntKind.i64 (vp0 - vreach)) (vp0) (vp1)) := by kernel_rfl

def N5 : NTab := fun p => match p with
  | 15 => some { keep := [2, 3, 4, 7], kl := [8, 11], ren := [(3, 3), (4, 4), (7, 7), (8, 8), (11, 11)] }
  | 63 => some { keep := [2, 4, 7, 8, 9, 10], kl := [3, 11], ren := [(3, 3), (4, 4), (7, 7), (8, 8), (11, 11)] }
  | 255 => some { keep := [8, 9, 10, 11], kl := [3, 4, 7], ren := [(3, 3), (4, 4), (7, 7), (8, 8), (11, 11)] }
  | _ => none
noncomputable def F5_255 (call : FuncId → List D → Option D) (L : Nat) (C : Nat → Nat) (ve : Int) (vp : Int) (vp1 : Int) (vbad_1 : Int) (vwant : Int) (vwant1 : Int) : Option D :=
  cutAt (TEf call L C) O0 N5 FinM.canon Tryz.f5 [true, true, true, true, true, true, true] []  (C 255) (St.mk [J, J, J, J, J, J, J, J, D.loc 8 0 0, D.int IntKind.i64 ve, D.int IntKind.i64 vbad_1, D.loc 11 0 0, J, J, J, J, J, J, J, J, J, J, J, J, J, J, J, J, J, J, J, J, J, J, J, J, J, J, J, J, J, J, J, J, J, J, J, J, J, J, J, J, J, J, J, J, J, J, J, J, J, J, J, J, J, J, J, J, J, J, J, J, J, J, J, J, J, J, J, J, J, J, J, J, J, J, J, J, J, J, J, J, J] [Z, Z, Z, Z, Z, Z, Z, Z, (1, some (Ob.box [D.int IntKind.i64 vp, D.int IntKind.i64 vp1] false)), Z, Z, (1, some (Ob.box [D.int IntKind.i64 vwant, D.int IntKind.i64 vwant1] false)), Z, Z, Z, Z, Z, Z, Z, Z, Z, Z, Z, Z, Z, Z, Z, Z, Z, Z, Z, Z, Z, Z, Z, Z, Z, Z, Z, Z, Z, Z, Z, Z, Z, Z, Z, Z, Z, Z, Z, Z, Z, Z, Z, Z, Z, Z, Z, Z, Z, Z, Z, Z, Z, Z, Z, Z, Z, Z, Z, Z, Z, Z, Z, Z, Z, Z, Z, Z, Z, Z, Z, Z, Z, Z, Z, Z, Z, Z, Z, Z, Z])
noncomputable def F5_63 (call : FuncId → List D → Option D) (L : Nat) (C : Nat → Nat) (vreach : Int) (vw0 : Int) (vw1 : Int) (vw2 : Int) (vw3 : Int) (vw4 : ByteArray) (vx : ByteArray) (vx1 : Int) (vx2 : Int) (vx3 : Int) (vx4 : Int) (vx5_f : Bool) (vx5_n : Nat) (vx5_c : List D) (vx6_f : Bool) (vx6_n : Nat) (vx6_c : List D) (ve : Int) (vbad : Int) (vp : Int) (vp1 : Int) : Option D :=
  cutAt (TEf call L C) O0 N5 FinM.canon Tryz.f5 [true, true, true, true, true] []  (C 63) (St.mk [J, J, D.int IntKind.i64 vreach, J, D.loc 4 0 0, J, J, D.loc 7 0 0, D.loc 8 0 0, D.int IntKind.i64 ve, D.int IntKind.i64 vbad, J, J, J, J, J, J, J, J, J, J, J, J, J, J, J, J, J, J, J, J, J, J, J, J, J, J, J, J, J, J, J, J, J, J, J, J, J, J, J, J, J, J, J, J, J, J, J, J, J, J, J, J, J, J, J, J, J, J, J, J, J, J, J, J, J, J, J, J, J, J, J, J, J, J, J, J, J, J, J, J, J, J] [Z, Z, Z, Z, (1, some (Ob.box [D.int IntKind.i64 vw0, D.int IntKind.i64 vw1, D.int IntKind.i64 vw2, D.int IntKind.i64 vw3, D.str vw4] false)), Z, Z, (1, some (Ob.box [D.str vx, D.int IntKind.i64 vx1, D.int IntKind.i64 vx2, D.int IntKind.i64 vx3, D.int IntKind.i64 vx4, D.slc vx5_f vx5_n vx5_c, D.slc vx6_f vx6_n vx6_c] false)), (1, some (Ob.box [D.int IntKind.i64 vp, D.int IntKind.i64 vp1] false)), Z, Z, Z, Z, Z, Z, Z, Z, Z, Z, Z, Z, Z, Z, Z, Z, Z, Z, Z, Z, Z, Z, Z, Z, Z, Z, Z, Z, Z, Z, Z, Z, Z, Z, Z, Z, Z, Z, Z, Z, Z, Z, Z, Z, Z, Z, Z, Z, Z, Z, Z, Z, Z, Z, Z, Z, Z, Z, Z, Z, Z, Z, Z, Z, Z, Z, Z, Z, Z, Z, Z, Z, Z, Z, Z, Z, Z, Z, Z, Z, Z, Z, Z, Z])
noncomputable def F5_15 (call : FuncId → List D → Option D) (L : Nat) (C : Nat → Nat) (vreach : Int) (vh0 : ByteArray) (vh1 : Int) (vh2 : Int) (vh3 : Int) (vh4 : Int) (vh5_f : Bool) (vh5_n : Nat) (vh5_c : List D) (vh6_f : Bool) (vh6_n : Nat) (vh6_c : List D) (vw0 : Int) (vw1 : Int) (vw2 : Int) (vw3 : Int) (vw4 : ByteArray) (vx : ByteArray) (vx1 : Int) (vx2 : Int) (vx3 : Int) (vx4 : Int) (vx5_f : Bool) (vx5_n : Nat) (vx5_c : List D) (vx6_f : Bool) (vx6_n : Nat) (vx6_c : List D) : Option D :=
  cutAt (TEf call L C) O0 N5 FinM.canon Tryz.f5 [true, true, true] []  (C 15) (St.mk [J, J, D.int IntKind.i64 vreach, D.loc 3 0 0, D.loc 4 0 0, J, J, D.loc 7 0 0, J, J, J, J, J, J, J, J, J, J, J, J, J, J, J, J, J, J, J, J, J, J, J, J, J, J, J, J, J, J, J, J, J, J, J, J, J, J, J, J, J, J, J, J, J, J, J, J, J, J, J, J, J, J, J, J, J, J, J, J, J, J, J, J, J, J, J, J, J, J, J, J, J, J, J, J, J, J, J, J, J, J, J, J, J] [Z, Z, Z, (1, some (Ob.box [D.str vh0, D.int IntKind.i64 vh1, D.int IntKind.i64 vh2, D.int IntKind.i64 vh3, D.int IntKind.i64 vh4, D.slc vh5_f vh5_n vh5_c, D.slc vh6_f vh6_n vh6_c] false)), (1, some (Ob.box [D.int IntKind.i64 vw0, D.int IntKind.i64 vw1, D.int IntKind.i64 vw2, D.int IntKind.i64 vw3, D.str vw4] false)), Z, Z, (1, some (Ob.box [D.str vx, D.int IntKind.i64 vx1, D.int IntKind.i64 vx2, D.int IntKind.i64 vx3, D.int IntKind.i64 vx4, D.slc vx5_f vx5_n vx5_c, D.slc vx6_f vx6_n vx6_c] false)), Z, Z, Z, Z, Z, Z, Z, Z, Z, Z, Z, Z, Z, Z, Z, Z, Z, Z, Z, Z, Z, Z, Z, Z, Z, Z, Z, Z, Z, Z, Z, Z, Z, Z, Z, Z, Z, Z, Z, Z, Z, Z, Z, Z, Z, Z, Z, Z, Z, Z, Z, Z, Z, Z, Z, Z, Z, Z, Z, Z, Z, Z, Z, Z, Z, Z, Z, Z, Z, Z, Z, Z, Z, Z, Z, Z, Z, Z, Z, Z, Z, Z, Z, Z, Z])
theorem F5_255_eq (call : FuncId → List D → Option D) (L : Nat) (C : Nat → Nat) (ve : Int) (vp : Int) (vp1 : Int) (vbad_1 : Int) (vwant : Int) (vwant1 : Int) (hC : ∀ t, C t = 1) : F5_255 call L C  ve vp vp1 (vbad_1) (vwant) (vwant1) =
  (ifK (ve == vbad_1)
    (ifK (vp == vwant && (vp1 == vwant1 && true))
      (optK (call 17 []) fun r_13 =>
        (boolK (r_13) fun b_6 =>
        (some (D.bool b_6))))
      (some (D.bool false)))
    (some (D.bool false))) := by
  unfold F5_255
  rw [hC]
  kernel_rfl
theorem F5_63_eq (call : FuncId → List D → Option D) (L : Nat) (C : Nat → Nat) (vreach : Int) (vw0 : Int) (vw1 : Int) (vw2 : Int) (vw3 : Int) (vw4 : ByteArray) (vx : ByteArray) (vx1 : Int) (vx2 : Int) (vx3 : Int) (vx4 : Int) (vx5_f : Bool) (vx5_n : Nat) (vx5_c : List D) (vx6_f : Bool) (vx6_n : Nat) (vx6_c : List D) (ve : Int) (vbad : Int) (vp : Int) (vp1 : Int) (hC : ∀ t, C t = 1) : F5_63 call L C  vreach vw0 vw1 vw2 vw3 vw4 vx vx1 vx2 vx3 vx4 vx5_f vx5_n vx5_c vx6_f vx6_n vx6_c (ve) (vbad) (vp) (vp1) =
  (ifK (vbad == 0)
    (optK (call 35 [D.agg [D.str vx, D.int IntKind.i64 vx1, D.int IntKind.i64 vx2, D.int IntKind.i64 vx3, D.int IntKind.i64 vx4, D.slc vx5_f vx5_n vx5_c, D.slc vx6_f vx6_n vx6_c], D.agg [D.int IntKind.i64 vw0, D.int IntKind.i64 vw1], D.str vw4, D.int IntKind.i64 vreach]) fun r_12 =>
      (tupK (r_12) 2 fun c_5 =>
      (cellK (c_5) (0) fun d_11 =>
      (aggK (d_11) 2 fun c_6 =>
      (cellK (c_6) (0) fun d_12 =>
      (intK IntKind.i64 (d_12) fun x_12 =>
      (cellK (c_6) (1) fun d_13 =>
      (intK IntKind.i64 (d_13) fun x_13 =>
      (cellK (c_5) (1) fun d_14 =>
      (boolK (d_14) fun b_5 =>
      (ifK (!b_5)
        (F5_255 call L C ve vp vp1 (7) (0) (0))
        (F5_255 call L C ve vp vp1 (vbad) (x_12) (x_13)))))))))))))
    (F5_255 call L C ve vp vp1 (vbad) (0) (0))) := by
  unfold F5_63
  rw [hC]
  kernel_rfl
theorem F5_15_eq (call : FuncId → List D → Option D) (L : Nat) (C : Nat → Nat) (vreach : Int) (vh0 : ByteArray) (vh1 : Int) (vh2 : Int) (vh3 : Int) (vh4 : Int) (vh5_f : Bool) (vh5_n : Nat) (vh5_c : List D) (vh6_f : Bool) (vh6_n : Nat) (vh6_c : List D) (vw0 : Int) (vw1 : Int) (vw2 : Int) (vw3 : Int) (vw4 : ByteArray) (vx : ByteArray) (vx1 : Int) (vx2 : Int) (vx3 : Int) (vx4 : Int) (vx5_f : Bool) (vx5_n : Nat) (vx5_c : List D) (vx6_f : Bool) (vx6_n : Nat) (vx6_c : List D) (hC : ∀ t, C t = 1) : F5_15 call L C  vreach vh0 vh1 vh2 vh3 vh4 vh5_f vh5_n vh5_c vh6_f vh6_n vh6_c vw0 vw1 vw2 vw3 vw4 (vx) (vx1) (vx2) (vx3) (vx4) (vx5_f) (vx5_n) (vx5_c) (vx6_f) (vx6_n) (vx6_c) =
  (optK (call 34 [D.agg [D.str vh0, D.int IntKind.i64 vh1, D.int IntKind.i64 vh2, D.int IntKind.i64 vh3, D.int IntKind.i64 vh4, D.slc vh5_f vh5_n vh5_c, D.slc vh6_f vh6_n vh6_c], D.agg [D.int IntKind.i64 vw0, D.int IntKind.i64 vw1], D.str vw4, D.int IntKind.i64 vreach]) fun r_5 =>
    (tupK (r_5) 2 fun c_3 =>
    (cellK (c_3) (0) fun d_7 =>
    (aggK (d_7) 2 fun c_4 =>
    (cellK (c_4) (0) fun d_8 =>
    (intK IntKind.i64 (d_8) fun x_4 =>
    (cellK (c_4) (1) fun d_9 =>
    (intK IntKind.i64 (d_9) fun x_5 =>
    (cellK (c_3) (1) fun d_10 =>
    (intK IntKind.i64 (d_10) fun x_6 =>
    (optK (call 18 [D.agg [D.str vx, D.int IntKind.i64 vx1, D.int IntKind.i64 vx2, D.int IntKind.i64 vx3, D.int IntKind.i64 vx4, D.slc vx5_f vx5_n vx5_c, D.slc vx6_f vx6_n vx6_c]]) fun r_6 =>
      (intK IntKind.i64 (r_6) fun x_7 =>
      (optK (call 24 [D.agg [D.int IntKind.i64 vw0, D.int IntKind.i64 vw1]]) fun r_7 =>
        (intK IntKind.i64 (r_7) fun x_8 =>
        (optK (call 29 [D.str vw4]) fun r_8 =>
          (boolK (r_8) fun b_4 =>
          (ifK (!b_4)
            (optK (call 28 [D.bool !ByteArray.toList vw4 == ByteArray.toList (ByteArray.mk #[111, 117, 116]), D.int IntKind.i64 13]) fun r_9 =>
              (intK IntKind.i64 (r_9) fun x_9 =>
              (ifK (decide (vreach < 0))
                (optK (call 28 [D.bool true, D.int IntKind.i64 3]) fun r_10 =>
                  (intK IntKind.i64 (r_10) fun x_10 =>
                  (optK (call 23 [D.slc true 4 [D.int IntKind.i64 x_7, D.int IntKind.i64 x_8, D.int IntKind.i64 x_9, D.int IntKind.i64 x_10]]) fun r_11 =>
                    (intK IntKind.i64 (r_11) fun x_11 =>
                    (F5_63 call L C vreach vw0 vw1 vw2 vw3 vw4 vx vx1 vx2 vx3 vx4 vx5_f vx5_n vx5_c vx6_f vx6_n vx6_c (x_6) (x_11) (x_4) (x_5))))))
                (optK (call 28 [D.bool (decide (vreach > 20)), D.int IntKind.i64 3]) fun r_14 =>
                  (intK IntKind.i64 (r_14) fun x_14 =>
                  (optK (call 23 [D.slc true 4 [D.int IntKind.i64 x_7, D.int IntKind.i64 x_8, D.int IntKind.i64 x_9, D.int IntKind.i64 x_14]]) fun r_15 =>
                    (intK IntKind.i64 (r_15) fun x_15 =>
                    (F5_63 call L C vreach vw0 vw1 vw2 vw3 vw4 vx vx1 vx2 vx3 vx4 vx5_f vx5_n vx5_c vx6_f vx6_n vx6_c (x_6) (x_15) (x_4) (x_5)))))))))
            (optK (call 28 [D.bool false, D.int IntKind.i64 13]) fun r_16 =>
              (intK IntKind.i64 (r_16) fun x_16 =>
              (ifK (decide (vreach < 0))
                (optK (call 28 [D.bool true, D.int IntKind.i64 3]) fun r_17 =>
                  (intK IntKind.i64 (r_17) fun x_17 =>
                  (optK (call 23 [D.slc true 4 [D.int IntKind.i64 x_7, D.int IntKind.i64 x_8, D.int IntKind.i64 x_16, D.int IntKind.i64 x_17]]) fun r_18 =>
                    (intK IntKind.i64 (r_18) fun x_18 =>
                    (F5_63 call L C vreach vw0 vw1 vw2 vw3 vw4 vx vx1 vx2 vx3 vx4 vx5_f vx5_n vx5_c vx6_f vx6_n vx6_c (x_6) (x_18) (x_4) (x_5))))))
                (optK (call 28 [D.bool (decide (vreach > 20)), D.int IntKind.i64 3]) fun r_19 =>
                  (intK IntKind.i64 (r_19) fun x_19 =>
                  (optK (call 23 [D.slc true 4 [D.int IntKind.i64 x_7, D.int IntKind.i64 x_8, D.int IntKind.i64 x_16, D.int IntKind.i64 x_19]]) fun r_20 =>
                    (intK IntKind.i64 (r_20) fun x_20 =>
                    (F5_63 call L C vreach vw0 vw1 vw2 vw3 vw4 vx vx1 vx2 vx3 vx4 vx5_f vx5_n vx5_c vx6_f vx6_n vx6_c (x_6) (x_20) (x_4) (x_5)))))))))))))))))))))))))) := by
  unfold F5_15
  rw [hC]
  kernel_rfl
theorem F5_eq (call : FuncId → List D → Option D) (L : Nat) (C : Nat → Nat) (vh0 : ByteArray) (vh1 : Int) (vh2 : Int) (vh3 : Int) (vh4 : Int) (vh5_f : Bool) (vh5_n : Nat) (vh5_c : List D) (vh6_f : Bool) (vh6_n : Nat) (vh6_c : List D) (vw0 : Int) (vw1 : Int) (vw2 : Int) (vw3 : Int) (vw4 : ByteArray) (vreach : Int) : evFnT (TEf call L C) O0 N5 FinM.canon Tryz.f5 [D.agg [D.str vh0, D.int IntKind.i64 vh1, D.int IntKind.i64 vh2, D.int IntKind.i64 vh3, D.int IntKind.i64 vh4, D.slc vh5_f vh5_n vh5_c, D.slc vh6_f vh6_n vh6_c], D.agg [D.int IntKind.i64 vw0, D.int IntKind.i64 vw1, D.int IntKind.i64 vw2, D.int IntKind.i64 vw3, D.str vw4], D.int IntKind.i64 vreach] =
  (optK (call 15 [D.agg [D.str vh0, D.int IntKind.i64 vh1, D.int IntKind.i64 vh2, D.int IntKind.i64 vh3, D.int IntKind.i64 vh4, D.slc vh5_f vh5_n vh5_c, D.slc vh6_f vh6_n vh6_c]]) fun r =>
    (aggK (r) 7 fun c =>
    (cellK (c) (0) fun d =>
    (strK (d) fun s =>
    (cellK (c) (1) fun d_1 =>
    (intK IntKind.i64 (d_1) fun x =>
    (cellK (c) (2) fun d_2 =>
    (intK IntKind.i64 (d_2) fun x_1 =>
    (cellK (c) (3) fun d_3 =>
    (intK IntKind.i64 (d_3) fun x_2 =>
    (cellK (c) (4) fun d_4 =>
    (intK IntKind.i64 (d_4) fun x_3 =>
    (cellK (c) (5) fun d_5 =>
    (slcK (d_5) fun f n c_1 =>
    (cellK (c) (6) fun d_6 =>
    (slcK (d_6) fun f_1 n_1 c_2 =>
    (optK (call 16 [D.agg [D.str s, D.int IntKind.i64 x, D.int IntKind.i64 x_1, D.int IntKind.i64 x_2, D.int IntKind.i64 x_3, D.slc f n c_1, D.slc f_1 n_1 c_2], D.int IntKind.i64 5, D.int IntKind.i64 6]) fun r_1 =>
      (boolK (r_1) fun b =>
      (ifK (!b)
        (optK (call 17 []) fun r_2 =>
          (boolK (r_2) fun b_1 =>
          (some (D.bool b_1))))
        (ifK (decide (((ByteArray.size vw4) : Int) > 60))
          (optK (call 17 []) fun r_3 =>
            (boolK (r_3) fun b_2 =>
            (some (D.bool b_2))))
          (ifK (decide (vreach > 6))
            (ifK (decide (vreach ≤ 20))
              (optK (call 17 []) fun r_4 =>
                (boolK (r_4) fun b_3 =>
                (some (D.bool b_3))))
              (F5_15 call L C vreach vh0 vh1 vh2 vh3 vh4 vh5_f vh5_n vh5_c vh6_f vh6_n vh6_c vw0 vw1 vw2 vw3 vw4 (s) (x) (x_1) (x_2) (x_3) (f) (n) (c_1) (f_1) (n_1) (c_2)))
            (F5_15 call L C vreach vh0 vh1 vh2 vh3 vh4 vh5_f vh5_n vh5_c vh6_f vh6_n vh6_c vw0 vw1 vw2 vw3 vw4 (s) (x) (x_1) (x_2) (x_3) (f) (n) (c_1) (f_1) (n_1) (c_2))))))))))))))))))))))) := by kernel_rfl

end Go.Pd
end

section
namespace Go.Pd
open Go Go.Proofs Go.RowKit
set_option maxRecDepth 100000

/-! ### The reference -/
def rlP (h : Hl) (p : Pt) (kind : ByteArray) (reach : Int) (q : Pt) (S : Bool × Pt) : Bool × Pt :=
  ifK (outP q) S (ifK (decide (sqW p q > w64 (reach * reach))) S (ifK (decide (sqW q h.cup < sqW p h.cup)) S
    (ifK (!seqB (locR h q).1 kind) (ifK (!seqB (locR h q).1 outS) (ifK (!S.1) (true, q) (ifK (decide (sqW p q < sqW p S.2)) (true, q) S)) S) S)))
def rlY (h : Hl) (p : Pt) (kind : ByteArray) (reach x : Int) : Nat → Int → Bool × Pt → Bool × Pt
  | 0, _, S => S
  | n + 1, y, S => rlY h p kind reach x n (y + 1) (rlP h p kind reach (x, y) S)
def rlX (h : Hl) (p : Pt) (kind : ByteArray) (reach : Int) : Nat → Int → Bool × Pt → Bool × Pt
  | 0, _, S => S
  | n + 1, x, S => rlX h p kind reach n (x + 1) (rlY h p kind reach x (2 * reach + 1).toNat (p.2 - reach) S)
def rlS (h : Hl) (p : Pt) (kind : ByteArray) (reach : Int) : Bool × Pt := rlX h p kind reach (2 * reach + 1).toNat (p.1 - reach) (false, p)
section
variable {call : FuncId → List D → Option D} {h : Hl} {p : Pt} {kind : ByteArray} {reach : Int}
structure RelC35 (call : FuncId → List D → Option D) (h : Hl) : Prop where
  h47 : ∀ a b : Pt, call 47 [ptD a, ptD b] = some (.int .i64 (sqW a b))
  h24 : ∀ a : Pt, call 24 [ptD a] = some (.int .i64 (ifK (outP a) 3 0))
  h25 : ∀ q : Pt, call 25 [holeD h, ptD q] = some (locD (locR h q))
noncomputable abbrev Y35 (call : FuncId → List D → Option D) (h : Hl) (p : Pt) (kind : ByteArray) (reach : Int) (n n1 : Nat) (x y : Int) (S : Bool × Pt) : Option D :=
  F35_3730 call LL C1 n n1 kind reach x h.name h.tee.1 h.tee.2 h.cup.1 h.cup.2 h.lf h.line.length (ptsC h.line) h.af h.areas.length (arsC h.areas) p.1 p.2 S.1 y S.2.1 S.2.2
noncomputable abbrev X35 (call : FuncId → List D → Option D) (h : Hl) (p : Pt) (kind : ByteArray) (reach : Int) (n : Nat) (x : Int) (S : Bool × Pt) : Option D :=
  F35_58 call LL C1 n kind reach h.name h.tee.1 h.tee.2 h.cup.1 h.cup.2 h.lf h.line.length (ptsC h.line) h.af h.areas.length (arsC h.areas) p.1 p.2 S.1 x S.2.1 S.2.2
theorem step35 (hc : RelC35 call h) {n n1 : Nat} {x y : Int} (hy : y ≤ w64 (p.2 + reach)) {S : Bool × Pt} :
    Y35 call h p kind reach n (n1 + 1) x y S = Y35 call h p kind reach n n1 x (w64 (y + 1)) (rlP h p kind reach (x, y) S) := by
  have e47 : call 47 [D.agg [D.int IntKind.i64 p.1, D.int IntKind.i64 p.2], D.agg [D.int IntKind.i64 x, D.int IntKind.i64 y]] = some (.int .i64 (sqW p (x, y))) := hc.h47 p (x, y)
  have e47c : call 47 [D.agg [D.int IntKind.i64 x, D.int IntKind.i64 y], D.agg [D.int IntKind.i64 h.cup.1, D.int IntKind.i64 h.cup.2]] = some (.int .i64 (sqW (x, y) h.cup)) := hc.h47 (x, y) h.cup
  have e47p : call 47 [D.agg [D.int IntKind.i64 p.1, D.int IntKind.i64 p.2], D.agg [D.int IntKind.i64 h.cup.1, D.int IntKind.i64 h.cup.2]] = some (.int .i64 (sqW p h.cup)) := hc.h47 p h.cup
  have e47b : call 47 [D.agg [D.int IntKind.i64 p.1, D.int IntKind.i64 p.2], D.agg [D.int IntKind.i64 S.2.1, D.int IntKind.i64 S.2.2]] = some (.int .i64 (sqW p S.2)) := hc.h47 p S.2
  have e24 : call 24 [D.agg [.int .i64 x, .int .i64 y]] = some (.int .i64 (ifK (outP (x, y)) 3 0)) := hc.h24 (x, y)
  have e25 : call 25 [holeD h, D.agg [.int .i64 x, .int .i64 y]] = some (locD (locR h (x, y))) := hc.h25 (x, y)
  have rd : ∀ (x : ByteArray × Int) (k : ByteArray → Int → Option D), (tupK (locD x) 2 fun c => cellK c 0 fun d => strK d fun s => cellK c 1 fun d' => intK .i64 d' fun y => k s y) = k x.1 x.2 := fun _ _ => rfl
  have cl : F35_238739 call LL C1 n n1 kind reach S.1 x y h.name h.tee.1 h.tee.2 h.cup.1 h.cup.2 h.lf h.line.length (ptsC h.line) h.af h.areas.length (arsC h.areas) p.1 p.2 S.2.1 S.2.2 =
      Y35 call h p kind reach n n1 x (w64 (y + 1)) (ifK (!seqB (locR h (x, y)).1 kind) (ifK (!seqB (locR h (x, y)).1 outS) (ifK (!S.1) (true, (x, y)) (ifK (decide (sqW p (x, y) < sqW p S.2)) (true, (x, y)) S)) S) S) := by
    rw [F35_238739_eq (C := C1) (hC := fun _ => rfl), e25, optK_some, rd]
    rw [F35_29843_eq (C := C1) (hC := fun _ => rfl), F35_29843_eq (C := C1) (hC := fun _ => rfl)]
    rw [show (ByteArray.toList (locR h (x, y)).1 == ByteArray.toList kind) = seqB (locR h (x, y)).1 kind from rfl, show (ByteArray.toList (locR h (x, y)).1 == ByteArray.toList (ByteArray.mk #[111, 117, 116])) = seqB (locR h (x, y)).1 outS from rfl]
    obtain ⟨b, q⟩ := S
    cases seqB (locR h (x, y)).1 kind <;> cases seqB (locR h (x, y)).1 outS
    · cases b
      · rfl
      · rw [e47, e47b, optK_some, intK_int, optK_some, intK_int]
        cases decide (sqW p (x, y) < sqW p q)
        · simp only [Bool.not_false, Bool.not_true, ifK_true, ifK_false]
        · simp only [Bool.not_false, Bool.not_true, ifK_true, ifK_false]
    · rfl
    · rfl
    · rfl
  unfold Y35
  rw [F35_3730_eq, show decide (y ≤ IntKind.wrap .i64 (p.2 + reach)) = true by simpa using hy, ifK_true, e24, optK_some, intK_int]
  unfold rlP
  rw [show IntKind.wrap .i64 (reach * reach) = w64 (reach * reach) from rfl]
  rw [F35_29843_eq (C := C1) (hC := fun _ => rfl)]
  cases outP (x, y)
  · rw [ifK_false, ifK_false, show ((0 : Int) != 0) = false from rfl, ifK_false, e47, optK_some, intK_int]
    cases decide (sqW p (x, y) > w64 (reach * reach))
    · rw [ifK_false, ifK_false, e47c, optK_some, intK_int, e47p, optK_some, intK_int]
      cases decide (sqW (x, y) h.cup < sqW p h.cup)
      · rw [ifK_false, ifK_false]
        exact cl
      · rfl
    · rfl
  · rfl
theorem goY35 (hc : RelC35 call h) {n : Nat} {x : Int} (hp : InP p) (hr0 : 0 ≤ reach) (hr1 : reach ≤ 20) : ∀ (m n1 : Nat) (y : Int) (S : Bool × Pt), y + m = p.2 + reach + 1 → -2000000 ≤ y → m < n1 →
    Y35 call h p kind reach n n1 x y S = X35 call h p kind reach n (w64 (x + 1)) (rlY h p kind reach x m y S)
  | 0, n1, y, S, hy, h0, hn => by
    obtain ⟨n1, rfl⟩ : ∃ k, n1 = k + 1 := ⟨n1 - 1, by omega⟩
    obtain ⟨_, _, hp3, hp4⟩ := hp
    have e : w64 (p.2 + reach) = p.2 + reach := wrap_in (by omega)
    unfold Y35
    rw [F35_3730_eq, show IntKind.wrap .i64 (p.2 + reach) = p.2 + reach from e, show decide (y ≤ p.2 + reach) = false by simp; omega, ifK_false]
    rfl
  | m + 1, n1, y, S, hy, h0, hn => by
    obtain ⟨n1, rfl⟩ : ∃ k, n1 = k + 1 := ⟨n1 - 1, by omega⟩
    have hp' := hp
    obtain ⟨_, _, hp3, hp4⟩ := hp'
    have e : w64 (p.2 + reach) = p.2 + reach := wrap_in (by omega)
    have e1 : w64 (y + 1) = y + 1 := wrap_in (by omega)
    rw [step35 hc (by rw [e]; omega), e1]
    exact goY35 hc hp hr0 hr1 m n1 (y + 1) _ (by omega) (by omega) (by omega)
theorem goX35 (hc : RelC35 call h) (hp : InP p) (hr0 : 0 ≤ reach) (hr1 : reach ≤ 20) : ∀ (m n : Nat) (x : Int) (S : Bool × Pt), x + m = p.1 + reach + 1 → -2000000 ≤ x → m < n →
    X35 call h p kind reach n x S = some (.tup [ptD (rlX h p kind reach m x S).2, .bool (rlX h p kind reach m x S).1])
  | 0, n, x, S, hx, h0, hn => by
    obtain ⟨n, rfl⟩ : ∃ k, n = k + 1 := ⟨n - 1, by omega⟩
    have hp' := hp
    obtain ⟨hp1, hp2, _, _⟩ := hp'
    have e : w64 (p.1 + reach) = p.1 + reach := wrap_in (by omega)
    unfold X35
    rw [F35_58_eq, show IntKind.wrap .i64 (p.1 + reach) = p.1 + reach from e, show decide (x ≤ p.1 + reach) = false by simp; omega, ifK_false]
    rfl
  | m + 1, n, x, S, hx, h0, hn => by
    obtain ⟨n, rfl⟩ : ∃ k, n = k + 1 := ⟨n - 1, by omega⟩
    have hp' := hp
    obtain ⟨hp1, hp2, hp3, hp4⟩ := hp'
    have e : w64 (p.1 + reach) = p.1 + reach := wrap_in (by omega)
    have e1 : w64 (x + 1) = x + 1 := wrap_in (by omega)
    have e2 : w64 (p.2 - reach) = p.2 - reach := wrap_in (by omega)
    unfold X35
    rw [F35_58_eq, show IntKind.wrap .i64 (p.1 + reach) = p.1 + reach from e, show decide (x ≤ p.1 + reach) = true by simp; omega, ifK_true, show IntKind.wrap .i64 (p.2 - reach) = p.2 - reach from e2]
    have := goY35 hc (kind := kind) (n := n) (x := x) hp hr0 hr1 (2 * reach + 1).toNat LL (p.2 - reach) S (by omega) (by omega) (by unfold LL; omega)
    refine this.trans ?_
    rw [e1]
    exact goX35 hc hp hr0 hr1 m n (x + 1) _ (by omega) (by omega) (by omega)
end
theorem ok35 (h : Hl) (hk : h.Ok) (p : Pt) (kind : ByteArray) (reach : Int) (hp : InP p) (hr0 : 0 ≤ reach) (hr1 : reach ≤ 20) : OK2 35 [holeD h, ptD p, .str kind, .int .i64 reach] (.tup [ptD (rlS h p kind reach).2, .bool (rlS h p kind reach).1]) := by
  obtain ⟨B, hb, e47, e24, e25, _⟩ := exF [famPP 47 fun a b => .int .i64 (sqW a b), famP 24 fun p => .int .i64 (ifK (outP p) 3 0), ⟨25, Pt, fun p => [holeD h, ptD p], fun p => locD (locR h p)⟩]
    ⟨famPP_good ok47 (fun _ _ => rfl), famP_good ok24 (fun _ => rfl), ⟨fun p => ok25 h hk p, fun x y e => by
      have e : [holeD h, ptD x] = [holeD h, ptD y] := e
      simp only [List.cons.injEq, true_and, and_true] at e
      show locD _ = locD _
      rw [ptD_inj e], fun _ => rfl⟩, trivial⟩ rfl
  have hp' := hp
  obtain ⟨hp1, hp2, hp3, hp4⟩ := hp'
  refine fnT hb Tryz.func35 (ord := O0) (N := N35) (by kernel_rfl) ((F35_eq _ _ _ h.name h.tee.1 h.tee.2 h.cup.1 h.cup.2 h.lf h.line.length (ptsC h.line) h.af h.areas.length (arsC h.areas) p.1 p.2 kind reach).trans ?_)
  have := goX35 (call := callOf B) ⟨fun a b => e47 (a, b), fun a => e24 a, fun q => e25 q⟩ (kind := kind) hp hr0 hr1 (2 * reach + 1).toNat LL (p.1 - reach) (false, p) (by omega) (by omega) (by unfold LL; omega)
  rw [show IntKind.wrap .i64 (p.1 - reach) = p.1 - reach from wrap_in (by omega)]
  exact this
end Go.Pd
end

section
namespace Go.Pd
open Go Go.Proofs Go.RowKit
set_option maxRecDepth 100000

theorem sqN_comm (a b : Pt) : sqN a b = sqN b a := by
  unfold sqN
  have : dt (mns a b) (mns a b) = dt (mns b a) (mns b a) := by
    show (a.1 - b.1) * (a.1 - b.1) + (a.2 - b.2) * (a.2 - b.2) = (b.1 - a.1) * (b.1 - a.1) + (b.2 - a.2) * (b.2 - a.2)
    rw [← Int.neg_mul_neg (a.1 - b.1), ← Int.neg_mul_neg (a.2 - b.2), Int.neg_sub, Int.neg_sub]
  rw [this]
theorem sq_comm {a b : Pt} (ha : InP a) (hb : InP b) : sqW a b = sqW b a := by
  rw [(sq_eq ha hb).1, (sq_eq hb ha).1, sqN_comm]
structure Rel2 (S S' : Bool × Pt) : Prop where
  b : S.1 = S'.1
  q : S.1 = true → S.2 = S'.2 ∧ InP S.2
  z : S.1 = false → S.2 = (0, 0)
section
variable {h : Hl} {p : Pt} {kind : ByteArray} {reach : Int}
theorem rel_step (hp : InP p) (ha : ∀ a ∈ h.areas, a.2.2.any outP = false) {S S' : Bool × Pt} (hr : Rel2 S S') (q : Pt) : Rel2 (relP h p kind reach q S) (rlP h p kind reach q S') := by
  unfold relP rlP
  cases ho : outP q
  · have hq : InP q := inP_of ho
    have hl : locP h q = locR h q := loc_same ho ha
    have hn : Rel2 (true, q) (true, q) := ⟨rfl, fun _ => ⟨rfl, hq⟩, fun h => by cases h⟩
    rw [hl, sq_comm hq hp, ifK_false, ifK_false]
    cases decide (sqW p q > w64 (reach * reach))
    · rw [ifK_false, ifK_false]
      cases decide (sqW q h.cup < sqW p h.cup)
      · rw [ifK_false, ifK_false]
        have hr0 := hr
        obtain ⟨b, q0⟩ := S
        obtain ⟨b', q1⟩ := S'
        obtain ⟨h1, h2, h3⟩ := hr
        have h1 : b = b' := h1
        subst h1
        cases b
        · rw [show (((false, q0) : Bool × Pt).1 && decide (sqW p q ≥ sqW ((false, q0) : Bool × Pt).2 p)) = false from rfl, ifK_false, show (!((false, q1) : Bool × Pt).1) = true from rfl, ifK_true]
          cases !seqB (locR h q).1 kind
          · exact hr0
          · rw [ifK_true, ifK_true]
            cases !seqB (locR h q).1 outS
            · exact hr0
            · exact hn
        · obtain ⟨h4, h5⟩ := h2 rfl
          have h4 : q0 = q1 := h4
          subst h4
          have h5 : InP q0 := h5
          rw [show (((true, q0) : Bool × Pt).1 && decide (sqW p q ≥ sqW ((true, q0) : Bool × Pt).2 p)) = decide (sqW p q ≥ sqW q0 p) from rfl, sq_comm h5 hp, show (!((true, q0) : Bool × Pt).1) = false from rfl, ifK_false]
          by_cases hlt : sqW p q < sqW p q0
          · rw [show decide (sqW p q ≥ sqW p q0) = false by simp; omega, ifK_false, show decide (sqW p q < sqW p ((true, q0) : Bool × Pt).2) = true by simpa using hlt, ifK_true]
            cases !seqB (locR h q).1 kind
            · exact hr0
            · rw [ifK_true]
              cases !seqB (locR h q).1 outS
              · exact hr0
              · exact hn
          · rw [show decide (sqW p q ≥ sqW p q0) = true by simp; omega, ifK_true, show decide (sqW p q < sqW p ((true, q0) : Bool × Pt).2) = false by simpa using hlt, ifK_false]
            cases !seqB (locR h q).1 kind
            · exact hr0
            · rw [ifK_true]
              cases !seqB (locR h q).1 outS
              · exact hr0
              · exact hr0
      · exact hr
    · exact hr
  · rw [ifK_true, ifK_true]
    cases decide (sqW q p > w64 (reach * reach))
    · exact hr
    · exact hr
theorem rel_Y (hp : InP p) (ha : ∀ a ∈ h.areas, a.2.2.any outP = false) {x : Int} : ∀ (m : Nat) (y : Int) {S S' : Bool × Pt}, Rel2 S S' → Rel2 (relY h p kind reach x m y S) (rlY h p kind reach x m y S')
  | 0, _, _, _, hr => hr
  | m + 1, y, _, _, hr => rel_Y hp ha m (y + 1) (rel_step hp ha hr (x, y))
theorem rel_X (hp : InP p) (ha : ∀ a ∈ h.areas, a.2.2.any outP = false) : ∀ (m : Nat) (x : Int) {S S' : Bool × Pt}, Rel2 S S' → Rel2 (relX h p kind reach m x S) (rlX h p kind reach m x S')
  | 0, _, _, _, hr => hr
  | m + 1, x, _, _, hr => rel_X hp ha m (x + 1) (rel_Y hp ha _ _ hr)
theorem rel_same (hp : InP p) (ha : ∀ a ∈ h.areas, a.2.2.any outP = false) : Rel2 (relS h p kind reach) (rlS h p kind reach) :=
  rel_X hp ha _ _ ⟨rfl, fun h => (by cases h), fun _ => rfl⟩
end
theorem rlY_own {h : Hl} {p : Pt} {kind : ByteArray} {reach x : Int} : ∀ (m : Nat) (y : Int) (S : Bool × Pt), rlY (ownH h) p kind reach x m y S = rlY h p kind reach x m y S
  | 0, _, _ => rfl
  | m + 1, y, S => rlY_own m (y + 1) (rlP h p kind reach (x, y) S)
theorem rlX_own {h : Hl} {p : Pt} {kind : ByteArray} {reach : Int} : ∀ (m : Nat) (x : Int) (S : Bool × Pt), rlX (ownH h) p kind reach m x S = rlX h p kind reach m x S
  | 0, _, _ => rfl
  | m + 1, x, S => by
    show rlX (ownH h) p kind reach m (x + 1) (rlY (ownH h) p kind reach x (2 * reach + 1).toNat (p.2 - reach) S) = rlX h p kind reach m (x + 1) (rlY h p kind reach x (2 * reach + 1).toNat (p.2 - reach) S)
    rw [rlY_own, rlX_own m]
theorem rlS_own (h : Hl) (p : Pt) (kind : ByteArray) (reach : Int) : rlS (ownH h) p kind reach = rlS h p kind reach := rlX_own _ _ _
theorem rd_rel {γ : Type} (a : Pt) (e : Int) (k : Int → Int → Int → Option γ) : (tupK (.tup [ptD a, .int .i64 e]) 2 fun c => cellK c 0 fun d => aggK d 2 fun c' => cellK c' 0 fun d => intK .i64 d fun x => cellK c' 1 fun d => intK .i64 d fun y => cellK c 1 fun d => intK .i64 d fun z => k x y z) = k a.1 a.2 e := rfl
theorem rd_relb {γ : Type} (a : Pt) (e : Bool) (k : Int → Int → Bool → Option γ) : (tupK (.tup [ptD a, .bool e]) 2 fun c => cellK c 0 fun d => aggK d 2 fun c' => cellK c' 0 fun d => intK .i64 d fun x => cellK c' 1 fun d => intK .i64 d fun y => cellK c 1 fun d => boolK d fun z => k x y z) = k a.1 a.2 e := rfl
def relA (h : Hl) (p : Pt) (kind : ByteArray) (reach : Int) : Pt × Int := ifK (relE h p kind reach != 0) ((0, 0), relE h p kind reach) ((relS h p kind reach).2, ifK (!(relS h p kind reach).1) 7 0)
theorem relD_eq (h : Hl) (p : Pt) (kind : ByteArray) (reach : Int) : relD h p kind reach = .tup [ptD (relA h p kind reach).1, .int .i64 (relA h p kind reach).2] := by
  unfold relD relA
  cases relE h p kind reach != 0 <;> rfl
theorem okf5 : okFn Tryz.prog O0 Tryz.f5 = true := by kernel_rfl
theorem relE_in {h : Hl} {p : Pt} {kind : ByteArray} {reach : Int} (hz : relE h p kind reach = 0) : holeE h = 0 ∧ InP p ∧ 0 ≤ reach ∧ reach ≤ 20 := by
  have h0 := firstZ_zero hz
  have hr : outLM (reach, 0, 20) = false := ifK_zero (h0 (ifK (outLM (reach, 0, 20)) 3 0) (by simp))
  refine ⟨h0 _ (by simp), inP_of (ifK_zero (h0 (ifK (outP p) 3 0) (by simp))), ?_⟩
  unfold outLM at hr
  cases h1 : decide (reach < 0) <;> cases h2 : decide (reach > 20) <;> simp only [h1, h2] at hr <;> first | (simp at h1 h2; omega) | cases hr
theorem ok5 (h : Hl) (hb : h.areas.length * 40 ≤ 140737488355328) (p q : Pt) (kind : ByteArray) (reach : Int) : OK2 5 [holeD h, .agg [.int .i64 p.1, .int .i64 p.2, .int .i64 q.1, .int .i64 q.2, .str kind], .int .i64 reach] (.bool true) := by
  cases hs : shH (ownH h) 5 6
  · obtain ⟨B, hB, e15, e16, e17, _⟩ := exF [one 15 [holeD h] (holeD (ownH h)), one 16 [holeD (ownH h), .int .i64 5, .int .i64 6] (.bool (shH (ownH h) 5 6)), one 17 [] (.bool true)]
      ⟨one_good (ok15 h hb) rfl, one_good (ok16 _ 5 6) rfl, one_good ok17 rfl, trivial⟩ rfl
    refine fnT hB Tryz.func5 (ord := O0) (N := N5) okf5 ((F5_eq _ _ _ h.name h.tee.1 h.tee.2 h.cup.1 h.cup.2 h.lf h.line.length (ptsC h.line) h.af h.areas.length (arsC h.areas) p.1 p.2 q.1 q.2 kind reach).trans ?_)
    have f15 : callOf B 15 [holeD h] = some (holeD (ownH h)) := e15 ()
    have f16 : callOf B 16 [holeD (ownH h), .int .i64 5, .int .i64 6] = some (.bool (shH (ownH h) 5 6)) := e16 ()
    have f17 : callOf B 17 [] = some (.bool true) := e17 ()
    rw [f15, optK_some, rd_hole, f16, optK_some, boolK_bool, hs, Bool.not_false, ifK_true, f17, optK_some, boolK_bool]
  · have hk : h.Ok := by
      have := shH_ok hs
      exact ⟨this.n, this.l, this.a, this.c⟩
    have hk' := ownH_ok hk
    obtain ⟨B, hB, e15, e16, e17, e34, e18, e24, e29, e28, e23, e35, _⟩ := exF [one 15 [holeD h] (holeD (ownH h)), one 16 [holeD (ownH h), .int .i64 5, .int .i64 6] (.bool (shH (ownH h) 5 6)), one 17 [] (.bool true),
        one 34 [holeD h, ptD p, .str kind, .int .i64 reach] (relD h p kind reach), one 18 [holeD (ownH h)] (.int .i64 (refHole h)), one 24 [ptD p] (.int .i64 (ifK (outP p) 3 0)), one 29 [.str kind] (.bool (kindB kind)), famBE 28, famFi 23,
        ⟨35, {u : Unit // relE h p kind reach = 0}, fun _ => [holeD (ownH h), ptD p, .str kind, .int .i64 reach], fun _ => .tup [ptD (rlS h p kind reach).2, .bool (rlS h p kind reach).1]⟩]
      ⟨one_good (ok15 h hb) rfl, one_good (ok16 _ 5 6) rfl, one_good ok17 rfl, one_good (ok34 h hk p kind reach) rfl, one_good (ok18 (ownH h) hk') rfl, one_good (ok24 p) rfl, one_good (ok29 kind) rfl, famBE_good ok28 (fun _ _ => rfl), famFi_good (fun l hl => ok23 l hl) (fun _ _ => rfl),
        ⟨fun u => by
          obtain ⟨_, i1, i2, i3⟩ := relE_in u.2
          have := ok35 (ownH h) hk' p kind reach i1 i2 i3
          rw [rlS_own] at this
          exact this, fun _ _ _ => rfl, fun _ => rfl⟩, trivial⟩ rfl
    refine fnT hB Tryz.func5 (ord := O0) (N := N5) okf5 ((F5_eq _ _ _ h.name h.tee.1 h.tee.2 h.cup.1 h.cup.2 h.lf h.line.length (ptsC h.line) h.af h.areas.length (arsC h.areas) p.1 p.2 q.1 q.2 kind reach).trans ?_)
    have f15 : callOf B 15 [holeD h] = some (holeD (ownH h)) := e15 ()
    have f16 : callOf B 16 [holeD (ownH h), .int .i64 5, .int .i64 6] = some (.bool (shH (ownH h) 5 6)) := e16 ()
    have f17 : callOf B 17 [] = some (.bool true) := e17 ()
    have f34 : callOf B 34 [holeD h, ptD p, .str kind, .int .i64 reach] = some (relD h p kind reach) := e34 ()
    have f18 : callOf B 18 [holeD (ownH h)] = some (.int .i64 (refHole h)) := e18 ()
    have f24 : callOf B 24 [ptD p] = some (.int .i64 (ifK (outP p) 3 0)) := e24 ()
    have f29 : callOf B 29 [.str kind] = some (.bool (kindB kind)) := e29 ()
    have f28 : ∀ b e, callOf B 28 [.bool b, .int .i64 e] = some (.int .i64 (ifK b e 0)) := fun b e => e28 (b, e)
    have f23 : ∀ a b c d : Int, callOf B 23 [.slc true 4 [.int .i64 a, .int .i64 b, .int .i64 c, .int .i64 d]] = some (.int .i64 (firstZ [a, b, c, d])) := fun a b c d => e23 ⟨[a, b, c, d], by simp⟩
    have hrs : refHole h = holeE h := (hole_same h).symm
    -- the end
    have end17 : ∀ (a b c : Int), F5_255 (callOf B) LL C1 c a b c a b = some (.bool true) := fun a b c => by
      rw [F5_255_eq (C := C1) (hC := fun _ => rfl)]
      simp only [beq_self_eq_true, ifK_true, Bool.and_self]
      rw [f17, optK_some, boolK_bool]
    have fin : F5_63 (callOf B) LL C1 reach p.1 p.2 q.1 q.2 kind h.name h.tee.1 h.tee.2 h.cup.1 h.cup.2 h.lf h.line.length (ptsC h.line) (ownH h).af h.areas.length (arsC h.areas) (relA h p kind reach).2 (relE h p kind reach) (relA h p kind reach).1.1 (relA h p kind reach).1.2 = some (.bool true) := by
      rw [F5_63_eq (C := C1) (hC := fun _ => rfl)]
      by_cases hz : relE h p kind reach = 0
      · obtain ⟨j1, j2, j3, j4⟩ := relE_in hz
        have f35 : callOf B 35 [holeD (ownH h), ptD p, .str kind, .int .i64 reach] = some (.tup [ptD (rlS h p kind reach).2, .bool (rlS h p kind reach).1]) := e35 ⟨(), hz⟩
        have hR := rel_same (kind := kind) (reach := reach) j2 (areas_in j1)
        have hA : relA h p kind reach = ((relS h p kind reach).2, ifK (!(relS h p kind reach).1) 7 0) := by
          unfold relA
          rw [hz]
          rfl
        rw [show (relE h p kind reach == 0) = true by simpa using hz, ifK_true]
        refine (congrArg (fun o => optK o _) f35).trans ?_
        rw [optK_some, rd_relb, hA, hz]
        cases hb1 : (rlS h p kind reach).1
        · have hb2 : (relS h p kind reach).1 = false := hR.b.trans hb1
          have hz2 := hR.z hb2
          rw [hb2, Bool.not_false, ifK_true, ifK_true, hz2]
          exact end17 0 0 7
        · have hb2 : (relS h p kind reach).1 = true := hR.b.trans hb1
          have hq2 := (hR.q hb2).1
          rw [hb2, Bool.not_true, ifK_false, ifK_false, ← hq2]
          exact end17 _ _ 0
      · have hA : relA h p kind reach = ((0, 0), relE h p kind reach) := by
          unfold relA
          rw [show (relE h p kind reach != 0) = true by simpa using hz, ifK_true]
        rw [show (relE h p kind reach == 0) = false by simpa using hz, ifK_false, hA]
        exact end17 0 0 _
    have hE : ∀ c d : Int, c = kindE kind → d = ifK (outLM (reach, 0, 20)) 3 0 → firstZ [refHole h, ifK (outP p) 3 0, c, d] = relE h p kind reach := fun c d h1 h2 => by
      rw [h1, h2, hrs]
      rfl
    have mid : F5_15 (callOf B) LL C1 reach h.name h.tee.1 h.tee.2 h.cup.1 h.cup.2 h.lf h.line.length (ptsC h.line) h.af h.areas.length (arsC h.areas) p.1 p.2 q.1 q.2 kind h.name h.tee.1 h.tee.2 h.cup.1 h.cup.2 h.lf h.line.length (ptsC h.line) (ownH h).af h.areas.length (arsC h.areas) = some (.bool true) := by
      rw [F5_15_eq (C := C1) (hC := fun _ => rfl)]
      refine (congrArg (fun o => optK o _) f34).trans ?_
      rw [optK_some, relD_eq, rd_rel]
      refine (congrArg (fun o => optK o _) f18).trans ?_
      rw [optK_some, intK_int]
      refine (congrArg (fun o => optK o _) f24).trans ?_
      rw [optK_some, intK_int, f29, optK_some, boolK_bool]
      rw [show (ByteArray.toList kind == ByteArray.toList (ByteArray.mk #[111, 117, 116])) = seqB kind outS from rfl]
      cases hkb : kindB kind
      · rw [Bool.not_false, ifK_true, f28, optK_some, intK_int]
        cases hlt : decide (reach < 0)
        · rw [ifK_false, f28, optK_some, intK_int, f23, optK_some, intK_int, hE _ _ (by unfold kindE; rw [hkb]; cases seqB kind outS <;> rfl) (by unfold outLM; simp only [hlt]; rfl)]
          exact fin
        · rw [ifK_true, f28, optK_some, intK_int, f23, optK_some, intK_int, hE _ _ (by unfold kindE; rw [hkb]; cases seqB kind outS <;> rfl) (by unfold outLM; simp only [hlt]; rfl)]
          exact fin
      · rw [Bool.not_true, ifK_false, f28, optK_some, intK_int]
        cases hlt : decide (reach < 0)
        · rw [ifK_false, f28, optK_some, intK_int, f23, optK_some, intK_int, hE _ _ (by unfold kindE; rw [hkb]; cases seqB kind outS <;> rfl) (by unfold outLM; simp only [hlt]; rfl)]
          exact fin
        · rw [ifK_true, f28, optK_some, intK_int, f23, optK_some, intK_int, hE _ _ (by unfold kindE; rw [hkb]; cases seqB kind outS <;> rfl) (by unfold outLM; simp only [hlt]; rfl)]
          exact fin
    rw [f15, optK_some, rd_hole, f16, optK_some, boolK_bool, hs, Bool.not_true, ifK_false]
    cases decide (((ByteArray.size kind) : Int) > 60)
    · rw [ifK_false]
      cases decide (reach > 6)
      · rw [ifK_false]; exact mid
      · rw [ifK_true]
        cases decide (reach ≤ 20)
        · rw [ifK_false]; exact mid
        · rw [ifK_true, f17, optK_some, boolK_bool]
    · rw [ifK_true, f17, optK_some, boolK_bool]
end Go.Pd
end
