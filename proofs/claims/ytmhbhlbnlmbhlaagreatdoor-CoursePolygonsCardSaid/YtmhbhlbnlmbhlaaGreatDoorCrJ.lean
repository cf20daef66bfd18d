/-
  Chapter 2: what CoursePolygons makes of open arguments (printed by the desk tool, each proved by the kernel).
  Chapter 2: CoursePolygons holds of all lists and places, if the fixed examples do.
-/
import Derived.Test.YtmhbhlbnlmbhlaaGreatDoorCrA
import Derived.KernelRfl
import Derived.Test.YtmhbhlbnlmbhlaaGreatDoorCrD
section
namespace Go.Pd
open Go Go.Proofs
set_option maxRecDepth 100000
def N9 : NTab := fun p => match p with
  | 127 => some { keep := [0, 4, 5, 7, 8], kl := [], ren := [(4, 4), (5, 5), (8, 8)] }
  | 16383 => some { keep := [0, 4, 7, 9, 10, 11, 12, 13, 14, 15, 16, 17, 18, 19], kl := [5, 8], ren := [(4, 4), (5, 5), (8, 8)] }
  | 32767 => some { keep := [0, 7, 9, 10, 11, 12, 13, 14, 15, 16, 17, 18, 19], kl := [4, 5, 8], ren := [(4, 4), (5, 5), (8, 8)] }
  | 65535 => some { keep := [7, 9, 10, 11, 12, 13, 14, 15, 16, 17, 18, 19], kl := [4, 5, 8], ren := [(4, 4), (5, 5), (8, 8)] }
  | _ => none
noncomputable def F9_65535 (call : FuncId → List D → Option D) (L : Nat) (C : Nat → Nat) (vbad : Int) (vt : Int) (ve1 : Int) (vc : Int) (ve2 : Int) (vn : Int) (ve3 : Int) (vone : Int) (vtwo : Int) (vturn : Int) (vin : Int) (vtwice : Int) : Option D :=
  cutAt (TEf call L C) O0 N9 FinM.canon Tryz.f9 [true, true, true, true, true, true, true, true, true, true, true, true, true, true, true] []  (C 65535) (St.mk [J, J, J, J, J, J, J, D.int IntKind.i64 vbad, J, D.int IntKind.i64 vt, D.int IntKind.i64 ve1, D.int IntKind.i64 vc, D.int IntKind.i64 ve2, D.int IntKind.i64 vn, D.int IntKind.i64 ve3, D.int IntKind.i64 vone, D.int IntKind.i64 vtwo, D.int IntKind.i64 vturn, D.int IntKind.i64 vin, D.int IntKind.i64 vtwice, J, J, J, J, J, J, J, J, J, J, J, J, J, J, J, J, J, J, J, J, J, J, J, J, J, J, J, J, J, J, J, J, J, J, J, J, J, J, J, J, J, J, J, J, J, J, J, J, J, J, J, J, J, J, J, J, J, J, J, J, J, J, J, J, J, J, J, J, J, J, J, J, J, J, J, J, J, J, J, J, J, J, J, J, J, J, J, J, J, J, J, J, J] [Z, Z, Z, Z, Z, Z, Z, Z, Z, Z, Z, Z, Z, Z, Z, Z, Z, Z, Z, Z, Z, Z, Z, Z, Z, Z, Z, Z, Z, Z, Z, Z, Z, Z, Z, Z, Z, Z, Z, Z, Z, Z, Z, Z, Z, Z, Z, Z, Z, Z, Z, Z, Z, Z, Z, Z, Z, Z, Z, Z, Z, Z, Z, Z, Z, Z, Z, Z, Z, Z, Z, Z, Z, Z, Z, Z, Z, Z, Z, Z, Z, Z, Z, Z, Z, Z, Z, Z, Z, Z, Z, Z, Z, Z, Z, Z, Z, Z, Z, Z, Z, Z, Z, Z, Z, Z, Z, Z, Z, Z, Z, Z, Z])
noncomputable def F9_32767 (call : FuncId → List D → Option D) (L : Nat) (C : Nat → Nat) (vl_f : Bool) (vl_n : Nat) (vl_c : List D) (vbad : Int) (vt : Int) (ve1 : Int) (vc : Int) (ve2 : Int) (vn : Int) (ve3 : Int) (vone : Int) (vtwo : Int) (vturn : Int) (vin : Int) : Option D :=
  cutAt (TEf call L C) O0 N9 FinM.canon Tryz.f9 [true, true, true, true, true, true, true, true, true, true, true, true, true, true] []  (C 32767) (St.mk [D.slc vl_f vl_n vl_c, J, J, J, J, J, J, D.int IntKind.i64 vbad, J, D.int IntKind.i64 vt, D.int IntKind.i64 ve1, D.int IntKind.i64 vc, D.int IntKind.i64 ve2, D.int IntKind.i64 vn, D.int IntKind.i64 ve3, D.int IntKind.i64 vone, D.int IntKind.i64 vtwo, D.int IntKind.i64 vturn, D.int IntKind.i64 vin, D.int IntKind.i64 0, J, J, J, J, J, J, J, J, J, J, J, J, J, J, J, J, J, J, J, J, J, J, J, J, J, J, J, J, J, J, J, J, J, J, J, J, J, J, J, J, J, J, J, J, J, J, J, J, J, J, J, J, J, J, J, J, J, J, J, J, J, J, J, J, J, J, J, J, J, J, J, J, J, J, J, J, J, J, J, J, J, J, J, J, J, J, J, J, J, J, J, J, J] [Z, Z, Z, Z, Z, Z, Z, Z, Z, Z, Z, Z, Z, Z, Z, Z, Z, Z, Z, Z, Z, Z, Z, Z, Z, Z, Z, Z, Z, Z, Z, Z, Z, Z, Z, Z, Z, Z, Z, Z, Z, Z, Z, Z, Z, Z, Z, Z, Z, Z, Z, Z, Z, Z, Z, Z, Z, Z, Z, Z, Z, Z, Z, Z, Z, Z, Z, Z, Z, Z, Z, Z, Z, Z, Z, Z, Z, Z, Z, Z, Z, Z, Z, Z, Z, Z, Z, Z, Z, Z, Z, Z, Z, Z, Z, Z, Z, Z, Z, Z, Z, Z, Z, Z, Z, Z, Z, Z, Z, Z, Z, Z, Z])
noncomputable def F9_16383 (call : FuncId → List D → Option D) (L : Nat) (C : Nat → Nat) (vl_f : Bool) (vl_n : Nat) (vl_c : List D) (vbad : Int) (vp0 : Int) (vp1 : Int) (vt : Int) (ve1 : Int) (vc : Int) (ve2 : Int) (vn : Int) (ve3 : Int) (vone : Int) (vtwo : Int) (vturn : Int) : Option D :=
  cutAt (TEf call L C) O0 N9 FinM.canon Tryz.f9 [true, true, true, true, true, true, true, true, true, true, true, true, true] []  (C 16383) (St.mk [D.slc vl_f vl_n vl_c, J, J, J, D.loc 4 0 0, J, J, D.int IntKind.i64 vbad, J, D.int IntKind.i64 vt, D.int IntKind.i64 ve1, D.int IntKind.i64 vc, D.int IntKind.i64 ve2, D.int IntKind.i64 vn, D.int IntKind.i64 ve3, D.int IntKind.i64 vone, D.int IntKind.i64 vtwo, D.int IntKind.i64 vturn, D.int IntKind.i64 0, D.int IntKind.i64 0, J, J, J, J, J, J, J, J, J, J, J, J, J, J, J, J, J, J, J, J, J, J, J, J, J, J, J, J, J, J, J, J, J, J, J, J, J, J, J, J, J, J, J, J, J, J, J, J, J, J, J, J, J, J, J, J, J, J, J, J, J, J, J, J, J, J, J, J, J, J, J, J, J, J, J, J, J, J, J, J, J, J, J, J, J, J, J, J, J, J, J, J, J] [Z, Z, Z, Z, (1, some (Ob.box [D.int IntKind.i64 vp0, D.int IntKind.i64 vp1] false)), Z, Z, Z, Z, Z, Z, Z, Z, Z, Z, Z, Z, Z, Z, Z, Z, Z, Z, Z, Z, Z, Z, Z, Z, Z, Z, Z, Z, Z, Z, Z, Z, Z, Z, Z, Z, Z, Z, Z, Z, Z, Z, Z, Z, Z, Z, Z, Z, Z, Z, Z, Z, Z, Z, Z, Z, Z, Z, Z, Z, Z, Z, Z, Z, Z, Z, Z, Z, Z, Z, Z, Z, Z, Z, Z, Z, Z, Z, Z, Z, Z, Z, Z, Z, Z, Z, Z, Z, Z, Z, Z, Z, Z, Z, Z, Z, Z, Z, Z, Z, Z, Z, Z, Z, Z, Z, Z, Z])
noncomputable def F9_127 (call : FuncId → List D → Option D) (L : Nat) (C : Nat → Nat) (vl_f : Bool) (vl_n : Nat) (vl_c : List D) (vp0 : Int) (vp1 : Int) (vq0 : Int) (vq1 : Int) (vbad : Int) (va : Int) (va1 : Int) : Option D :=
  cutAt (TEf call L C) O0 N9 FinM.canon Tryz.f9 [true, true, true, true, true, true] []  (C 127) (St.mk [D.slc vl_f vl_n vl_c, J, J, J, D.loc 4 0 0, D.loc 5 0 0, J, D.int IntKind.i64 vbad, D.loc 8 0 0, J, J, J, J, J, J, J, J, J, J, J, J, J, J, J, J, J, J, J, J, J, J, J, J, J, J, J, J, J, J, J, J, J, J, J, J, J, J, J, J, J, J, J, J, J, J, J, J, J, J, J, J, J, J, J, J, J, J, J, J, J, J, J, J, J, J, J, J, J, J, J, J, J, J, J, J, J, J, J, J, J, J, J, J, J, J, J, J, J, J, J, J, J, J, J, J, J, J, J, J, J, J, J, J] [Z, Z, Z, Z, (1, some (Ob.box [D.int IntKind.i64 vp0, D.int IntKind.i64 vp1] false)), (1, some (Ob.box [D.int IntKind.i64 vq0, D.int IntKind.i64 vq1] false)), Z, Z, (1, some (Ob.box [D.int IntKind.i64 va, D.int IntKind.i64 va1] false)), Z, Z, Z, Z, Z, Z, Z, Z, Z, Z, Z, Z, Z, Z, Z, Z, Z, Z, Z, Z, Z, Z, Z, Z, Z, Z, Z, Z, Z, Z, Z, Z, Z, Z, Z, Z, Z, Z, Z, Z, Z, Z, Z, Z, Z, Z, Z, Z, Z, Z, Z, Z, Z, Z, Z, Z, Z, Z, Z, Z, Z, Z, Z, Z, Z, Z, Z, Z, Z, Z, Z, Z, Z, Z, Z, Z, Z, Z, Z, Z, Z, Z, Z, Z, Z, Z, Z, Z, Z, Z, Z, Z, Z, Z, Z, Z, Z, Z, Z, Z, Z, Z, Z, Z])
theorem F9_65535_eq (call : FuncId → List D → Option D) (L : Nat) (C : Nat → Nat) (vbad : Int) (vt : Int) (ve1 : Int) (vc : Int) (ve2 : Int) (vn : Int) (ve3 : Int) (vone : Int) (vtwo : Int) (vturn : Int) (vin : Int) (vtwice : Int) (hC : ∀ t, C t = 1) : F9_65535 call L C  vbad vt ve1 vc ve2 vn ve3 vone vtwo vturn vin (vtwice) =
  (ifK (ve1 == vone)
    (ifK (vt == vturn)
      (ifK (ve2 == vtwo)
        (ifK (vc == vin)
          (ifK (ve3 == vbad)
            (ifK (vn == vtwice)
              (optK (call 17 []) fun r_16 =>
                (boolK (r_16) fun b_2 =>
                (some (D.bool b_2))))
              (some (D.bool false)))
            (some (D.bool false)))
          (some (D.bool false)))
        (some (D.bool false)))
      (some (D.bool false)))
    (some (D.bool false))) := by
  unfold F9_65535
  rw [hC]
  kernel_rfl
theorem F9_32767_eq (call : FuncId → List D → Option D) (L : Nat) (C : Nat → Nat) (vl_f : Bool) (vl_n : Nat) (vl_c : List D) (vbad : Int) (vt : Int) (ve1 : Int) (vc : Int) (ve2 : Int) (vn : Int) (ve3 : Int) (vone : Int) (vtwo : Int) (vturn : Int) (vin : Int) (hC : ∀ t, C t = 1) : F9_32767 call L C  vl_f vl_n vl_c vbad vt ve1 vc ve2 vn ve3 vone vtwo vturn (vin) =
  (ifK (vbad == 0)
    (optK (call 55 [D.slc vl_f vl_n vl_c]) fun r_15 =>
      (intK IntKind.i64 (r_15) fun x_18 =>
      (F9_65535 call L C vbad vt ve1 vc ve2 vn ve3 vone vtwo vturn vin (x_18))))
    (F9_65535 call L C vbad vt ve1 vc ve2 vn ve3 vone vtwo vturn vin (0))) := by
  unfold F9_32767
  rw [hC]
  kernel_rfl
theorem F9_16383_eq (call : FuncId → List D → Option D) (L : Nat) (C : Nat → Nat) (vl_f : Bool) (vl_n : Nat) (vl_c : List D) (vbad : Int) (vp0 : Int) (vp1 : Int) (vt : Int) (ve1 : Int) (vc : Int) (ve2 : Int) (vn : Int) (ve3 : Int) (vone : Int) (vtwo : Int) (vturn : Int) (hC : ∀ t, C t = 1) : F9_16383 call L C  vl_f vl_n vl_c vbad vp0 vp1 (vt) (ve1) (vc) (ve2) (vn) (ve3) (vone) (vtwo) (vturn) =
  (ifK (vtwo == 0)
    (optK (call 54 [D.slc vl_f vl_n vl_c, D.agg [D.int IntKind.i64 vp0, D.int IntKind.i64 vp1]]) fun r_14 =>
      (intK IntKind.i64 (r_14) fun x_17 =>
      (F9_32767 call L C vl_f vl_n vl_c vbad vt ve1 vc ve2 vn ve3 vone vtwo vturn (x_17))))
    (F9_32767 call L C vl_f vl_n vl_c vbad vt ve1 vc ve2 vn ve3 vone vtwo vturn (0))) := by
  unfold F9_16383
  rw [hC]
  kernel_rfl
theorem F9_127_eq (call : FuncId → List D → Option D) (L : Nat) (C : Nat → Nat) (vl_f : Bool) (vl_n : Nat) (vl_c : List D) (vp0 : Int) (vp1 : Int) (vq0 : Int) (vq1 : Int) (vbad : Int) (va : Int) (va1 : Int) (hC : ∀ t, C t = 1) : F9_127 call L C  vl_f vl_n vl_c vp0 vp1 vq0 vq1 (vbad) (va) (va1) =
  (optK (call 51 [D.agg [D.int IntKind.i64 va, D.int IntKind.i64 va1], D.agg [D.int IntKind.i64 vp0, D.int IntKind.i64 vp1], D.agg [D.int IntKind.i64 vq0, D.int IntKind.i64 vq1]]) fun r_4 =>
    (tupK (r_4) 2 fun c =>
    (cellK (c) (0) fun d_2 =>
    (intK IntKind.i64 (d_2) fun x_4 =>
    (cellK (c) (1) fun d_3 =>
    (intK IntKind.i64 (d_3) fun x_5 =>
    (optK (call 45 [D.slc vl_f vl_n vl_c, D.agg [D.int IntKind.i64 vp0, D.int IntKind.i64 vp1]]) fun r_5 =>
      (tupK (r_5) 2 fun c_1 =>
      (cellK (c_1) (0) fun d_4 =>
      (intK IntKind.i64 (d_4) fun x_6 =>
      (cellK (c_1) (1) fun d_5 =>
      (intK IntKind.i64 (d_5) fun x_7 =>
      (optK (call 52 [D.slc vl_f vl_n vl_c]) fun r_6 =>
        (tupK (r_6) 2 fun c_2 =>
        (cellK (c_2) (0) fun d_6 =>
        (intK IntKind.i64 (d_6) fun x_8 =>
        (cellK (c_2) (1) fun d_7 =>
        (intK IntKind.i64 (d_7) fun x_9 =>
        (optK (call 24 [D.agg [D.int IntKind.i64 va, D.int IntKind.i64 va1]]) fun r_7 =>
          (intK IntKind.i64 (r_7) fun x_10 =>
          (optK (call 24 [D.agg [D.int IntKind.i64 vp0, D.int IntKind.i64 vp1]]) fun r_8 =>
            (intK IntKind.i64 (r_8) fun x_11 =>
            (optK (call 24 [D.agg [D.int IntKind.i64 vq0, D.int IntKind.i64 vq1]]) fun r_9 =>
              (intK IntKind.i64 (r_9) fun x_12 =>
              (optK (call 23 [D.slc true 3 [D.int IntKind.i64 x_10, D.int IntKind.i64 x_11, D.int IntKind.i64 x_12]]) fun r_10 =>
                (intK IntKind.i64 (r_10) fun x_13 =>
                (optK (call 24 [D.agg [D.int IntKind.i64 vp0, D.int IntKind.i64 vp1]]) fun r_11 =>
                  (intK IntKind.i64 (r_11) fun x_14 =>
                  (optK (call 23 [D.slc true 2 [D.int IntKind.i64 vbad, D.int IntKind.i64 x_14]]) fun r_12 =>
                    (intK IntKind.i64 (r_12) fun x_15 =>
                    (ifK (x_13 == 0)
                      (optK (call 53 [D.agg [D.int IntKind.i64 va, D.int IntKind.i64 va1], D.agg [D.int IntKind.i64 vp0, D.int IntKind.i64 vp1], D.agg [D.int IntKind.i64 vq0, D.int IntKind.i64 vq1]]) fun r_13 =>
                        (intK IntKind.i64 (r_13) fun x_16 =>
                        (F9_16383 call L C vl_f vl_n vl_c vbad vp0 vp1 (x_4) (x_5) (x_6) (x_7) (x_8) (x_9) (x_13) (x_15) (x_16))))
                      (F9_16383 call L C vl_f vl_n vl_c vbad vp0 vp1 (x_4) (x_5) (x_6) (x_7) (x_8) (x_9) (x_13) (x_15) (0))))))))))))))))))))))))))))))))) := by
  unfold F9_127
  rw [hC]
  kernel_rfl
theorem F9_eq (call : FuncId → List D → Option D) (L : Nat) (C : Nat → Nat) (vl_f : Bool) (vl_n : Nat) (vl_c : List D) (vp0 : Int) (vp1 : Int) (vq0 : Int) (vq1 : Int) : evFnT (TEf call L C) O0 N9 FinM.canon Tryz.f9 [D.slc vl_f vl_n vl_c, D.agg [D.int IntKind.i64 vp0, D.int IntKind.i64 vp1], D.agg [D.int IntKind.i64 vq0, D.int IntKind.i64 vq1]] =
  (optK (call 48 [D.slc vl_f vl_n vl_c]) fun r =>
    (boolK (r) fun b =>
    (ifK (!b)
      (optK (call 17 []) fun r_1 =>
        (boolK (r_1) fun b_1 =>
        (some (D.bool b_1))))
      (optK (call 49 [D.slc vl_f vl_n vl_c]) fun r_2 =>
        (intK IntKind.i64 (r_2) fun x =>
        (optK (call 50 [D.slc vl_f vl_n vl_c]) fun r_3 =>
          (intK IntKind.i64 (r_3) fun x_1 =>
          (ifK (x_1 != x)
            (some (D.bool false))
            (ifK (decide ((vl_n : Int) > 0))
              (chkK (decide ((0 : Int) ≤ 0 ∧ 0 < (vl_n : Int)))
                (cellK (vl_c) (0) fun d =>
                (intK IntKind.i64 (d) fun x_2 =>
                (cellK (vl_c) (1) fun d_1 =>
                (intK IntKind.i64 (d_1) fun x_3 =>
                (F9_127 call L C vl_f vl_n vl_c vp0 vp1 vq0 vq1 (x) (x_2) (x_3)))))))
              (F9_127 call L C vl_f vl_n vl_c vp0 vp1 vq0 vq1 (x) (0) (0))))))))))) := by kernel_rfl

end Go.Pd
end

section
namespace Go.Pd
open Go Go.Proofs Go.RowKit
set_option maxRecDepth 100000

def fewB (n : Nat) : Bool := ifK (decide ((n : Int) ≤ 8)) true (ifK (decide ((n : Int) > 64)) (decide ((n : Int) ≤ 67)) false)
theorem ok48 {f : Bool} {n : Nat} {c : List D} : OK2 48 [.slc f n c] (.bool (fewB n)) := by
  refine fnT none_ok Tryz.func48 (ord := O0) (N := N0) (by kernel_rfl) ((F48_eq _ _ _ _ _ _).trans ?_)
  unfold fewB
  cases decide ((n : Int) ≤ 8)
  · cases decide ((n : Int) > 64) <;> rfl
  · rfl
theorem fewB_le {n : Nat} (h : fewB n = true) : n ≤ 67 := by
  unfold fewB at h
  rw [ifK_eq] at h
  split at h
  · rename_i h1; simp at h1; omega
  · rw [ifK_eq] at h
    split at h
    · simp at h; omega
    · cases h
theorem beq_self_i (x : Int) : (x == x) = true := by simp
/-! The calls behind a check of the corner that stands first. -/
theorem t9a {B : FuncId → List D → Option D} (h17 : callOf B 17 [] = some (.bool true)) (bad x1 x2 x3 x5 x7 : Int) : F9_65535 (callOf B) LL C1 bad x1 x2 x3 x5 x7 bad x2 x5 x1 x3 x7 = some (.bool true) := by
  rw [F9_65535_eq _ _ _ _ _ _ _ _ _ _ _ _ _ _ _ c1]
  simp only [beq_self_i, ifK_true, h17, optK_some, boolK_bool]
theorem t9b {f : Bool} {n : Nat} {c : List D} {B : FuncId → List D → Option D} {bad tw tr : Int} (h17 : callOf B 17 [] = some (.bool true)) (h55 : callOf B 55 [.slc f n c] = some (.int .i64 tr)) (htr : bad = 0 → tr = tw) (x1 x2 x3 x5 : Int) :
    F9_32767 (callOf B) LL C1 f n c bad x1 x2 x3 x5 (ifK (bad != 0) 0 tw) bad x2 x5 x1 x3 = some (.bool true) := by
  rw [F9_32767_eq _ _ _ _ _ _ _ _ _ _ _ _ _ _ _ _ _ c1, h55]
  simp only [optK_some, intK_int]
  by_cases hz : bad = 0
  · rw [htr hz, show (bad == 0) = true by simpa using hz, show (bad != 0) = false by simpa using hz, ifK_true, ifK_false]
    exact t9a h17 bad x1 x2 x3 x5 _
  · rw [show (bad == 0) = false by simpa using hz, show (bad != 0) = true by simpa using hz, ifK_true, ifK_false]
    exact t9a h17 bad x1 x2 x3 x5 0
theorem t9c {f : Bool} {n : Nat} {c : List D} {p : Pt} {B : FuncId → List D → Option D} {bad tw tr e2 cc cr : Int} (h17 : callOf B 17 [] = some (.bool true)) (h55 : callOf B 55 [.slc f n c] = some (.int .i64 tr)) (htr : bad = 0 → tr = tw)
    (h54 : callOf B 54 [.slc f n c, ptD p] = some (.int .i64 cr)) (hcr : e2 = 0 → cr = cc) (x1 x2 : Int) : F9_16383 (callOf B) LL C1 f n c bad p.1 p.2 x1 x2 (ifK (e2 != 0) 0 cc) e2 (ifK (bad != 0) 0 tw) bad x2 e2 x1 = some (.bool true) := by
  have h54' : callOf B 54 [.slc f n c, .agg [.int .i64 p.1, .int .i64 p.2]] = some (.int .i64 cr) := h54
  rw [F9_16383_eq _ _ _ _ _ _ _ _ _ _ _ _ _ _ _ _ _ _ c1, h54']
  simp only [optK_some, intK_int]
  by_cases hz : e2 = 0
  · rw [hcr hz, show (e2 == 0) = true by simpa using hz, show (e2 != 0) = false by simpa using hz, ifK_true, ifK_false]
    exact t9b h17 h55 htr x1 x2 _ _
  · rw [show (e2 == 0) = false by simpa using hz, show (e2 != 0) = true by simpa using hz, ifK_true, ifK_false]
    exact t9b h17 h55 htr x1 x2 _ _
theorem tup_errOr {α : Type} (e x : Int) (k : Int → Int → Option α) : (tupK (errOr e x) 2 fun c => cellK c 0 fun d => intK .i64 d fun a => cellK c 1 fun d' => intK .i64 d' fun b => k a b) = k (ifK (e != 0) 0 x) e := rfl
theorem ok9r {f : Bool} {n : Nat} {c : List D} {p q a : Pt} {B : FuncId → List D → Option D} {bad e1 t e2 cc tw cr tr xa xp xq : Int}
    (h17 : callOf B 17 [] = some (.bool true)) (h51 : callOf B 51 [ptD a, ptD p, ptD q] = some (errOr e1 t)) (h45 : callOf B 45 [.slc f n c, ptD p] = some (errOr e2 cc)) (h52 : callOf B 52 [.slc f n c] = some (errOr bad tw))
    (ha : callOf B 24 [ptD a] = some (.int .i64 xa)) (hp : callOf B 24 [ptD p] = some (.int .i64 xp)) (hq : callOf B 24 [ptD q] = some (.int .i64 xq))
    (h23a : callOf B 23 [.slc true 3 [.int .i64 xa, .int .i64 xp, .int .i64 xq]] = some (.int .i64 e1)) (h23b : callOf B 23 [.slc true 2 [.int .i64 bad, .int .i64 xp]] = some (.int .i64 e2))
    (h53 : callOf B 53 [ptD a, ptD p, ptD q] = some (.int .i64 t)) (h54 : callOf B 54 [.slc f n c, ptD p] = some (.int .i64 cr)) (h55 : callOf B 55 [.slc f n c] = some (.int .i64 tr)) (hcr : e2 = 0 → cr = cc) (htr : bad = 0 → tr = tw) :
    F9_127 (callOf B) LL C1 f n c p.1 p.2 q.1 q.2 bad a.1 a.2 = some (.bool true) := by
  rw [F9_127_eq _ _ _ _ _ _ _ _ _ _ _ _ _ c1, h51, optK_some, tup_errOr, h45, optK_some, tup_errOr, h52, optK_some, tup_errOr, ha, optK_some, intK_int, hp, optK_some, intK_int, hq, optK_some, intK_int, h23a, optK_some, intK_int, optK_some, intK_int, h23b, optK_some, intK_int, h53, optK_some, intK_int]
  by_cases hz : e1 = 0
  · rw [show (e1 == 0) = true by simpa using hz, show (e1 != 0) = false by simpa using hz, ifK_true, ifK_false]
    exact t9c h17 h55 htr h54 hcr t e1
  · rw [show (e1 == 0) = false by simpa using hz, show (e1 != 0) = true by simpa using hz, ifK_true, ifK_false]
    exact t9c h17 h55 htr h54 hcr 0 e1
theorem firstZ2 (x y : Int) : firstZ [x, y] = ifK (x != 0) x (ifK (y != 0) y 0) := rfl
theorem first2_zero {x y : Int} (h : firstZ [x, y] = 0) : x = 0 ∧ y = 0 := by
  rw [firstZ2] at h
  by_cases hx : x = 0
  · rw [show (x != 0) = false by simpa using hx, ifK_false] at h
    by_cases hy : y = 0
    · exact ⟨hx, hy⟩
    · rw [show (y != 0) = true by simpa using hy, ifK_true] at h
      exact absurd h hy
  · rw [show (x != 0) = true by simpa using hx, ifK_true] at h
    exact absurd h hx
theorem first_out3 (a p q : Pt) : firstZ [ifK (outP a) 3 0, ifK (outP p) 3 0, ifK (outP q) 3 0] = ifK ([a, p, q].any outP) 3 0 := by
  rw [show [a, p, q].any outP = (outP a || (outP p || (outP q || false))) by simp]
  generalize outP a = x
  generalize outP p = y
  generalize outP q = z
  cases x <;> cases y <;> cases z <;> rfl
theorem out_zero {p : Pt} (h : ifK (outP p) (3 : Int) 0 = 0) : outP p = false := by
  cases hp : outP p
  · rfl
  · rw [hp] at h; cases h
theorem okf9 : okFn Tryz.prog O0 Tryz.f9 = true := by kernel_rfl
theorem ok9 (h17 : OK2 17 [] (.bool true)) {f : Bool} (l : List Pt) (p q : Pt) : OK2 9 [.slc f l.length (ptsC l), ptD p, ptD q] (.bool true) := by
  cases hf : fewB l.length
  · obtain ⟨B, hb, e48, e17, _⟩ := exF [one 48 [.slc f l.length (ptsC l)] (.bool (fewB l.length)), one 17 [] (.bool true)] ⟨one_good ok48 rfl, one_good h17 rfl, trivial⟩ rfl
    refine fnT hb Tryz.func9 (ord := O0) (N := N9) okf9 ((F9_eq _ _ _ _ _ _ p.1 p.2 q.1 q.2).trans ?_)
    have e1 : callOf B 48 [.slc f l.length (ptsC l)] = _ := e48 ()
    have e2 : callOf B 17 [] = _ := e17 ()
    rw [e1]
    show optK (some (D.bool (fewB l.length))) _ = _
    rw [optK_some, boolK_bool, hf, Bool.not_false, ifK_true, e2]
    show optK (some (D.bool true)) _ = _
    rw [optK_some, boolK_bool]
  · have hl : l.length ≤ 1000 := by have := fewB_le hf; omega
    obtain ⟨B, hb, e48, e17, e49, e50, e51, e45, e52, e24, e23, e53, e54, e55, _⟩ := exF [one 48 [.slc f l.length (ptsC l)] (.bool (fewB l.length)), one 17 [] (.bool true), one 49 [.slc f l.length (ptsC l)] (.int .i64 (refErr l)), one 50 [.slc f l.length (ptsC l)] (.int .i64 (polErr l)),
      famPPP 51 fun a b c => errOr (ifK ([a, b, c].any outP) 3 0) (trnW a b c), one 45 [.slc f l.length (ptsC l), ptD p] (errOr (firstZ [polErr l, ifK (outP p) 3 0]) (conGo p (sdL l) (-1))), one 52 [.slc f l.length (ptsC l)] (errOr (polErr l) (absW (twiGo (sdL l) 0))),
      famP 24 fun p => .int .i64 (ifK (outP p) 3 0), famFi 23, famPPP 53 fun a b c => .int .i64 (trnW a b c), one 54 [.slc f l.length (ptsC l), ptD p] (.int .i64 (conR p (sdL l) false)), one 55 [.slc f l.length (ptsC l)] (.int .i64 (absW (twiR (sdL l) 0)))]
      ⟨one_good ok48 rfl, one_good h17 rfl, one_good (ok49 l hl) rfl, one_good (ok50 l hl) rfl, famPPP_good ok51 (fun _ _ _ => rfl), one_good (ok45 l p hl) rfl, one_good (ok52 l hl) rfl, famP_good ok24 (fun _ => rfl), famFi_good (fun l hl => ok23 l hl) (fun _ _ => rfl), famPPP_good ok53 (fun _ _ _ => rfl), one_good (ok54 l p hl) rfl, one_good (ok55 l hl) rfl, trivial⟩ rfl
    refine fnT hb Tryz.func9 (ord := O0) (N := N9) okf9 ((F9_eq _ _ _ _ _ _ p.1 p.2 q.1 q.2).trans ?_)
    have f1 : callOf B 48 [.slc f l.length (ptsC l)] = _ := e48 ()
    have f2 : callOf B 49 [.slc f l.length (ptsC l)] = _ := e49 ()
    have f3 : callOf B 50 [.slc f l.length (ptsC l)] = _ := e50 ()
    have main : ∀ a : Pt, F9_127 (callOf B) LL C1 f l.length (ptsC l) p.1 p.2 q.1 q.2 (polErr l) a.1 a.2 = some (.bool true) := fun a => by
      have g23 : callOf B 23 [.slc true 3 [.int .i64 (ifK (outP a) 3 0), .int .i64 (ifK (outP p) 3 0), .int .i64 (ifK (outP q) 3 0)]] = some (.int .i64 (firstZ [ifK (outP a) 3 0, ifK (outP p) 3 0, ifK (outP q) 3 0])) := e23 ⟨[ifK (outP a) 3 0, ifK (outP p) 3 0, ifK (outP q) 3 0], by simp⟩
      rw [first_out3] at g23
      exact ok9r (e17 ()) (e51 (a, p, q)) (e45 ()) (e52 ()) (e24 a) (e24 p) (e24 q) g23 (e23 ⟨[polErr l, ifK (outP p) 3 0], by simp⟩) (e53 (a, p, q)) (e54 ()) (e55 ())
        (fun h => (con_same (polErr_zero (first2_zero h).1).2.2.1 (out_zero (first2_zero h).2)).symm) (fun _ => by rw [twi_same])
    have f1' : callOf B 48 [.slc f l.length (ptsC l)] = some (.bool (fewB l.length)) := f1
    have f2' : callOf B 49 [.slc f l.length (ptsC l)] = some (.int .i64 (refErr l)) := f2
    have f3' : callOf B 50 [.slc f l.length (ptsC l)] = some (.int .i64 (polErr l)) := f3
    rw [f1', optK_some, boolK_bool, hf, Bool.not_true, ifK_false, f2', optK_some, intK_int, f3', optK_some, intK_int, poly_same, show (refErr l != refErr l) = false by simp, ifK_false]
    rw [poly_same] at main
    generalize refErr l = z at main ⊢
    cases l with
    | nil =>
      rw [show decide ((([] : List Pt).length : Int) > 0) = false from rfl, ifK_false]
      exact main (0, 0)
    | cons x r =>
      have c0 : ∀ k : D → Option D, cellK (ptsC (x :: r)) 0 k = k (.int .i64 x.1) := fun _ => rfl
      have c1' : ∀ k : D → Option D, cellK (ptsC (x :: r)) 1 k = k (.int .i64 x.2) := fun _ => rfl
      rw [show decide (((x :: r).length : Int) > 0) = true from decide_eq_true (by simp), ifK_true, show decide ((0 : Int) ≤ 0 ∧ 0 < ((x :: r).length : Int)) = true from decide_eq_true (by simp), chkK_true, c0, intK_int, c1', intK_int]
      exact main x
end Go.Pd
end
