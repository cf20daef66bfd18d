/-
  Chapter 5: what FormatAlone makes of open arguments (printed by the desk's tool, each proved by the kernel).
  FormatAlone is true of all holes and players.
-/
import Derived.Test.YtanpmgfaieekhaaGreatDoorFmA
import Derived.KernelRfl
import Derived.Test.YtanpmgfaieekhaaGreatDoorFmBl
section
namespace Go.Pd
open Go Go.Proofs
set_option maxRecDepth 100000
def N10 : NTab := fun p => match p with
  | 7 => some { keep := [0, 4, 5], kl := [7], ren := [(4, 4), (5, 5), (7, 7)] }
  | 1023 => some { keep := [0, 8, 12, 14], kl := [4, 5, 7], ren := [(4, 4), (5, 5), (7, 7)] }
  | 8186 => some { keep := [8, 12, 14, 160, 161], kl := [4, 5, 7], ren := [(4, 4), (5, 5), (7, 7)] }
  | 1047859 => some { keep := [8, 12, 14, 18, 160, 161], kl := [4, 5, 7], ren := [(4, 4), (5, 5), (7, 7)] }
  | _ => none
noncomputable def F10_1047859 (call : FuncId → List D → Option D) (L : Nat) (C : Nat → Nat) (n_11 : Nat) (vn_f : Bool) (vn_n : Nat) (vn_c : List D) (vg_f : Bool) (vg_n : Nat) (vg_c : List D) (vtwo_f : Bool) (vtwo_n : Nat) (vtwo_c : List D) (t161 : Int) (t160 : Int) : Option D :=
  cutAt (TEf call L C) O0 N10 FinM.canon Tryz.f10 [true, true, true, true, true, true, true, true, true, false, true, false, false, true, true, false, false, true, true] [n_11]  (C 1047859) (St.mk [J, J, J, J, J, J, J, J, D.slc vn_f vn_n vn_c, J, J, J, D.slc vg_f vg_n vg_c, J, D.slc vtwo_f vtwo_n vtwo_c, J, J, J, D.int IntKind.i64 t161, J, J, J, J, J, J, J, J, J, J, J, J, J, J, J, J, J, J, J, J, J, J, J, J, J, J, J, J, J, J, J, J, J, J, J, J, J, J, J, J, J, J, J, J, J, J, J, J, J, J, J, J, J, J, J, J, J, J, J, J, J, J, J, J, J, J, J, J, J, J, J, J, J, J, J, J, J, J, J, J, J, J, J, J, J, J, J, J, J, J, J, J, J, J, J, J, J, J, J, J, J, J, J, J, J, J, J, J, J, J, J, J, J, J, J, J, J, J, J, J, J, J, J, J, J, J, J, J, J, J, J, J, J, J, J, J, J, J, J, J, J, D.int IntKind.i64 t160, D.int IntKind.i64 t161, J, J, J, J, J, J, J, J, J, J, J, J, J, J, J, J, J, J, J, J, J, J, J, J, J, J, J, J, J, J, J, J, J, J, J, J, J, J, J, J, J, J, J, J, J, J, J, J, J, J, J, J, J, J, J, J] [Z, Z, Z, Z, Z, Z, Z, Z, Z, Z, Z, Z, Z, Z, Z, Z, Z, Z, Z, Z, Z, Z, Z, Z, Z, Z, Z, Z, Z, Z, Z, Z, Z, Z, Z, Z, Z, Z, Z, Z, Z, Z, Z, Z, Z, Z, Z, Z, Z, Z, Z, Z, Z, Z, Z, Z, Z, Z, Z, Z, Z, Z, Z, Z, Z, Z, Z, Z, Z, Z, Z, Z, Z, Z, Z, Z, Z, Z, Z, Z, Z, Z, Z, Z, Z, Z, Z, Z, Z, Z, Z, Z, Z, Z, Z, Z, Z, Z, Z, Z, Z, Z, Z, Z, Z, Z, Z, Z, Z, Z, Z, Z, Z, Z, Z, Z, Z, Z, Z, Z, Z, Z, Z, Z, Z, Z, Z, Z, Z, Z, Z, Z, Z, Z, Z, Z, Z, Z, Z, Z, Z, Z, Z, Z, Z, Z, Z, Z, Z, Z, Z, Z, Z, Z, Z, Z, Z, Z, Z, Z, Z, Z, Z, Z, Z, Z, Z, Z, Z, Z, Z, Z, Z, Z, Z, Z, Z, Z, Z, Z, Z, Z, Z, Z, Z, Z, Z, Z, Z, Z, Z, Z, Z, Z, Z, Z, Z, Z, Z, Z, Z, Z, Z, Z, Z, Z, Z, Z, Z, Z, Z, Z, Z, Z, Z, Z, Z, Z])
noncomputable def F10_8186 (call : FuncId → List D → Option D) (L : Nat) (C : Nat → Nat) (n_11 : Nat) (vn_f : Bool) (vn_n : Nat) (vn_c : List D) (vg_f : Bool) (vg_n : Nat) (vg_c : List D) (vtwo_f : Bool) (vtwo_n : Nat) (vtwo_c : List D) (t160 : Int) (t161 : Int) : Option D :=
  loopAt (TEf call L C) O0 N10 FinM.canon Tryz.f10 [true, true, true, true, true, true, true, true, true, false, true, false] []  n_11 (St.mk [J, J, J, J, J, J, J, J, D.slc vn_f vn_n vn_c, J, J, J, D.slc vg_f vg_n vg_c, J, D.slc vtwo_f vtwo_n vtwo_c, J, J, J, J, J, J, J, J, J, J, J, J, J, J, J, J, J, J, J, J, J, J, J, J, J, J, J, J, J, J, J, J, J, J, J, J, J, J, J, J, J, J, J, J, J, J, J, J, J, J, J, J, J, J, J, J, J, J, J, J, J, J, J, J, J, J, J, J, J, J, J, J, J, J, J, J, J, J, J, J, J, J, J, J, J, J, J, J, J, J, J, J, J, J, J, J, J, J, J, J, J, J, J, J, J, J, J, J, J, J, J, J, J, J, J, J, J, J, J, J, J, J, J, J, J, J, J, J, J, J, J, J, J, J, J, J, J, J, J, J, J, J, J, J, J, D.int IntKind.i64 t160, D.int IntKind.i64 t161, J, J, J, J, J, J, J, J, J, J, J, J, J, J, J, J, J, J, J, J, J, J, J, J, J, J, J, J, J, J, J, J, J, J, J, J, J, J, J, J, J, J, J, J, J, J, J, J, J, J, J, J, J, J, J, J] [Z, Z, Z, Z, Z, Z, Z, Z, Z, Z, Z, Z, Z, Z, Z, Z, Z, Z, Z, Z, Z, Z, Z, Z, Z, Z, Z, Z, Z, Z, Z, Z, Z, Z, Z, Z, Z, Z, Z, Z, Z, Z, Z, Z, Z, Z, Z, Z, Z, Z, Z, Z, Z, Z, Z, Z, Z, Z, Z, Z, Z, Z, Z, Z, Z, Z, Z, Z, Z, Z, Z, Z, Z, Z, Z, Z, Z, Z, Z, Z, Z, Z, Z, Z, Z, Z, Z, Z, Z, Z, Z, Z, Z, Z, Z, Z, Z, Z, Z, Z, Z, Z, Z, Z, Z, Z, Z, Z, Z, Z, Z, Z, Z, Z, Z, Z, Z, Z, Z, Z, Z, Z, Z, Z, Z, Z, Z, Z, Z, Z, Z, Z, Z, Z, Z, Z, Z, Z, Z, Z, Z, Z, Z, Z, Z, Z, Z, Z, Z, Z, Z, Z, Z, Z, Z, Z, Z, Z, Z, Z, Z, Z, Z, Z, Z, Z, Z, Z, Z, Z, Z, Z, Z, Z, Z, Z, Z, Z, Z, Z, Z, Z, Z, Z, Z, Z, Z, Z, Z, Z, Z, Z, Z, Z, Z, Z, Z, Z, Z, Z, Z, Z, Z, Z, Z, Z, Z, Z, Z, Z, Z, Z, Z, Z, Z, Z, Z, Z])
noncomputable def F10_1023 (call : FuncId → List D → Option D) (L : Nat) (C : Nat → Nat) (vh_f : Bool) (vh_n : Nat) (vh_c : List D) (vn_f : Bool) (vn_n : Nat) (vn_c : List D) (vg_f : Bool) (vg_n : Nat) (vg_c : List D) (vtwo_f : Bool) (vtwo_n : Nat) (vtwo_c : List D) : Option D :=
  cutAt (TEf call L C) O0 N10 FinM.canon Tryz.f10 [true, true, true, true, true, true, true, true, true] []  (C 1023) (St.mk [D.slc vh_f vh_n vh_c, J, J, J, J, J, J, J, D.slc vn_f vn_n vn_c, J, J, J, D.slc vg_f vg_n vg_c, J, D.slc vtwo_f vtwo_n vtwo_c, J, J, J, J, J, J, J, J, J, J, J, J, J, J, J, J, J, J, J, J, J, J, J, J, J, J, J, J, J, J, J, J, J, J, J, J, J, J, J, J, J, J, J, J, J, J, J, J, J, J, J, J, J, J, J, J, J, J, J, J, J, J, J, J, J, J, J, J, J, J, J, J, J, J, J, J, J, J, J, J, J, J, J, J, J, J, J, J, J, J, J, J, J, J, J, J, J, J, J, J, J, J, J, J, J, J, J, J, J, J, J, J, J, J, J, J, J, J, J, J, J, J, J, J, J, J, J, J, J, J, J, J, J, J, J, J, J, J, J, J, J, J, J, J, J, J, J, J, J, J, J, J, J, J, J, J, J, J, J, J, J, J, J, J, J, J, J, J, J, J, J, J, J, J, J, J, J, J, J, J, J, J, J, J, J, J, J, J, J, J, J, J, J, J, J, J, J, J, J, J, J, J, J] [Z, Z, Z, Z, Z, Z, Z, Z, Z, Z, Z, Z, Z, Z, Z, Z, Z, Z, Z, Z, Z, Z, Z, Z, Z, Z, Z, Z, Z, Z, Z, Z, Z, Z, Z, Z, Z, Z, Z, Z, Z, Z, Z, Z, Z, Z, Z, Z, Z, Z, Z, Z, Z, Z, Z, Z, Z, Z, Z, Z, Z, Z, Z, Z, Z, Z, Z, Z, Z, Z, Z, Z, Z, Z, Z, Z, Z, Z, Z, Z, Z, Z, Z, Z, Z, Z, Z, Z, Z, Z, Z, Z, Z, Z, Z, Z, Z, Z, Z, Z, Z, Z, Z, Z, Z, Z, Z, Z, Z, Z, Z, Z, Z, Z, Z, Z, Z, Z, Z, Z, Z, Z, Z, Z, Z, Z, Z, Z, Z, Z, Z, Z, Z, Z, Z, Z, Z, Z, Z, Z, Z, Z, Z, Z, Z, Z, Z, Z, Z, Z, Z, Z, Z, Z, Z, Z, Z, Z, Z, Z, Z, Z, Z, Z, Z, Z, Z, Z, Z, Z, Z, Z, Z, Z, Z, Z, Z, Z, Z, Z, Z, Z, Z, Z, Z, Z, Z, Z, Z, Z, Z, Z, Z, Z, Z, Z, Z, Z, Z, Z, Z, Z, Z, Z, Z, Z, Z, Z, Z, Z, Z, Z, Z, Z, Z, Z, Z, Z])
noncomputable def F10_7 (call : FuncId → List D → Option D) (L : Nat) (C : Nat → Nat) (vh_f : Bool) (vh_n : Nat) (vh_c : List D) (va0 : ByteArray) (va1_f : Bool) (va1_n : Nat) (va1_c : List D) (va2 : Int) (vb0 : ByteArray) (vb1_f : Bool) (vb1_n : Nat) (vb1_c : List D) (vb2 : Int) : Option D :=
  cutAt (TEf call L C) O0 N10 FinM.canon Tryz.f10 [true, true] []  (C 7) (St.mk [D.slc vh_f vh_n vh_c, J, J, J, D.loc 4 0 0, D.loc 5 0 0, J, J, J, J, J, J, J, J, J, J, J, J, J, J, J, J, J, J, J, J, J, J, J, J, J, J, J, J, J, J, J, J, J, J, J, J, J, J, J, J, J, J, J, J, J, J, J, J, J, J, J, J, J, J, J, J, J, J, J, J, J, J, J, J, J, J, J, J, J, J, J, J, J, J, J, J, J, J, J, J, J, J, J, J, J, J, J, J, J, J, J, J, J, J, J, J, J, J, J, J, J, J, J, J, J, J, J, J, J, J, J, J, J, J, J, J, J, J, J, J, J, J, J, J, J, J, J, J, J, J, J, J, J, J, J, J, J, J, J, J, J, J, J, J, J, J, J, J, J, J, J, J, J, J, J, J, J, J, J, J, J, J, J, J, J, J, J, J, J, J, J, J, J, J, J, J, J, J, J, J, J, J, J, J, J, J, J, J, J, J, J, J, J, J, J, J, J, J, J, J, J, J, J, J, J, J, J, J, J, J, J, J] [Z, Z, Z, Z, (1, some (Ob.box [D.str va0, D.slc va1_f va1_n va1_c, D.int IntKind.i64 va2] false)), (1, some (Ob.box [D.str vb0, D.slc vb1_f vb1_n vb1_c, D.int IntKind.i64 vb2] false)), Z, Z, Z, Z, Z, Z, Z, Z, Z, Z, Z, Z, Z, Z, Z, Z, Z, Z, Z, Z, Z, Z, Z, Z, Z, Z, Z, Z, Z, Z, Z, Z, Z, Z, Z, Z, Z, Z, Z, Z, Z, Z, Z, Z, Z, Z, Z, Z, Z, Z, Z, Z, Z, Z, Z, Z, Z, Z, Z, Z, Z, Z, Z, Z, Z, Z, Z, Z, Z, Z, Z, Z, Z, Z, Z, Z, Z, Z, Z, Z, Z, Z, Z, Z, Z, Z, Z, Z, Z, Z, Z, Z, Z, Z, Z, Z, Z, Z, Z, Z, Z, Z, Z, Z, Z, Z, Z, Z, Z, Z, Z, Z, Z, Z, Z, Z, Z, Z, Z, Z, Z, Z, Z, Z, Z, Z, Z, Z, Z, Z, Z, Z, Z, Z, Z, Z, Z, Z, Z, Z, Z, Z, Z, Z, Z, Z, Z, Z, Z, Z, Z, Z, Z, Z, Z, Z, Z, Z, Z, Z, Z, Z, Z, Z, Z, Z, Z, Z, Z, Z, Z, Z, Z, Z, Z, Z, Z, Z, Z, Z, Z, Z, Z, Z, Z, Z, Z, Z, Z, Z, Z, Z, Z, Z, Z, Z, Z, Z, Z, Z, Z, Z, Z, Z, Z, Z, Z, Z, Z, Z, Z, Z])
theorem F10_1047859_eq (call : FuncId → List D → Option D) (L : Nat) (C : Nat → Nat) (n_11 : Nat) (vn_f : Bool) (vn_n : Nat) (vn_c : List D) (vg_f : Bool) (vg_n : Nat) (vg_c : List D) (vtwo_f : Bool) (vtwo_n : Nat) (vtwo_c : List D) (t161 : Int) (t160 : Int) (hC : ∀ t, C t = 1) : F10_1047859 call L C n_11 vn_f vn_n vn_c vg_f vg_n vg_c vtwo_f vtwo_n vtwo_c t161 t160  =
  (chkK (decide (0 ≤ t161 ∧ t161 < (vn_n : Int)))
    (cellK (vn_c) (Int.toNat t161 * 2 + 1) fun d_14 =>
    (strK (d_14) fun s_2 =>
    (ifK (ByteArray.toList s_2 == ByteArray.toList (ByteArray.mk #[]))
      (chkK (decide (0 ≤ t161 ∧ t161 < (vtwo_n : Int)))
        (cellK (vtwo_c) (Int.toNat t161 * 2 + 1) fun d_15 =>
        (strK (d_15) fun s_3 =>
        (ifK (!ByteArray.toList s_3 == ByteArray.toList (ByteArray.mk #[]))
          (some (D.bool false))
          (chkK (decide (0 ≤ t161 ∧ t161 < (vtwo_n : Int)))
            (cellK (vtwo_c) (Int.toNat t161 * 2 + 0) fun d_16 =>
            (intK IntKind.i64 (d_16) fun x_9 =>
            (chkK (decide (0 ≤ t161 ∧ t161 < (vn_n : Int)))
              (cellK (vn_c) (Int.toNat t161 * 2 + 0) fun d_17 =>
              (intK IntKind.i64 (d_17) fun x_10 =>
              (ifK (decide (x_9 > x_10))
                (some (D.bool false))
                (F10_8186 call L C n_11 vn_f vn_n vn_c vg_f vg_n vg_c vtwo_f vtwo_n vtwo_c (t160) (IntKind.wrap IntKind.i64 (t161 + 1))))))))))))))
      (F10_8186 call L C n_11 vn_f vn_n vn_c vg_f vg_n vg_c vtwo_f vtwo_n vtwo_c (t160) (IntKind.wrap IntKind.i64 (t161 + 1))))))) := by
  unfold F10_1047859
  rw [hC]
  kernel_rfl
theorem F10_8186_eq (call : FuncId → List D → Option D) (L : Nat) (C : Nat → Nat) (n_11 : Nat) (vn_f : Bool) (vn_n : Nat) (vn_c : List D) (vg_f : Bool) (vg_n : Nat) (vg_c : List D) (vtwo_f : Bool) (vtwo_n : Nat) (vtwo_c : List D) (t160 : Int) (t161 : Int) : F10_8186 call L C  (n_11 + 1) vn_f vn_n vn_c vg_f vg_n vg_c vtwo_f vtwo_n vtwo_c (t160) (t161) =
  (ifK (decide (t161 < t160))
    (chkK (decide (0 ≤ t161 ∧ t161 < (vg_n : Int)))
      (cellK (vg_c) (Int.toNat t161 * 2 + 1) fun d_10 =>
      (strK (d_10) fun s =>
      (chkK (decide (0 ≤ t161 ∧ t161 < (vn_n : Int)))
        (cellK (vn_c) (Int.toNat t161 * 2 + 1) fun d_11 =>
        (strK (d_11) fun s_1 =>
        (ifK (!ByteArray.toList s == ByteArray.toList s_1)
          (some (D.bool false))
          (chkK (decide (0 ≤ t161 ∧ t161 < (vg_n : Int)))
            (cellK (vg_c) (Int.toNat t161 * 2 + 0) fun d_12 =>
            (intK IntKind.i64 (d_12) fun x_7 =>
            (chkK (decide (0 ≤ t161 ∧ t161 < (vn_n : Int)))
              (cellK (vn_c) (Int.toNat t161 * 2 + 0) fun d_13 =>
              (intK IntKind.i64 (d_13) fun x_8 =>
              (ifK (x_7 != IntKind.wrap IntKind.i64 (2 * x_8))
                (some (D.bool false))
                (F10_1047859 call L C n_11 vn_f vn_n vn_c vg_f vg_n vg_c vtwo_f vtwo_n vtwo_c t161 t160)))))))))))))))
    (optK (call 16 []) fun r_20 =>
      (boolK (r_20) fun b_9 =>
      (some (D.bool b_9))))) := by kernel_rfl
theorem F10_1023_eq (call : FuncId → List D → Option D) (L : Nat) (C : Nat → Nat) (vh_f : Bool) (vh_n : Nat) (vh_c : List D) (vn_f : Bool) (vn_n : Nat) (vn_c : List D) (vg_f : Bool) (vg_n : Nat) (vg_c : List D) (vtwo_f : Bool) (vtwo_n : Nat) (vtwo_c : List D) (hC : ∀ t, C t = 1) : F10_1023 call L C  vh_f vh_n vh_c (vn_f) (vn_n) (vn_c) (vg_f) (vg_n) (vg_c) (vtwo_f) (vtwo_n) (vtwo_c) =
  (F10_8186 call L C L vn_f vn_n vn_c vg_f vg_n vg_c vtwo_f vtwo_n vtwo_c ((vh_n : Int)) (0)) := by
  unfold F10_1023
  rw [hC]
  kernel_rfl
theorem F10_7_eq (call : FuncId → List D → Option D) (L : Nat) (C : Nat → Nat) (vh_f : Bool) (vh_n : Nat) (vh_c : List D) (va0 : ByteArray) (va1_f : Bool) (va1_n : Nat) (va1_c : List D) (va2 : Int) (vb0 : ByteArray) (vb1_f : Bool) (vb1_n : Nat) (vb1_c : List D) (vb2 : Int) (hC : ∀ t, C t = 1) : F10_7 call L C  vh_f vh_n vh_c va0 va1_f va1_n va1_c va2 vb0 vb1_f vb1_n vb1_c vb2  =
  (optK (call 55 [D.slc vh_f vh_n vh_c, D.agg [D.str va0, D.slc va1_f va1_n va1_c, D.int IntKind.i64 va2]]) fun r_9 =>
    (tupK (r_9) 2 fun c =>
    (cellK (c) (0) fun d =>
    (slcK (d) fun f n_1 c_1 =>
    (cellK (c) (1) fun d_1 =>
    (intK IntKind.i64 (d_1) fun x_2 =>
    (optK (call 38 [D.slc vh_f vh_n vh_c, D.slc true 2 [D.str va0, D.slc va1_f va1_n va1_c, D.int IntKind.i64 va2, D.str (ByteArray.mk #[116, 119, 105, 110]), D.slc va1_f va1_n va1_c, D.int IntKind.i64 va2]]) fun r_10 =>
      (tupK (r_10) 2 fun c_2 =>
      (cellK (c_2) (0) fun d_2 =>
      (slcK (d_2) fun f_1 n_2 c_3 =>
      (cellK (c_2) (1) fun d_3 =>
      (intK IntKind.i64 (d_3) fun x_3 =>
      (optK (call 44 [D.slc vh_f vh_n vh_c, D.agg [D.str va0, D.slc va1_f va1_n va1_c, D.int IntKind.i64 va2], D.agg [D.str (ByteArray.mk #[116, 119, 105, 110]), D.slc va1_f va1_n va1_c, D.int IntKind.i64 va2]]) fun r_11 =>
        (tupK (r_11) 2 fun c_4 =>
        (cellK (c_4) (0) fun d_4 =>
        (slcK (d_4) fun f_2 n_3 c_5 =>
        (cellK (c_4) (1) fun d_5 =>
        (intK IntKind.i64 (d_5) fun x_4 =>
        (optK (call 38 [D.slc vh_f vh_n vh_c, D.slc true 2 [D.str va0, D.slc va1_f va1_n va1_c, D.int IntKind.i64 va2, D.str vb0, D.slc vb1_f vb1_n vb1_c, D.int IntKind.i64 vb2]]) fun r_12 =>
          (tupK (r_12) 2 fun c_6 =>
          (cellK (c_6) (0) fun d_6 =>
          (slcK (d_6) fun f_3 n_4 c_7 =>
          (cellK (c_6) (1) fun d_7 =>
          (intK IntKind.i64 (d_7) fun x_5 =>
          (optK (call 38 [D.slc vh_f vh_n vh_c, D.slc true 3 [D.str vb0, D.slc vb1_f vb1_n vb1_c, D.int IntKind.i64 vb2, D.str (ByteArray.mk #[116, 119, 105, 110]), D.slc va1_f va1_n va1_c, D.int IntKind.i64 va2, D.str va0, D.slc va1_f va1_n va1_c, D.int IntKind.i64 va2]]) fun r_13 =>
            (tupK (r_13) 2 fun c_8 =>
            (cellK (c_8) (0) fun d_8 =>
            (slcK (d_8) fun f_4 n_5 c_9 =>
            (cellK (c_8) (1) fun d_9 =>
            (intK IntKind.i64 (d_9) fun x_6 =>
            (ifK (x_2 != 0)
              (some (D.bool false))
              (ifK (x_3 != 0)
                (some (D.bool false))
                (ifK (x_4 != 0)
                  (some (D.bool false))
                  (ifK (x_5 != 0)
                    (some (D.bool false))
                    (ifK (x_6 != 0)
                      (some (D.bool false))
                      (ifK ((n_1 : Int) != (vh_n : Int))
                        (some (D.bool false))
                        (optK (call 43 [D.slc f_1 n_2 c_3]) fun r_14 =>
                          (slcK (r_14) fun f_5 n_6 c_10 =>
                          (optK (call 43 [D.slc f n_1 c_1]) fun r_15 =>
                            (slcK (r_15) fun f_6 n_7 c_11 =>
                            (optK (call 42 [D.slc f_5 n_6 c_10, D.slc f_6 n_7 c_11]) fun r_16 =>
                              (boolK (r_16) fun b_7 =>
                              (ifK (!b_7)
                                (some (D.bool false))
                                (ifK ((n_3 : Int) != (vh_n : Int))
                                  (some (D.bool false))
                                  (ifK ((n_4 : Int) != (vh_n : Int))
                                    (some (D.bool false))
                                    (optK (call 43 [D.slc f_4 n_5 c_9]) fun r_17 =>
                                      (slcK (r_17) fun f_7 n_8 c_12 =>
                                      (optK (call 43 [D.slc f_3 n_4 c_7]) fun r_18 =>
                                        (slcK (r_18) fun f_8 n_9 c_13 =>
                                        (optK (call 42 [D.slc f_7 n_8 c_12, D.slc f_8 n_9 c_13]) fun r_19 =>
                                          (boolK (r_19) fun b_8 =>
                                          (ifK (!b_8)
                                            (some (D.bool false))
                                            (F10_1023 call L C vh_f vh_n vh_c (f) (n_1) (c_1) (f_2) (n_3) (c_5) (f_3) (n_4) (c_7)))))))))))))))))))))))))))))))))))))))))))))))))))))) := by
  unfold F10_7
  rw [hC]
  kernel_rfl
theorem F10_eq (call : FuncId → List D → Option D) (L : Nat) (C : Nat → Nat) (vh_f : Bool) (vh_n : Nat) (vh_c : List D) (va0 : ByteArray) (va1_f : Bool) (va1_n : Nat) (va1_c : List D) (va2 : Int) (vb0 : ByteArray) (vb1_f : Bool) (vb1_n : Nat) (vb1_c : List D) (vb2 : Int) : evFnT (TEf call L C) O0 N10 FinM.canon Tryz.f10 [D.slc vh_f vh_n vh_c, D.agg [D.str va0, D.slc va1_f va1_n va1_c, D.int IntKind.i64 va2], D.agg [D.str vb0, D.slc vb1_f vb1_n vb1_c, D.int IntKind.i64 vb2]] =
  (optK (call 15 [D.slc vh_f vh_n vh_c, D.slc true 2 [D.str va0, D.slc va1_f va1_n va1_c, D.int IntKind.i64 va2, D.str vb0, D.slc vb1_f vb1_n vb1_c, D.int IntKind.i64 vb2]]) fun r =>
    (boolK (r) fun b =>
    (ifK (!b)
      (optK (call 16 []) fun r_1 =>
        (boolK (r_1) fun b_1 =>
        (some (D.bool b_1))))
      (optK (call 23 [D.slc vh_f vh_n vh_c, D.agg [D.str va0, D.slc va1_f va1_n va1_c, D.int IntKind.i64 va2]]) fun r_2 =>
        (intK IntKind.i64 (r_2) fun x =>
        (ifK (x != 0)
          (optK (call 16 []) fun r_3 =>
            (boolK (r_3) fun b_2 =>
            (some (D.bool b_2))))
          (optK (call 23 [D.slc vh_f vh_n vh_c, D.agg [D.str vb0, D.slc vb1_f vb1_n vb1_c, D.int IntKind.i64 vb2]]) fun r_4 =>
            (intK IntKind.i64 (r_4) fun x_1 =>
            (ifK (x_1 != 0)
              (optK (call 16 []) fun r_5 =>
                (boolK (r_5) fun b_3 =>
                (some (D.bool b_3))))
              (ifK (ByteArray.toList va0 == ByteArray.toList vb0)
                (optK (call 16 []) fun r_6 =>
                  (boolK (r_6) fun b_4 =>
                  (some (D.bool b_4))))
                (ifK (ByteArray.toList va0 == ByteArray.toList (ByteArray.mk #[116, 119, 105, 110]))
                  (optK (call 16 []) fun r_7 =>
                    (boolK (r_7) fun b_5 =>
                    (some (D.bool b_5))))
                  (ifK (ByteArray.toList vb0 == ByteArray.toList (ByteArray.mk #[116, 119, 105, 110]))
                    (optK (call 16 []) fun r_8 =>
                      (boolK (r_8) fun b_6 =>
                      (some (D.bool b_6))))
                    (F10_7 call L C vh_f vh_n vh_c va0 va1_f va1_n va1_c va2 vb0 vb1_f vb1_n vb1_c vb2))))))))))))) := by kernel_rfl

end Go.Pd
end

section
namespace Go.Pd
open Go Go.Proofs Go.RowKit
set_option maxRecDepth 100000

theorem bp_two {x : NetV} (hx : vNet x) : bpV [x, x] = x := by
  rcases hx with hx | rfl | rfl
  · have h1 : decide (x.1 < x.1) = false := by simp
    simp only [bpV, bpGo, hx, ee, de, noX, ex, h1, ifK_true, ifK_false, Bool.true_and, Bool.not_false, Bool.true_or, Bool.not_true, Bool.false_or]
    rfl
  · simp only [bpV, bpGo, noX, ex, dx, ifK_false, Bool.false_and]
    rfl
  · simp only [bpV, bpGo, noD, ed, dd, ifK_false, ifK_true, Bool.false_and]
    rfl
/-- What the best of two is. -/
def beV (x y : NetV) : NetV := ifK (emptyB x.2) (ifK (emptyB y.2 && decide (y.1 < x.1)) y x) (ifK (emptyB y.2) y (ifK (dashB x.2 && dashB y.2) noD noX))
theorem bp_be {x y : NetV} (hx : vNet x) (hy : vNet y) : bpV [x, y] = beV x y := by
  rcases hx with hx | rfl | rfl <;> rcases hy with hy | rfl | rfl
  · simp only [bpV, bpGo, beV, hx, hy, ee, de, noX, ex, ifK_true, ifK_false, Bool.true_and, Bool.not_false, Bool.true_or, Bool.not_true, Bool.false_or]
    cases decide (y.1 < x.1) <;> rfl
  · simp only [bpV, bpGo, beV, hx, ee, de, noX, ex, dx, ifK_true, ifK_false, Bool.true_and, Bool.not_false, Bool.true_or, Bool.false_and]
    rfl
  · simp only [bpV, bpGo, beV, hx, ee, de, noX, noD, ex, ed, dd, ifK_true, ifK_false, Bool.true_and, Bool.not_false, Bool.true_or, Bool.false_and]
    rfl
  · simp only [bpV, bpGo, beV, hy, ee, de, noX, ex, dx, ifK_true, ifK_false, Bool.true_and, Bool.not_false, Bool.true_or, Bool.false_and]
    rfl
  · simp only [bpV, bpGo, beV, noX, ex, dx, ifK_false, Bool.false_and]
    rfl
  · simp only [bpV, bpGo, beV, noX, noD, ex, dx, ed, dd, ifK_false, ifK_true, Bool.false_and]
    rfl
  · simp only [bpV, bpGo, beV, hy, ee, de, noX, noD, ex, ed, dd, ifK_true, ifK_false, Bool.true_and, Bool.not_false, Bool.true_or, Bool.false_and]
    rfl
  · simp only [bpV, bpGo, beV, noX, noD, ex, dx, ed, dd, ifK_false, ifK_true, Bool.false_and, Bool.and_false]
    rfl
  · simp only [bpV, bpGo, beV, noX, noD, ex, ed, dd, ifK_false, ifK_true, Bool.false_and, Bool.and_true]
    rfl
theorem bp_three {x y : NetV} (hx : vNet x) (hy : vNet y) : bpV [y, x, x] = beV x y := by
  rcases hx with hx | rfl | rfl <;> rcases hy with hy | rfl | rfl
  · have h1 : decide (x.1 < x.1) = false := by simp
    simp only [bpV, bpGo, beV, hx, hy, ee, de, noX, ex, ifK_true, ifK_false, Bool.true_and, Bool.not_false, Bool.true_or, Bool.not_true, Bool.false_or]
    rcases Int.lt_trichotomy x.1 y.1 with h | h | h
    · rw [show decide (x.1 < y.1) = true by simpa using h, show decide (y.1 < x.1) = false by simp; omega, ifK_true, hx, ee, Bool.not_true, Bool.false_or, h1]
      rfl
    · have hxy : x = y := Prod.ext h (hx.trans hy.symm)
      subst hxy
      rw [h1, ifK_false, hx, ee, h1]
      rfl
    · rw [show decide (x.1 < y.1) = false by simp; omega, show decide (y.1 < x.1) = true by simpa using h, ifK_false, hy, ee, show decide (x.1 < y.1) = false by simp; omega]
      rfl
  · have h1 : decide (x.1 < x.1) = false := by simp
    simp only [bpV, bpGo, beV, hx, ee, de, noX, ex, dx, h1, ifK_true, ifK_false, Bool.true_and, Bool.not_false, Bool.true_or, Bool.false_and, Bool.not_true, Bool.false_or]
    rfl
  · have h1 : decide (x.1 < x.1) = false := by simp
    simp only [bpV, bpGo, beV, hx, ee, de, noX, noD, ex, ed, dd, h1, ifK_true, ifK_false, Bool.true_and, Bool.not_false, Bool.true_or, Bool.false_and, Bool.not_true, Bool.false_or]
    rfl
  · simp only [bpV, bpGo, beV, hy, ee, de, noX, ex, dx, ifK_true, ifK_false, Bool.true_and, Bool.not_false, Bool.true_or, Bool.false_and]
    rfl
  · simp only [bpV, bpGo, beV, noX, ex, dx, ifK_false, Bool.false_and]
    rfl
  · simp only [bpV, bpGo, beV, noX, noD, ex, dx, ed, dd, ifK_false, ifK_true, Bool.false_and]
    rfl
  · simp only [bpV, bpGo, beV, hy, ee, de, noX, noD, ex, ed, dd, ifK_true, ifK_false, Bool.true_and, Bool.not_false, Bool.true_or, Bool.false_and]
    rfl
  · simp only [bpV, bpGo, beV, noX, noD, ex, dx, ed, dd, ifK_false, ifK_true, Bool.false_and, Bool.and_false]
    rfl
  · simp only [bpV, bpGo, beV, noX, noD, ex, ed, dd, ifK_false, ifK_true, Bool.false_and, Bool.and_true]
    rfl
/-- The best is not above one that counts. -/
theorem be_le {x y : NetV} (he : emptyB x.2 = true) : emptyB (beV x y).2 = true ∧ decide ((beV x y).1 > x.1) = false := by
  unfold beV
  rw [he, ifK_true]
  cases hy : emptyB y.2 with
  | false => exact ⟨he, by simp⟩
  | true =>
    rw [Bool.true_and]
    by_cases h : y.1 < x.1
    · rw [show decide (y.1 < x.1) = true by simpa using h, ifK_true]
      exact ⟨hy, by simp; omega⟩
    · rw [show decide (y.1 < x.1) = false by simpa using h, ifK_false]
      exact ⟨he, by simp⟩
theorem ag_two {x : NetV} (hx : vNet x) : (!ByteArray.toList (agP x x).2 == ByteArray.toList x.2) = false ∧ ((agP x x).1 != IntKind.wrap .i64 (2 * x.1)) = false := by
  rcases hx with hx | rfl | rfl
  · unfold agP
    rw [hx, ee, Bool.true_and, ifK_true]
    refine ⟨by simp, ?_⟩
    rw [show 2 * x.1 = x.1 + x.1 by omega]
    simp
  · exact ⟨by kernel_rfl, by kernel_rfl⟩
  · exact ⟨by kernel_rfl, by kernel_rfl⟩
theorem atN_tab (F : Nat → NetV) : ∀ (m j i : Nat), i < m → atN (tabN F m j) i = F (j + i)
  | 0, _, _, h => absurd h (Nat.not_lt_zero _)
  | m + 1, j, 0, _ => rfl
  | m + 1, j, i + 1, h => by
    show atN (F j :: tabN F m (j + 1)) (i + 1) = _
    have := atN_tab F m (j + 1) i (by omega)
    unfold atN at this ⊢
    rw [List.getElem?_cons_succ, this, show j + 1 + i = j + (i + 1) by omega]
theorem tabN_at : ∀ (l pre : List NetV), tabN (atN (pre ++ l)) l.length pre.length = l
  | [], _ => rfl
  | x :: l, pre => by
    have h1 : atN (pre ++ x :: l) pre.length = x := by unfold atN; simp
    have h2 := tabN_at l (pre ++ [x])
    rw [List.append_assoc, show [x] ++ l = x :: l from rfl, show (pre ++ [x]).length = pre.length + 1 by simp] at h2
    show atN (pre ++ x :: l) pre.length :: tabN (atN (pre ++ x :: l)) l.length (pre.length + 1) = _
    rw [h1, h2]
theorem tabN_self {l : List NetV} {n : Nat} (h : l.length = n) : tabN (atN l) n 0 = l := by
  subst h
  exact tabN_at l []
section
variable {n : Nat} {call : FuncId → List D → Option D} {N G T : List NetV}
theorem go10 (t16 : call 16 [] = some (.bool true)) (h1 : N.length = n) (h2 : G.length = n) (h3 : T.length = n) (hn : n ≤ 1000)
    (hg : ∀ i, i < n → (!ByteArray.toList (atN G i).2 == ByteArray.toList (atN N i).2) = false ∧ ((atN G i).1 != IntKind.wrap .i64 (2 * (atN N i).1)) = false)
    (ht : ∀ i, i < n → emptyB (atN N i).2 = true → emptyB (atN T i).2 = true ∧ decide ((atN T i).1 > (atN N i).1) = false) {fn fg ft : Bool} : ∀ (m i fuel : Nat), i + m = n → m < fuel →
    F10_8186 call LL C1 fuel fn n (N.flatMap netD) fg n (G.flatMap netD) ft n (T.flatMap netD) n (i : Int) = some (.bool true) := by
  intro m
  induction m with
  | zero =>
    intro i fuel hi hf
    cases fuel with
    | zero => exact absurd hf (Nat.not_lt_zero _)
    | succ fuel =>
      have h1 : decide ((i : Int) < (n : Int)) = false := by simp; omega
      rw [F10_8186_eq, h1, ifK_false, t16, optK_some, boolK_bool]
  | succ m ih =>
    intro i fuel hi hf
    cases fuel with
    | zero => exact absurd hf (Nat.not_lt_zero _)
    | succ fuel =>
      have hd : decide ((i : Int) < (n : Int)) = true := by simp; omega
      have hin : decide ((0 : Int) ≤ (i : Int) ∧ (i : Int) < (n : Int)) = true := by simp; omega
      have hw : IntKind.wrap .i64 ((i : Int) + 1) = ((i + 1 : Nat) : Int) := by rw [wrap_id (by omega)]; rfl
      have ih := ih (i + 1) fuel (by omega) (by omega)
      obtain ⟨g1, g2⟩ := hg i (by omega)
      have e1 : (ByteArray.toList (atN N i).2 == ByteArray.toList (ByteArray.mk #[])) = emptyB (atN N i).2 := rfl
      have e2 : (ByteArray.toList (atN T i).2 == ByteArray.toList (ByteArray.mk #[])) = emptyB (atN T i).2 := rfl
      rw [F10_8186_eq, hd, ifK_true, hin, chkK_true, nAt1 (by omega), strK_str, chkK_true, nAt1 (by omega), strK_str, g1, ifK_false, chkK_true, nAt0 (by omega), intK_int, chkK_true, nAt0 (by omega), intK_int, g2, ifK_false,
        F10_1047859_eq (hC := (fun _ => rfl : ∀ t, C1 t = 1)), hin, chkK_true, nAt1 (by omega), strK_str, e1, chkK_true, nAt1 (by omega), strK_str, e2, chkK_true, nAt0 (by omega), intK_int, chkK_true, nAt0 (by omega), intK_int, hw, ih]
      cases he : emptyB (atN N i).2 with
      | false => rfl
      | true =>
        obtain ⟨t1, t2⟩ := ht i (by omega) he
        rw [t1, t2]
        rfl
end
def twinN : ByteArray := ByteArray.mk #[116, 119, 105, 110]
theorem plCs_inj : ∀ {a b : List PlV}, a.flatMap plC = b.flatMap plC → a = b
  | [], [], _ => rfl
  | [], x :: b, h => by cases h
  | x :: a, [], h => by cases h
  | x :: a, y :: b, h => by
    have h1 : plC x ++ a.flatMap plC = plC y ++ b.flatMap plC := h
    obtain ⟨h2, h3⟩ := List.append_inj h1 rfl
    rw [plC_inj h2, plCs_inj h3]
section
variable {f : Bool} {n : Nat} {c : List D} {P S : Nat → Int}
theorem pl_twin {a : PlV} (h : plErr n P S a.1 a.2.1 a.2.2 = 0) : plErr n P S twinN a.2.1 a.2.2 = 0 := by
  unfold plErr fst2 at h
  cases h1 : cardErr n P S a.1 a.2.1 != 0 with
  | true => rw [h1, ifK_true] at h; rw [h] at h1; cases h1
  | false =>
    rw [h1, ifK_false] at h
    have h0 : cardErr n P S a.1 a.2.1 = 0 := by simpa using h1
    obtain ⟨e1, _, e3, e4⟩ := fst4_z h0
    have ht : cardErr n P S twinN a.2.1 = 0 := by
      unfold cardErr
      rw [e1, e3, e4, show nameV twinN = true by kernel_rfl]
      rfl
    unfold plErr
    rw [ht, h]
    rfl
/-- Players who are no more than four, valid, of different names, have a fourball. -/
theorem pls_none : ∀ {r pre : List PlV}, (∀ x ∈ r, plErr n P S x.1 x.2.1 x.2.2 = 0) → (∀ x p q, r = p ++ x :: q → namedB x.1 (pre ++ p) = false) → plsGo n P S pre r = 0
  | [], _, _, _ => rfl
  | x :: r, pre, h, hd => by
    unfold plsGo
    have h2 := hd x [] r rfl
    rw [List.append_nil] at h2
    rw [h x (List.mem_cons_self ..), h2, show ((0 : Int) != 0) = false from rfl, ifK_false, ifK_false]
    refine pls_none (fun y hy => h y (List.mem_cons_of_mem _ hy)) fun y p q e => ?_
    have := hd y (x :: p) q (by rw [e]; rfl)
    rw [List.append_assoc]
    exact this
theorem fb_none {l : List PlV} (hw : wide l = false) (hh : holesErr n P S = 0) : fbErr n P S l = 0 := by
  unfold fbErr
  rw [hh, hw]
  rfl
theorem holes_ok {x : PlV} (h : plErr n P S x.1 x.2.1 x.2.2 = 0) : holesErr n P S = 0 := by
  unfold plErr fst2 at h
  cases h1 : cardErr n P S x.1 x.2.1 != 0 with
  | true => rw [h1, ifK_true] at h; rw [h] at h1; cases h1
  | false =>
    have h0 : cardErr n P S x.1 x.2.1 = 0 := by simpa using h1
    exact (fst4_z h0).1
theorem ok10 (hc : HolesC n c P S) (a b : PlV) : OK5 10 [.slc f n c, .agg (plC a), .agg (plC b)] (.bool true) := by
  have k15 := ok15l (f := f) (g := true) (n := n) (c := c) [a, b] (by simp)
  cases hfew : ifK (shPs [a, b]) (decide ((n : Int) ≤ 39)) false with
  | false =>
    rw [hfew] at k15
    obtain ⟨B, hb, h15, h16, _⟩ := exF [one 15 [.slc f n c, .slc true 2 ([a, b].flatMap plC)] (.bool false), one 16 [] (.bool true)] ⟨one_good k15 rfl, one_good awake_ok rfl, trivial⟩ rfl
    have t15 : callOf B 15 [.slc f n c, .slc true 2 [.str a.1, .slc false a.2.1.length (a.2.1.flatMap netD), .int .i64 a.2.2, .str b.1, .slc false b.2.1.length (b.2.1.flatMap netD), .int .i64 b.2.2]] = some (.bool false) := h15 ()
    have t16 : callOf B 16 [] = some (.bool true) := h16 ()
    refine fnT hb Tryz.func10 (ord := O0) (N := N10) (by kernel_rfl) ((F10_eq _ _ _ _ _ _ _ _ _ _ _ _ _ _ _ _).trans ?_)
    rw [t15, optK_some, boolK_bool, show (!false) = true from rfl, ifK_true, t16, optK_some, boolK_bool]
  | true =>
    rw [hfew] at k15
    have hsh : shPs [a, b] = true := by
      cases hs : shPs [a, b] with
      | true => rfl
      | false => rw [hs] at hfew; cases hfew
    have hn : n ≤ 39 := by
      rw [hsh, ifK_true] at hfew
      simp only [decide_eq_true_eq] at hfew
      omega
    have hs := shPs_mem hsh
    have hsa := hs a (by simp)
    have hsb := hs b (by simp)
    have hst : ∀ x ∈ [a, (twinN, a.2.1, a.2.2)], x.1.size ≤ 60 ∧ x.2.1.length ≤ 39 := fun x hx => by
      simp only [List.mem_cons, List.not_mem_nil, or_false] at hx
      rcases hx with rfl | rfl
      · exact hsa
      · exact ⟨by show (4 : Nat) ≤ 60; omega, hsa.2⟩
    have hs3 : ∀ x ∈ [b, (twinN, a.2.1, a.2.2), a], x.1.size ≤ 60 ∧ x.2.1.length ≤ 39 := fun x hx => by
      simp only [List.mem_cons, List.not_mem_nil, or_false] at hx
      rcases hx with rfl | rfl | rfl
      · exact hsb
      · exact ⟨by show (4 : Nat) ≤ 60; omega, hsa.2⟩
      · exact hsa
    have k55 := ok55 (f := f) (g := false) hc a.1 a.2.1 a.2.2 (by omega) (by omega)
    obtain ⟨B, hb, h15, h16, h23, h55, h38, h44, h43, h42, _⟩ := exF [one 15 [.slc f n c, .slc true 2 ([a, b].flatMap plC)] (.bool true), one 16 [] (.bool true), famPl 23 (.slc f n c) [a, b] fun x => .int .i64 (plErr n P S x.1 x.2.1 x.2.2), one 55 _ _,
        ⟨38, {l : List PlV // l.length ≤ 1000 ∧ ∀ x ∈ l, x.1.size ≤ 60 ∧ x.2.1.length ≤ 39}, fun l => [.slc f n c, .slc true l.1.length (l.1.flatMap plC)], fun l => ifK (fbErr n P S l.1 != 0) (.tup [.slc true 0 [], .int .i64 (fbErr n P S l.1)]) (ifK (plsGo n P S [] l.1 != 0) (.tup [.slc true 0 [], .int .i64 (plsGo n P S [] l.1)]) (.tup [.slc false n ((fbV n S l.1).flatMap netD), .int .i64 0]))⟩,
        one 44 _ _, fam43, fam42]
      ⟨one_good k15 rfl, one_good awake_ok rfl, famPl_good (fun x hx => ok23 hc x.1 x.2.1 x.2.2 (by have := (hs x hx).2; omega)) (fun _ => rfl), one_good k55 rfl, ⟨fun l => ok38 hc l.1 l.2.1 l.2.2, fun l l' e => by
        simp only [List.cons.injEq, D.slc.injEq, true_and, and_true] at e
        have e3 : l.1 = l'.1 := plCs_inj e.2
        simp only [e3], fun _ => rfl⟩, one_good (ok44 (f := f) hc a (twinN, a.2.1, a.2.2) hst) rfl, fam43_good, fam42_good, trivial⟩ rfl
    have t15 : callOf B 15 [.slc f n c, .slc true 2 [.str a.1, .slc false a.2.1.length (a.2.1.flatMap netD), .int .i64 a.2.2, .str b.1, .slc false b.2.1.length (b.2.1.flatMap netD), .int .i64 b.2.2]] = some (.bool true) := h15 ()
    have t16 : callOf B 16 [] = some (.bool true) := h16 ()
    have ta : callOf B 23 [.slc f n c, .agg [.str a.1, .slc false a.2.1.length (a.2.1.flatMap netD), .int .i64 a.2.2]] = some (.int .i64 (plErr n P S a.1 a.2.1 a.2.2)) := h23 ⟨a, by simp⟩
    have tb : callOf B 23 [.slc f n c, .agg [.str b.1, .slc false b.2.1.length (b.2.1.flatMap netD), .int .i64 b.2.2]] = some (.int .i64 (plErr n P S b.1 b.2.1 b.2.2)) := h23 ⟨b, by simp⟩
    have t55 : callOf B 55 [.slc f n c, .agg [.str a.1, .slc false a.2.1.length (a.2.1.flatMap netD), .int .i64 a.2.2]] = _ := h55 ()
    have t44 : callOf B 44 [.slc f n c, .agg [.str a.1, .slc false a.2.1.length (a.2.1.flatMap netD), .int .i64 a.2.2], .agg [.str twinN, .slc false a.2.1.length (a.2.1.flatMap netD), .int .i64 a.2.2]] = some (ifK (plsGo n P S [] [a, (twinN, a.2.1, a.2.2)] != 0) (.tup [.slc true 0 [], .int .i64 (plsGo n P S [] [a, (twinN, a.2.1, a.2.2)])]) (.tup [slR netD (agN n S a (twinN, a.2.1, a.2.2)), .int .i64 0])) := h44 ()
    have t1 : callOf B 38 [.slc f n c, .slc true 2 [.str a.1, .slc false a.2.1.length (a.2.1.flatMap netD), .int .i64 a.2.2, .str twinN, .slc false a.2.1.length (a.2.1.flatMap netD), .int .i64 a.2.2]] = _ := h38 ⟨[a, (twinN, a.2.1, a.2.2)], by simp, hst⟩
    have t2 : callOf B 38 [.slc f n c, .slc true 2 [.str a.1, .slc false a.2.1.length (a.2.1.flatMap netD), .int .i64 a.2.2, .str b.1, .slc false b.2.1.length (b.2.1.flatMap netD), .int .i64 b.2.2]] = _ := h38 ⟨[a, b], by simp, hs⟩
    have t3 : callOf B 38 [.slc f n c, .slc true 3 [.str b.1, .slc false b.2.1.length (b.2.1.flatMap netD), .int .i64 b.2.2, .str twinN, .slc false a.2.1.length (a.2.1.flatMap netD), .int .i64 a.2.2, .str a.1, .slc false a.2.1.length (a.2.1.flatMap netD), .int .i64 a.2.2]] = _ := h38 ⟨[b, (twinN, a.2.1, a.2.2), a], by simp, hs3⟩
    have t43 : ∀ q : List NetV, q.length ≤ 1000 → callOf B 43 [slR netD q] = some (slR netD q) := fun q hq => h43 ⟨q, hq⟩
    have t42 : ∀ q : List NetV, q.length ≤ 1000 → callOf B 42 [slR netD q, argN q] = some (.bool true) := fun q hq => h42 ⟨q, hq⟩
    refine fnT hb Tryz.func10 (ord := O0) (N := N10) (by kernel_rfl) ((F10_eq _ _ _ _ _ _ _ _ _ _ _ _ _ _ _ _).trans ?_)
    rw [t15, optK_some, boolK_bool, show (!true) = false from rfl, ifK_false, ta, optK_some, intK_int, t16, optK_some, boolK_bool, tb, optK_some, intK_int]
    cases hea : plErr n P S a.1 a.2.1 a.2.2 != 0 with
    | true => rfl
    | false =>
      have ha0 : plErr n P S a.1 a.2.1 a.2.2 = 0 := by simpa using hea
      cases heb : plErr n P S b.1 b.2.1 b.2.2 != 0 with
      | true => rfl
      | false =>
        have hb0 : plErr n P S b.1 b.2.1 b.2.2 = 0 := by simpa using heb
        rw [ifK_false, ifK_false]
        have tw : ByteArray.mk #[116, 119, 105, 110] = twinN := rfl
        cases hab : ByteArray.toList a.1 == ByteArray.toList b.1 with
        | true => rfl
        | false =>
          rw [ifK_false, tw]
          cases hat : ByteArray.toList a.1 == ByteArray.toList twinN with
          | true => rfl
          | false =>
            rw [ifK_false]
            cases hbt : ByteArray.toList b.1 == ByteArray.toList twinN with
            | true => rfl
            | false =>
              rw [ifK_false]
              have ht0 := pl_twin ha0
              have hba : (ByteArray.toList b.1 == ByteArray.toList a.1) = false := by rw [Bool.beq_comm]; exact hab
              have hta : (ByteArray.toList twinN == ByteArray.toList a.1) = false := by rw [Bool.beq_comm]; exact hat
              have z1 : plsGo n P S [] [a, (twinN, a.2.1, a.2.2)] = 0 := by
                simp only [plsGo, namedB, List.nil_append, ha0, ht0, hat, Bool.or_false]
                rfl
              have z2 : plsGo n P S [] [a, b] = 0 := by
                simp only [plsGo, namedB, List.nil_append, ha0, hb0, hab, Bool.or_false]
                rfl
              have z3 : plsGo n P S [] [b, (twinN, a.2.1, a.2.2), a] = 0 := by
                simp only [plsGo, namedB, List.nil_append, List.cons_append, ha0, hb0, ht0, hbt, hba, hta, Bool.or_false]
                rfl
              have hh := holes_ok ha0
              have w1 : fbErr n P S [a, (twinN, a.2.1, a.2.2)] = 0 := fb_none rfl hh
              have w2 : fbErr n P S [a, b] = 0 := fb_none rfl hh
              have w3 : fbErr n P S [b, (twinN, a.2.1, a.2.2), a] = 0 := fb_none rfl hh
              have z0 : ((0 : Int) != 0) = false := rfl
              simp only [z1, w1, z0, ifK_false] at t1 t44
              simp only [z2, w2, z0, ifK_false] at t2
              simp only [z3, w3, z0, ifK_false] at t3
              rw [ha0, z0, ifK_false] at t55
              obtain ⟨⟨a1, a2, _⟩, _, a6, _⟩ := plErr_zero ha0
              have hNl : (ntP n S a).length = n := by rw [ntP_len]; exact a6
              have hva := ntP_v ha0
              have hvb := ntP_v hb0
              have q1 : fbV n S [a, (twinN, a.2.1, a.2.2)] = ntP n S a := by
                refine Eq.trans ?_ (tabN_self hNl)
                exact tabN_eq (fun i => bp_two (atN_v hva i)) n 0
              have q2 : fbV n S [b, (twinN, a.2.1, a.2.2), a] = fbV n S [a, b] :=
                tabN_eq (fun i => (bp_three (atN_v hva i) (atN_v hvb i)).trans (bp_be (atN_v hva i) (atN_v hvb i)).symm) n 0
              rw [q1] at t1
              rw [q2] at t3
              have e55 : slR netD (ntGo (gvH n S a.2.2) a.2.1 0) = .slc false n ((ntP n S a).flatMap netD) := slN_pos hNl a1
              rw [e55] at t55
              replace t55 : _ = some (D.tup [.slc false n ((ntP n S a).flatMap netD), .int .i64 0]) := t55
              have hAl : (agN n S a (twinN, a.2.1, a.2.2)).length = n := agN_len ..
              rw [slN_pos hAl a1] at t44
              replace t44 : _ = some (D.tup [.slc false n ((agN n S a (twinN, a.2.1, a.2.2)).flatMap netD), .int .i64 0]) := t44
              replace t1 : _ = some (D.tup [.slc false n ((ntP n S a).flatMap netD), .int .i64 0]) := t1
              replace t2 : _ = some (D.tup [.slc false n ((fbV n S [a, b]).flatMap netD), .int .i64 0]) := t2
              replace t3 : _ = some (D.tup [.slc false n ((fbV n S [a, b]).flatMap netD), .int .i64 0]) := t3
              have hTl : (fbV n S [a, b]).length = n := fbV_len ..
              have c43N := t43 (ntP n S a) (by omega)
              have c42N := t42 (ntP n S a) (by omega)
              have c43T := t43 (fbV n S [a, b]) (by omega)
              have c42T := t42 (fbV n S [a, b]) (by omega)
              rw [arg_pos (by omega), slN_pos hNl a1] at c42N
              rw [slN_pos hNl a1] at c43N
              rw [arg_pos (by omega), slN_pos hTl a1] at c42T
              rw [slN_pos hTl a1] at c43T
              have hgo := go10 (call := callOf B) (fn := false) (fg := false) (ft := false) t16 hNl hAl hTl (by omega) (fun i hi => by
                rw [show atN (agN n S a (twinN, a.2.1, a.2.2)) i = agP (atN (ntP n S a) (0 + i)) (atN (ntP n S a) (0 + i)) from atN_tab _ n 0 i hi, Nat.zero_add]
                exact ag_two (atN_v hva i)) (fun i hi he => by
                rw [show atN (fbV n S [a, b]) i = bpV [atN (ntP n S a) (0 + i), atN (ntP n S b) (0 + i)] from atN_tab _ n 0 i hi, Nat.zero_add, bp_be (atN_v hva i) (atN_v hvb i)]
                exact be_le he) n 0 LL (by omega) (by unfold LL; omega)
              have hnn : ((n : Int) != (n : Int)) = false := by simp
              rw [F10_7_eq (hC := (fun _ => rfl : ∀ t, C1 t = 1)), tw, t55, optK_some, tup2, cellK_some rfl, slcK_slc, cellK_some rfl, intK_int, t1, optK_some, tup2, cellK_some rfl, slcK_slc, cellK_some rfl, intK_int, t44, optK_some, tup2, cellK_some rfl, slcK_slc, cellK_some rfl, intK_int,
                t2, optK_some, tup2, cellK_some rfl, slcK_slc, cellK_some rfl, intK_int, t3, optK_some, tup2, cellK_some rfl, slcK_slc, cellK_some rfl, intK_int, z0, ifK_false, ifK_false, ifK_false, ifK_false, ifK_false, hnn, ifK_false, c43N, optK_some, slcK_slc, optK_some, slcK_slc, c42N, optK_some, boolK_bool,
                show (!true) = false from rfl, ifK_false, ifK_false, ifK_false, c43T, optK_some, slcK_slc, optK_some, slcK_slc, c42T, optK_some, boolK_bool, show (!true) = false from rfl, ifK_false, F10_1023_eq (hC := (fun _ => rfl : ∀ t, C1 t = 1))]
              exact hgo
end
end Go.Pd
end
