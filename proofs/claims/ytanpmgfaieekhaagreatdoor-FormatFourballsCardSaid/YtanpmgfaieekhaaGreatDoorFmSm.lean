/-
  Chapter 5: what FormatSums makes of open arguments (printed by the desk's tool, each proved by the kernel).
  Chapter 5, FormatSums: the plain sums.
  Chapter 5, FormatSums: the law.
  A player and holes, laid open.
-/
import Derived.Test.YtanpmgfaieekhaaGreatDoorFmA
import Derived.KernelRfl
import Derived.Test.YtanpmgfaieekhaaGreatDoorFmC2
import Derived.Test.YtanpmgfaieekhaaGreatDoorFmLaw
import Derived.Test.YtanpmgfaieekhaaGreatDoorFmC1
section
namespace Go.Pd
open Go Go.Proofs
set_option maxRecDepth 100000
def N8 : NTab := fun p => match p with
  | 7 => some { keep := [0, 3], kl := [], ren := [(3, 3)] }
  | 63 => some { keep := [0, 3, 5, 7], kl := [], ren := [(3, 3)] }
  | 1018 => some { keep := [0, 3, 5, 7, 9, 10, 11, 12, 65, 66], kl := [], ren := [(3, 3)] }
  | 2047 => some { keep := [0, 3, 10, 11, 12, 15, 16, 17], kl := [], ren := [(3, 3)] }
  | 1042847 => some { keep := [0, 3, 5, 7, 9, 10, 11, 12, 13, 65, 66], kl := [], ren := [(3, 3)] }
  | 4171390 => some { keep := [0, 3, 5, 7, 9, 10, 11, 12, 13, 65, 66, 97, 98], kl := [], ren := [(3, 3)] }
  | _ => none
noncomputable def F8_4171390 (call : FuncId → List D → Option D) (L : Nat) (C : Nat → Nat) (n_4 : Nat) (n_6 : Nat) (vh_f : Bool) (vh_n : Nat) (vh_c : List D) (vl_f : Bool) (vl_n : Nat) (vl_c : List D) (vq_f : Bool) (vq_n : Nat) (vq_c : List D) (vsum_1 : Int) (vpars_1 : Int) (vpoints_1 : Int) (vall_1 : Bool) (t66 : Int) (t65 : Int) (vp0 : ByteArray) (vp1_f : Bool) (vp1_n : Nat) (vp1_c : List D) (vp2 : Int) (t97 : Int) (t98 : Int) : Option D :=
  loopAt (TEf call L C) O0 N8 FinM.canon Tryz.f8 [true, true, true, true, true, true, false, true, false, false, true, true, false, false, true, true, true, true, true, true, false] [n_4]  n_6 (St.mk [D.slc vh_f vh_n vh_c, J, J, D.loc 3 0 0, J, D.slc vl_f vl_n vl_c, J, D.slc vq_f vq_n vq_c, J, D.int IntKind.i64 vsum_1, D.int IntKind.i64 vpars_1, D.int IntKind.i64 vpoints_1, D.bool vall_1, D.int IntKind.i64 t66, J, J, J, J, J, J, J, J, J, J, J, J, J, J, J, J, J, J, J, J, J, J, J, J, J, J, J, J, J, J, J, J, J, J, J, J, J, J, J, J, J, J, J, J, J, J, J, J, J, J, J, D.int IntKind.i64 t65, D.int IntKind.i64 t66, J, J, J, J, J, J, J, J, J, J, J, J, J, J, J, J, J, J, J, J, J, J, J, J, J, J, J, J, J, J, D.int IntKind.i64 t97, D.int IntKind.i64 t98, J, J, J, J, J, J, J, J, J, J, J, J, J, J, J, J, J, J, J, J, J, J, J, J, J, J, J, J, J, J, J, J, J, J, J, J, J, J, J, J, J, J, J, J, J, J, J, J, J, J, J, J, J, J, J, J, J, J, J, J, J, J, J, J, J, J, J, J, J, J, J, J, J, J, J, J, J, J, J, J, J, J, J, J, J, J, J, J, J, J, J, J, J, J, J, J, J, J] [Z, Z, Z, (1, some (Ob.box [D.str vp0, D.slc vp1_f vp1_n vp1_c, D.int IntKind.i64 vp2] false)), Z, Z, Z, Z, Z, Z, Z, Z, Z, Z, Z, Z, Z, Z, Z, Z, Z, Z, Z, Z, Z, Z, Z, Z, Z, Z, Z, Z, Z, Z, Z, Z, Z, Z, Z, Z, Z, Z, Z, Z, Z, Z, Z, Z, Z, Z, Z, Z, Z, Z, Z, Z, Z, Z, Z, Z, Z, Z, Z, Z, Z, Z, Z, Z, Z, Z, Z, Z, Z, Z, Z, Z, Z, Z, Z, Z, Z, Z, Z, Z, Z, Z, Z, Z, Z, Z, Z, Z, Z, Z, Z, Z, Z, Z, Z, Z, Z, Z, Z, Z, Z, Z, Z, Z, Z, Z, Z, Z, Z, Z, Z, Z, Z, Z, Z, Z, Z, Z, Z, Z, Z, Z, Z, Z, Z, Z, Z, Z, Z, Z, Z, Z, Z, Z, Z, Z, Z, Z, Z, Z, Z, Z, Z, Z, Z, Z, Z, Z, Z, Z, Z, Z, Z, Z, Z, Z, Z, Z, Z, Z, Z, Z, Z, Z, Z, Z, Z, Z, Z, Z, Z, Z, Z, Z, Z, Z, Z, Z, Z, Z, Z, Z, Z, Z, Z, Z, Z, Z, Z, Z, Z, Z, Z])
noncomputable def F8_1042847 (call : FuncId → List D → Option D) (L : Nat) (C : Nat → Nat) (n_4 : Nat) (vh_f : Bool) (vh_n : Nat) (vh_c : List D) (vl_f : Bool) (vl_n : Nat) (vl_c : List D) (vq_f : Bool) (vq_n : Nat) (vq_c : List D) (t66 : Int) (t65 : Int) (vp0 : ByteArray) (vp1_f : Bool) (vp1_n : Nat) (vp1_c : List D) (vp2 : Int) (vsum_1 : Int) (vpars_1 : Int) (vpoints_1 : Int) (vall_1 : Bool) : Option D :=
  cutAt (TEf call L C) O0 N8 FinM.canon Tryz.f8 [true, true, true, true, true, true, false, true, false, false, true, true, false, false, true, true, true, true, true] [n_4]  (C 1042847) (St.mk [D.slc vh_f vh_n vh_c, J, J, D.loc 3 0 0, J, D.slc vl_f vl_n vl_c, J, D.slc vq_f vq_n vq_c, J, D.int IntKind.i64 vsum_1, D.int IntKind.i64 vpars_1, D.int IntKind.i64 vpoints_1, D.bool vall_1, D.int IntKind.i64 t66, J, J, J, J, J, J, J, J, J, J, J, J, J, J, J, J, J, J, J, J, J, J, J, J, J, J, J, J, J, J, J, J, J, J, J, J, J, J, J, J, J, J, J, J, J, J, J, J, J, J, J, D.int IntKind.i64 t65, D.int IntKind.i64 t66, J, J, J, J, J, J, J, J, J, J, J, J, J, J, J, J, J, J, J, J, J, J, J, J, J, J, J, J, J, J, J, J, J, J, J, J, J, J, J, J, J, J, J, J, J, J, J, J, J, J, J, J, J, J, J, J, J, J, J, J, J, J, J, J, J, J, J, J, J, J, J, J, J, J, J, J, J, J, J, J, J, J, J, J, J, J, J, J, J, J, J, J, J, J, J, J, J, J, J, J, J, J, J, J, J, J, J, J, J, J, J, J, J, J, J, J, J, J, J, J, J, J, J, J, J, J, J, J, J, J] [Z, Z, Z, (1, some (Ob.box [D.str vp0, D.slc vp1_f vp1_n vp1_c, D.int IntKind.i64 vp2] false)), Z, Z, Z, Z, Z, Z, Z, Z, Z, Z, Z, Z, Z, Z, Z, Z, Z, Z, Z, Z, Z, Z, Z, Z, Z, Z, Z, Z, Z, Z, Z, Z, Z, Z, Z, Z, Z, Z, Z, Z, Z, Z, Z, Z, Z, Z, Z, Z, Z, Z, Z, Z, Z, Z, Z, Z, Z, Z, Z, Z, Z, Z, Z, Z, Z, Z, Z, Z, Z, Z, Z, Z, Z, Z, Z, Z, Z, Z, Z, Z, Z, Z, Z, Z, Z, Z, Z, Z, Z, Z, Z, Z, Z, Z, Z, Z, Z, Z, Z, Z, Z, Z, Z, Z, Z, Z, Z, Z, Z, Z, Z, Z, Z, Z, Z, Z, Z, Z, Z, Z, Z, Z, Z, Z, Z, Z, Z, Z, Z, Z, Z, Z, Z, Z, Z, Z, Z, Z, Z, Z, Z, Z, Z, Z, Z, Z, Z, Z, Z, Z, Z, Z, Z, Z, Z, Z, Z, Z, Z, Z, Z, Z, Z, Z, Z, Z, Z, Z, Z, Z, Z, Z, Z, Z, Z, Z, Z, Z, Z, Z, Z, Z, Z, Z, Z, Z, Z, Z, Z, Z, Z, Z, Z])
noncomputable def F8_2047 (call : FuncId → List D → Option D) (L : Nat) (C : Nat → Nat) (n_4 : Nat) (vh_f : Bool) (vh_n : Nat) (vh_c : List D) (vpars : Int) (vpoints : Int) (vall : Bool) (vp0 : ByteArray) (vp1_f : Bool) (vp1_n : Nat) (vp1_c : List D) (vp2 : Int) (vg : Int) (ve3 : Int) (vs : Int) : Option D :=
  cutAt (TEf call L C) O0 N8 FinM.canon Tryz.f8 [true, true, true, true, true, true, true, true, true, true] [n_4]  (C 2047) (St.mk [D.slc vh_f vh_n vh_c, J, J, D.loc 3 0 0, J, J, J, J, J, J, D.int IntKind.i64 vpars, D.int IntKind.i64 vpoints, D.bool vall, J, J, D.int IntKind.i64 vg, D.int IntKind.i64 ve3, D.int IntKind.i64 vs, J, J, J, J, J, J, J, J, J, J, J, J, J, J, J, J, J, J, J, J, J, J, J, J, J, J, J, J, J, J, J, J, J, J, J, J, J, J, J, J, J, J, J, J, J, J, J, J, J, J, J, J, J, J, J, J, J, J, J, J, J, J, J, J, J, J, J, J, J, J, J, J, J, J, J, J, J, J, J, J, J, J, J, J, J, J, J, J, J, J, J, J, J, J, J, J, J, J, J, J, J, J, J, J, J, J, J, J, J, J, J, J, J, J, J, J, J, J, J, J, J, J, J, J, J, J, J, J, J, J, J, J, J, J, J, J, J, J, J, J, J, J, J, J, J, J, J, J, J, J, J, J, J, J, J, J, J, J, J, J, J, J, J, J, J, J, J, J, J, J, J, J, J, J, J, J, J, J, J] [Z, Z, Z, (1, some (Ob.box [D.str vp0, D.slc vp1_f vp1_n vp1_c, D.int IntKind.i64 vp2] false)), Z, Z, Z, Z, Z, Z, Z, Z, Z, Z, Z, Z, Z, Z, Z, Z, Z, Z, Z, Z, Z, Z, Z, Z, Z, Z, Z, Z, Z, Z, Z, Z, Z, Z, Z, Z, Z, Z, Z, Z, Z, Z, Z, Z, Z, Z, Z, Z, Z, Z, Z, Z, Z, Z, Z, Z, Z, Z, Z, Z, Z, Z, Z, Z, Z, Z, Z, Z, Z, Z, Z, Z, Z, Z, Z, Z, Z, Z, Z, Z, Z, Z, Z, Z, Z, Z, Z, Z, Z, Z, Z, Z, Z, Z, Z, Z, Z, Z, Z, Z, Z, Z, Z, Z, Z, Z, Z, Z, Z, Z, Z, Z, Z, Z, Z, Z, Z, Z, Z, Z, Z, Z, Z, Z, Z, Z, Z, Z, Z, Z, Z, Z, Z, Z, Z, Z, Z, Z, Z, Z, Z, Z, Z, Z, Z, Z, Z, Z, Z, Z, Z, Z, Z, Z, Z, Z, Z, Z, Z, Z, Z, Z, Z, Z, Z, Z, Z, Z, Z, Z, Z, Z, Z, Z, Z, Z, Z, Z, Z, Z, Z, Z, Z, Z, Z, Z, Z, Z, Z, Z, Z, Z, Z])
noncomputable def F8_1018 (call : FuncId → List D → Option D) (L : Nat) (C : Nat → Nat) (n_4 : Nat) (vh_f : Bool) (vh_n : Nat) (vh_c : List D) (vl_f : Bool) (vl_n : Nat) (vl_c : List D) (vq_f : Bool) (vq_n : Nat) (vq_c : List D) (vp0 : ByteArray) (vp1_f : Bool) (vp1_n : Nat) (vp1_c : List D) (vp2 : Int) (vsum : Int) (vpars : Int) (vpoints : Int) (vall : Bool) (t65 : Int) (t66 : Int) : Option D :=
  loopAt (TEf call L C) O0 N8 FinM.canon Tryz.f8 [true, true, true, true, true, true, false, true, false] []  n_4 (St.mk [D.slc vh_f vh_n vh_c, J, J, D.loc 3 0 0, J, D.slc vl_f vl_n vl_c, J, D.slc vq_f vq_n vq_c, J, D.int IntKind.i64 vsum, D.int IntKind.i64 vpars, D.int IntKind.i64 vpoints, D.bool vall, J, J, J, J, J, J, J, J, J, J, J, J, J, J, J, J, J, J, J, J, J, J, J, J, J, J, J, J, J, J, J, J, J, J, J, J, J, J, J, J, J, J, J, J, J, J, J, J, J, J, J, J, D.int IntKind.i64 t65, D.int IntKind.i64 t66, J, J, J, J, J, J, J, J, J, J, J, J, J, J, J, J, J, J, J, J, J, J, J, J, J, J, J, J, J, J, J, J, J, J, J, J, J, J, J, J, J, J, J, J, J, J, J, J, J, J, J, J, J, J, J, J, J, J, J, J, J, J, J, J, J, J, J, J, J, J, J, J, J, J, J, J, J, J, J, J, J, J, J, J, J, J, J, J, J, J, J, J, J, J, J, J, J, J, J, J, J, J, J, J, J, J, J, J, J, J, J, J, J, J, J, J, J, J, J, J, J, J, J, J, J, J, J, J, J, J] [Z, Z, Z, (1, some (Ob.box [D.str vp0, D.slc vp1_f vp1_n vp1_c, D.int IntKind.i64 vp2] false)), Z, Z, Z, Z, Z, Z, Z, Z, Z, Z, Z, Z, Z, Z, Z, Z, Z, Z, Z, Z, Z, Z, Z, Z, Z, Z, Z, Z, Z, Z, Z, Z, Z, Z, Z, Z, Z, Z, Z, Z, Z, Z, Z, Z, Z, Z, Z, Z, Z, Z, Z, Z, Z, Z, Z, Z, Z, Z, Z, Z, Z, Z, Z, Z, Z, Z, Z, Z, Z, Z, Z, Z, Z, Z, Z, Z, Z, Z, Z, Z, Z, Z, Z, Z, Z, Z, Z, Z, Z, Z, Z, Z, Z, Z, Z, Z, Z, Z, Z, Z, Z, Z, Z, Z, Z, Z, Z, Z, Z, Z, Z, Z, Z, Z, Z, Z, Z, Z, Z, Z, Z, Z, Z, Z, Z, Z, Z, Z, Z, Z, Z, Z, Z, Z, Z, Z, Z, Z, Z, Z, Z, Z, Z, Z, Z, Z, Z, Z, Z, Z, Z, Z, Z, Z, Z, Z, Z, Z, Z, Z, Z, Z, Z, Z, Z, Z, Z, Z, Z, Z, Z, Z, Z, Z, Z, Z, Z, Z, Z, Z, Z, Z, Z, Z, Z, Z, Z, Z, Z, Z, Z, Z, Z])
noncomputable def F8_63 (call : FuncId → List D → Option D) (L : Nat) (C : Nat → Nat) (vh_f : Bool) (vh_n : Nat) (vh_c : List D) (vp0 : ByteArray) (vp1_f : Bool) (vp1_n : Nat) (vp1_c : List D) (vp2 : Int) (vl_f : Bool) (vl_n : Nat) (vl_c : List D) (vq_f : Bool) (vq_n : Nat) (vq_c : List D) : Option D :=
  cutAt (TEf call L C) O0 N8 FinM.canon Tryz.f8 [true, true, true, true, true] []  (C 63) (St.mk [D.slc vh_f vh_n vh_c, J, J, D.loc 3 0 0, J, D.slc vl_f vl_n vl_c, J, D.slc vq_f vq_n vq_c, J, J, J, J, J, J, J, J, J, J, J, J, J, J, J, J, J, J, J, J, J, J, J, J, J, J, J, J, J, J, J, J, J, J, J, J, J, J, J, J, J, J, J, J, J, J, J, J, J, J, J, J, J, J, J, J, J, J, J, J, J, J, J, J, J, J, J, J, J, J, J, J, J, J, J, J, J, J, J, J, J, J, J, J, J, J, J, J, J, J, J, J, J, J, J, J, J, J, J, J, J, J, J, J, J, J, J, J, J, J, J, J, J, J, J, J, J, J, J, J, J, J, J, J, J, J, J, J, J, J, J, J, J, J, J, J, J, J, J, J, J, J, J, J, J, J, J, J, J, J, J, J, J, J, J, J, J, J, J, J, J, J, J, J, J, J, J, J, J, J, J, J, J, J, J, J, J, J, J, J, J, J, J, J, J, J, J, J, J] [Z, Z, Z, (1, some (Ob.box [D.str vp0, D.slc vp1_f vp1_n vp1_c, D.int IntKind.i64 vp2] false)), Z, Z, Z, Z, Z, Z, Z, Z, Z, Z, Z, Z, Z, Z, Z, Z, Z, Z, Z, Z, Z, Z, Z, Z, Z, Z, Z, Z, Z, Z, Z, Z, Z, Z, Z, Z, Z, Z, Z, Z, Z, Z, Z, Z, Z, Z, Z, Z, Z, Z, Z, Z, Z, Z, Z, Z, Z, Z, Z, Z, Z, Z, Z, Z, Z, Z, Z, Z, Z, Z, Z, Z, Z, Z, Z, Z, Z, Z, Z, Z, Z, Z, Z, Z, Z, Z, Z, Z, Z, Z, Z, Z, Z, Z, Z, Z, Z, Z, Z, Z, Z, Z, Z, Z, Z, Z, Z, Z, Z, Z, Z, Z, Z, Z, Z, Z, Z, Z, Z, Z, Z, Z, Z, Z, Z, Z, Z, Z, Z, Z, Z, Z, Z, Z, Z, Z, Z, Z, Z, Z, Z, Z, Z, Z, Z, Z, Z, Z, Z, Z, Z, Z, Z, Z, Z, Z, Z, Z, Z, Z, Z, Z, Z, Z, Z, Z, Z, Z, Z, Z, Z, Z, Z, Z, Z, Z, Z, Z, Z, Z, Z, Z, Z, Z, Z, Z, Z, Z, Z, Z, Z, Z, Z])
noncomputable def F8_7 (call : FuncId → List D → Option D) (L : Nat) (C : Nat → Nat) (vh_f : Bool) (vh_n : Nat) (vh_c : List D) (vp0 : ByteArray) (vp1_f : Bool) (vp1_n : Nat) (vp1_c : List D) (vp2 : Int) : Option D :=
  cutAt (TEf call L C) O0 N8 FinM.canon Tryz.f8 [true, true] []  (C 7) (St.mk [D.slc vh_f vh_n vh_c, J, J, D.loc 3 0 0, J, J, J, J, J, J, J, J, J, J, J, J, J, J, J, J, J, J, J, J, J, J, J, J, J, J, J, J, J, J, J, J, J, J, J, J, J, J, J, J, J, J, J, J, J, J, J, J, J, J, J, J, J, J, J, J, J, J, J, J, J, J, J, J, J, J, J, J, J, J, J, J, J, J, J, J, J, J, J, J, J, J, J, J, J, J, J, J, J, J, J, J, J, J, J, J, J, J, J, J, J, J, J, J, J, J, J, J, J, J, J, J, J, J, J, J, J, J, J, J, J, J, J, J, J, J, J, J, J, J, J, J, J, J, J, J, J, J, J, J, J, J, J, J, J, J, J, J, J, J, J, J, J, J, J, J, J, J, J, J, J, J, J, J, J, J, J, J, J, J, J, J, J, J, J, J, J, J, J, J, J, J, J, J, J, J, J, J, J, J, J, J, J] [Z, Z, Z, (1, some (Ob.box [D.str vp0, D.slc vp1_f vp1_n vp1_c, D.int IntKind.i64 vp2] false)), Z, Z, Z, Z, Z, Z, Z, Z, Z, Z, Z, Z, Z, Z, Z, Z, Z, Z, Z, Z, Z, Z, Z, Z, Z, Z, Z, Z, Z, Z, Z, Z, Z, Z, Z, Z, Z, Z, Z, Z, Z, Z, Z, Z, Z, Z, Z, Z, Z, Z, Z, Z, Z, Z, Z, Z, Z, Z, Z, Z, Z, Z, Z, Z, Z, Z, Z, Z, Z, Z, Z, Z, Z, Z, Z, Z, Z, Z, Z, Z, Z, Z, Z, Z, Z, Z, Z, Z, Z, Z, Z, Z, Z, Z, Z, Z, Z, Z, Z, Z, Z, Z, Z, Z, Z, Z, Z, Z, Z, Z, Z, Z, Z, Z, Z, Z, Z, Z, Z, Z, Z, Z, Z, Z, Z, Z, Z, Z, Z, Z, Z, Z, Z, Z, Z, Z, Z, Z, Z, Z, Z, Z, Z, Z, Z, Z, Z, Z, Z, Z, Z, Z, Z, Z, Z, Z, Z, Z, Z, Z, Z, Z, Z, Z, Z, Z, Z, Z, Z, Z, Z, Z, Z, Z, Z, Z, Z, Z, Z, Z, Z, Z, Z, Z, Z, Z, Z, Z, Z, Z, Z, Z, Z])
theorem F8_4171390_eq (call : FuncId → List D → Option D) (L : Nat) (C : Nat → Nat) (n_4 : Nat) (n_6 : Nat) (vh_f : Bool) (vh_n : Nat) (vh_c : List D) (vl_f : Bool) (vl_n : Nat) (vl_c : List D) (vq_f : Bool) (vq_n : Nat) (vq_c : List D) (vsum_1 : Int) (vpars_1 : Int) (vpoints_1 : Int) (vall_1 : Bool) (t66 : Int) (t65 : Int) (vp0 : ByteArray) (vp1_f : Bool) (vp1_n : Nat) (vp1_c : List D) (vp2 : Int) (t97 : Int) (t98 : Int) : F8_4171390 call L C n_4 (n_6 + 1) vh_f vh_n vh_c vl_f vl_n vl_c vq_f vq_n vq_c vsum_1 vpars_1 vpoints_1 vall_1 t66 t65 vp0 vp1_f vp1_n vp1_c vp2 (t97) (t98) =
  (ifK (decide (t98 < t97))
    (chkK (decide (0 ≤ t66 ∧ t66 < (vl_n : Int)))
      (cellK (vl_c) (Int.toNat t66 * 1) fun d_8 =>
      (intK IntKind.i64 (d_8) fun x_7 =>
      (chkK (decide (0 ≤ t98 ∧ t98 < (vl_n : Int)))
        (cellK (vl_c) (Int.toNat t98 * 1) fun d_9 =>
        (intK IntKind.i64 (d_9) fun x_8 =>
        (ifK (decide (IntKind.wrap IntKind.i64 (x_7 - x_8) > 1))
          (some (D.bool false))
          (chkK (decide (0 ≤ t66 ∧ t66 < (vh_n : Int)))
            (cellK (vh_c) (Int.toNat t66 * 2 + 1) fun d_10 =>
            (intK IntKind.i64 (d_10) fun x_9 =>
            (chkK (decide (0 ≤ t98 ∧ t98 < (vh_n : Int)))
              (cellK (vh_c) (Int.toNat t98 * 2 + 1) fun d_11 =>
              (intK IntKind.i64 (d_11) fun x_10 =>
              (ifK (decide (x_9 < x_10))
                (chkK (decide (0 ≤ t66 ∧ t66 < (vl_n : Int)))
                  (cellK (vl_c) (Int.toNat t66 * 1) fun d_12 =>
                  (intK IntKind.i64 (d_12) fun x_11 =>
                  (chkK (decide (0 ≤ t98 ∧ t98 < (vl_n : Int)))
                    (cellK (vl_c) (Int.toNat t98 * 1) fun d_13 =>
                    (intK IntKind.i64 (d_13) fun x_12 =>
                    (ifK (decide (x_11 < x_12))
                      (some (D.bool false))
                      (F8_4171390 call L C n_4 n_6 vh_f vh_n vh_c vl_f vl_n vl_c vq_f vq_n vq_c vsum_1 vpars_1 vpoints_1 vall_1 t66 t65 vp0 vp1_f vp1_n vp1_c vp2 (t97) (IntKind.wrap IntKind.i64 (t98 + 1))))))))))
                (F8_4171390 call L C n_4 n_6 vh_f vh_n vh_c vl_f vl_n vl_c vq_f vq_n vq_c vsum_1 vpars_1 vpoints_1 vall_1 t66 t65 vp0 vp1_f vp1_n vp1_c vp2 (t97) (IntKind.wrap IntKind.i64 (t98 + 1)))))))))))))))))
    (F8_1018 call L C n_4 vh_f vh_n vh_c vl_f vl_n vl_c vq_f vq_n vq_c vp0 vp1_f vp1_n vp1_c vp2 (vsum_1) (vpars_1) (vpoints_1) (vall_1) (t65) (IntKind.wrap IntKind.i64 (t66 + 1)))) := by kernel_rfl
theorem F8_1042847_eq (call : FuncId → List D → Option D) (L : Nat) (C : Nat → Nat) (n_4 : Nat) (vh_f : Bool) (vh_n : Nat) (vh_c : List D) (vl_f : Bool) (vl_n : Nat) (vl_c : List D) (vq_f : Bool) (vq_n : Nat) (vq_c : List D) (t66 : Int) (t65 : Int) (vp0 : ByteArray) (vp1_f : Bool) (vp1_n : Nat) (vp1_c : List D) (vp2 : Int) (vsum_1 : Int) (vpars_1 : Int) (vpoints_1 : Int) (vall_1 : Bool) (hC : ∀ t, C t = 1) : F8_1042847 call L C n_4 vh_f vh_n vh_c vl_f vl_n vl_c vq_f vq_n vq_c t66 t65 vp0 vp1_f vp1_n vp1_c vp2 (vsum_1) (vpars_1) (vpoints_1) (vall_1) =
  (F8_4171390 call L C n_4 L vh_f vh_n vh_c vl_f vl_n vl_c vq_f vq_n vq_c vsum_1 vpars_1 vpoints_1 vall_1 t66 t65 vp0 vp1_f vp1_n vp1_c vp2 ((vh_n : Int)) (0)) := by
  unfold F8_1042847
  rw [hC]
  kernel_rfl
theorem F8_2047_eq (call : FuncId → List D → Option D) (L : Nat) (C : Nat → Nat) (n_4 : Nat) (vh_f : Bool) (vh_n : Nat) (vh_c : List D) (vpars : Int) (vpoints : Int) (vall : Bool) (vp0 : ByteArray) (vp1_f : Bool) (vp1_n : Nat) (vp1_c : List D) (vp2 : Int) (vg : Int) (ve3 : Int) (vs : Int) (hC : ∀ t, C t = 1) : F8_2047 call L C n_4 vh_f vh_n vh_c vpars vpoints vall vp0 vp1_f vp1_n vp1_c vp2 (vg) (ve3) (vs) =
  (ifK (ve3 != 0)
    (ifK (!vall)
      (optK (call 16 []) fun r_8 =>
        (boolK (r_8) fun b_3 =>
        (some (D.bool b_3))))
      (some (D.bool false)))
    (ifK (vs == IntKind.wrap IntKind.i64 (vg - vp2))
      (ifK (!vall)
        (optK (call 16 []) fun r_9 =>
          (boolK (r_9) fun b_4 =>
          (some (D.bool b_4))))
        (ifK (vpoints == IntKind.wrap IntKind.i64 (IntKind.wrap IntKind.i64 (IntKind.wrap IntKind.i64 (2 * (vh_n : Int)) + vpars) - vs))
          (optK (call 16 []) fun r_10 =>
            (boolK (r_10) fun b_5 =>
            (some (D.bool b_5))))
          (some (D.bool false))))
      (some (D.bool false)))) := by
  unfold F8_2047
  rw [hC]
  kernel_rfl
theorem F8_1018_eq (call : FuncId → List D → Option D) (L : Nat) (C : Nat → Nat) (n_4 : Nat) (vh_f : Bool) (vh_n : Nat) (vh_c : List D) (vl_f : Bool) (vl_n : Nat) (vl_c : List D) (vq_f : Bool) (vq_n : Nat) (vq_c : List D) (vp0 : ByteArray) (vp1_f : Bool) (vp1_n : Nat) (vp1_c : List D) (vp2 : Int) (vsum : Int) (vpars : Int) (vpoints : Int) (vall : Bool) (t65 : Int) (t66 : Int) : F8_1018 call L C  (n_4 + 1) vh_f vh_n vh_c vl_f vl_n vl_c vq_f vq_n vq_c vp0 vp1_f vp1_n vp1_c vp2 (vsum) (vpars) (vpoints) (vall) (t65) (t66) =
  (ifK (decide (t66 < t65))
    (chkK (decide (0 ≤ t66 ∧ t66 < (vl_n : Int)))
      (cellK (vl_c) (Int.toNat t66 * 1) fun d_4 =>
      (intK IntKind.i64 (d_4) fun x_3 =>
      (chkK (decide (0 ≤ t66 ∧ t66 < (vh_n : Int)))
        (cellK (vh_c) (Int.toNat t66 * 2 + 0) fun d_5 =>
        (intK IntKind.i64 (d_5) fun x_4 =>
        (chkK (decide (0 ≤ t66 ∧ t66 < (vq_n : Int)))
          (cellK (vq_c) (Int.toNat t66 * 1) fun d_6 =>
          (intK IntKind.i64 (d_6) fun x_5 =>
          (ifK (vall)
            (chkK (decide (0 ≤ t66 ∧ t66 < (vq_n : Int)))
              (cellK (vq_c) (Int.toNat t66 * 1) fun d_7 =>
              (intK IntKind.i64 (d_7) fun x_6 =>
              (F8_1042847 call L C n_4 vh_f vh_n vh_c vl_f vl_n vl_c vq_f vq_n vq_c t66 t65 vp0 vp1_f vp1_n vp1_c vp2 (IntKind.wrap IntKind.i64 (vsum + x_3)) (IntKind.wrap IntKind.i64 (vpars + x_4)) (IntKind.wrap IntKind.i64 (vpoints + x_5)) (decide (x_6 > 0))))))
            (F8_1042847 call L C n_4 vh_f vh_n vh_c vl_f vl_n vl_c vq_f vq_n vq_c t66 t65 vp0 vp1_f vp1_n vp1_c vp2 (IntKind.wrap IntKind.i64 (vsum + x_3)) (IntKind.wrap IntKind.i64 (vpars + x_4)) (IntKind.wrap IntKind.i64 (vpoints + x_5)) (false))))))))))))
    (optK (call 53 [D.slc vh_f vh_n vh_c, D.agg [D.str vp0, D.slc vp1_f vp1_n vp1_c, D.int IntKind.i64 vp2]]) fun r_6 =>
      (tupK (r_6) 2 fun c_4 =>
      (cellK (c_4) (0) fun d_14 =>
      (intK IntKind.i64 (d_14) fun x_13 =>
      (cellK (c_4) (1) fun d_15 =>
      (intK IntKind.i64 (d_15) fun x_14 =>
      (optK (call 54 [D.slc vh_f vh_n vh_c, D.agg [D.str vp0, D.slc vp1_f vp1_n vp1_c, D.int IntKind.i64 vp2]]) fun r_7 =>
        (tupK (r_7) 2 fun c_5 =>
        (cellK (c_5) (0) fun d_16 =>
        (intK IntKind.i64 (d_16) fun x_15 =>
        (cellK (c_5) (1) fun d_17 =>
        (intK IntKind.i64 (d_17) fun x_16 =>
        (ifK (vsum != vp2)
          (some (D.bool false))
          (ifK (x_14 != x_16)
            (some (D.bool false))
            (ifK (x_14 != 0)
              (ifK (x_14 != 7)
                (some (D.bool false))
                (F8_2047 call L C n_4 vh_f vh_n vh_c vpars vpoints vall vp0 vp1_f vp1_n vp1_c vp2 (x_13) (x_14) (x_15)))
              (F8_2047 call L C n_4 vh_f vh_n vh_c vpars vpoints vall vp0 vp1_f vp1_n vp1_c vp2 (x_13) (x_14) (x_15)))))))))))))))))) := by kernel_rfl
theorem F8_63_eq (call : FuncId → List D → Option D) (L : Nat) (C : Nat → Nat) (vh_f : Bool) (vh_n : Nat) (vh_c : List D) (vp0 : ByteArray) (vp1_f : Bool) (vp1_n : Nat) (vp1_c : List D) (vp2 : Int) (vl_f : Bool) (vl_n : Nat) (vl_c : List D) (vq_f : Bool) (vq_n : Nat) (vq_c : List D) (hC : ∀ t, C t = 1) : F8_63 call L C  vh_f vh_n vh_c vp0 vp1_f vp1_n vp1_c vp2 (vl_f) (vl_n) (vl_c) (vq_f) (vq_n) (vq_c) =
  (F8_1018 call L C L vh_f vh_n vh_c vl_f vl_n vl_c vq_f vq_n vq_c vp0 vp1_f vp1_n vp1_c vp2 (0) (0) (0) (true) ((vh_n : Int)) (0)) := by
  unfold F8_63
  rw [hC]
  kernel_rfl
theorem F8_7_eq (call : FuncId → List D → Option D) (L : Nat) (C : Nat → Nat) (vh_f : Bool) (vh_n : Nat) (vh_c : List D) (vp0 : ByteArray) (vp1_f : Bool) (vp1_n : Nat) (vp1_c : List D) (vp2 : Int) (hC : ∀ t, C t = 1) : F8_7 call L C  vh_f vh_n vh_c vp0 vp1_f vp1_n vp1_c vp2  =
  (optK (call 17 [D.slc vh_f vh_n vh_c, D.int IntKind.i64 vp2]) fun r_4 =>
    (tupK (r_4) 2 fun c =>
    (cellK (c) (0) fun d =>
    (slcK (d) fun f n_1 c_1 =>
    (cellK (c) (1) fun d_1 =>
    (intK IntKind.i64 (d_1) fun x_1 =>
    (optK (call 52 [D.slc vh_f vh_n vh_c, D.agg [D.str vp0, D.slc vp1_f vp1_n vp1_c, D.int IntKind.i64 vp2]]) fun r_5 =>
      (tupK (r_5) 2 fun c_2 =>
      (cellK (c_2) (0) fun d_2 =>
      (slcK (d_2) fun f_1 n_2 c_3 =>
      (cellK (c_2) (1) fun d_3 =>
      (intK IntKind.i64 (d_3) fun x_2 =>
      (ifK (x_1 != 0)
        (some (D.bool false))
        (ifK (x_2 != 0)
          (some (D.bool false))
          (ifK ((n_1 : Int) != (vh_n : Int))
            (some (D.bool false))
            (ifK ((n_2 : Int) != (vh_n : Int))
              (some (D.bool false))
              (F8_63 call L C vh_f vh_n vh_c vp0 vp1_f vp1_n vp1_c vp2 (f) (n_1) (c_1) (f_1) (n_2) (c_3)))))))))))))))))) := by
  unfold F8_7
  rw [hC]
  kernel_rfl
theorem F8_eq (call : FuncId → List D → Option D) (L : Nat) (C : Nat → Nat) (vh_f : Bool) (vh_n : Nat) (vh_c : List D) (vp0 : ByteArray) (vp1_f : Bool) (vp1_n : Nat) (vp1_c : List D) (vp2 : Int) : evFnT (TEf call L C) O0 N8 FinM.canon Tryz.f8 [D.slc vh_f vh_n vh_c, D.agg [D.str vp0, D.slc vp1_f vp1_n vp1_c, D.int IntKind.i64 vp2]] =
  (optK (call 15 [D.slc vh_f vh_n vh_c, D.slc true 1 [D.str vp0, D.slc vp1_f vp1_n vp1_c, D.int IntKind.i64 vp2]]) fun r =>
    (boolK (r) fun b =>
    (ifK (!b)
      (optK (call 16 []) fun r_1 =>
        (boolK (r_1) fun b_1 =>
        (some (D.bool b_1))))
      (optK (call 23 [D.slc vh_f vh_n vh_c, D.agg [D.str vp0, D.slc vp1_f vp1_n vp1_c, D.int IntKind.i64 vp2]]) fun r_2 =>
        (intK IntKind.i64 (r_2) fun x =>
        (ifK (x != 0)
          (optK (call 16 []) fun r_3 =>
            (boolK (r_3) fun b_2 =>
            (some (D.bool b_2))))
          (F8_7 call L C vh_f vh_n vh_c vp0 vp1_f vp1_n vp1_c vp2))))))) := by kernel_rfl

end Go.Pd
end

section
namespace Go.Pd
open Go Go.Proofs Go.RowKit

def preS (F : Nat → Int) : Nat → Int
  | 0 => 0
  | m + 1 => preS F m + F m
def sumI : List Int → Int
  | [] => 0
  | x :: r => x + sumI r
theorem sumI_snoc (x : Int) : ∀ l, sumI (l ++ [x]) = sumI l + x
  | [] => by simp [sumI]
  | y :: l => by
    rw [List.cons_append, show sumI (y :: (l ++ [x])) = y + sumI (l ++ [x]) from rfl, sumI_snoc x l, show sumI (y :: l) = y + sumI l from rfl]
    omega
def posB (l : List Int) : Bool := l.all fun x => decide (x > 0)
theorem posB_snoc (x : Int) (l : List Int) : posB (l ++ [x]) = (posB l && decide (x > 0)) := by simp [posB]
theorem preS_b {F : Nat → Int} {B : Int} : ∀ m, (∀ i, i < m → -B ≤ F i ∧ F i ≤ B) → -(B * m) ≤ preS F m ∧ preS F m ≤ B * m
  | 0, _ => by simp [preS]
  | m + 1, h => by
    have ih := preS_b m fun i hi => h i (by omega)
    have h1 := h m (by omega)
    unfold preS
    rw [show ((m + 1 : Nat) : Int) = (m : Int) + 1 by simp, Int.mul_add, Int.mul_one]
    omega

/-! ### The strokes that are given add up to the handicap -/
/-- How many of the first m holes have an index not above r. -/
def cntS (S : Nat → Int) (r : Int) : Nat → Int
  | 0 => 0
  | m + 1 => cntS S r m + ifK (decide (S m ≤ r)) 1 0
theorem cntS_one {S : Nat → Int} {r : Int} : ∀ m, (∀ i k, i < m → k < m → S i = S k → i = k) → 0 ≤ cntS S (r + 1) m - cntS S r m ∧ cntS S (r + 1) m - cntS S r m ≤ 1 ∧ ((∀ i, i < m → S i ≠ r + 1) → cntS S (r + 1) m = cntS S r m)
  | 0, _ => by simp [cntS]
  | m + 1, h => by
    obtain ⟨h1, h2, h3⟩ := cntS_one (S := S) (r := r) m fun i k hi hk => h i k (by omega) (by omega)
    unfold cntS
    by_cases ha : S m ≤ r
    · rw [show decide (S m ≤ r) = true by simpa using ha, show decide (S m ≤ r + 1) = true by simp; omega, ifK_true]
      refine ⟨by omega, by omega, fun hn => ?_⟩
      rw [h3 fun i hi => hn i (by omega)]
    · rw [show decide (S m ≤ r) = false by simpa using ha, ifK_false]
      by_cases hb : S m = r + 1
      · rw [show decide (S m ≤ r + 1) = true by simp; omega, ifK_true]
        have := h3 fun i hi e => by
          have := h i m (by omega) (by omega) (by rw [e, hb])
          omega
        refine ⟨by omega, by omega, fun hn => absurd hb (hn m (by omega))⟩
      · rw [show decide (S m ≤ r + 1) = false by simp; omega, ifK_false]
        refine ⟨by omega, by omega, fun hn => ?_⟩
        rw [h3 fun i hi => hn i (by omega)]
theorem cntS_all {S : Nat → Int} {r : Int} : ∀ m, (∀ i, i < m → S i ≤ r) → cntS S r m = m
  | 0, _ => rfl
  | m + 1, h => by
    unfold cntS
    rw [cntS_all m fun i hi => h i (by omega), show decide (S m ≤ r) = true by simpa using h m (by omega), ifK_true]
    simp
theorem cntS_none {S : Nat → Int} {r : Int} : ∀ m, (∀ i, i < m → r < S i) → cntS S r m = 0
  | 0, _ => rfl
  | m + 1, h => by
    unfold cntS
    rw [cntS_none m fun i hi => h i (by omega), show decide (S m ≤ r) = false by simpa using h m (by omega), ifK_false]
    rfl
theorem cntS_eq {S : Nat → Int} {n : Nat} (hS : ∀ i, i < n → 1 ≤ S i ∧ S i ≤ n) (hd : ∀ i k, i < n → k < n → S i = S k → i = k) {r : Int} (h0 : 0 ≤ r) (hr : r ≤ n) : cntS S r n = r := by
  have up : ∀ k : Nat, cntS S (k : Int) n ≤ k := fun k => by
    induction k with
    | zero =>
      rw [cntS_none n fun i hi => by have := (hS i hi).1; simp; omega]
      simp
    | succ k ih =>
      have := (cntS_one (S := S) (r := (k : Int)) n hd).2.1
      rw [show ((k + 1 : Nat) : Int) = (k : Int) + 1 by simp]
      omega
  have dn : ∀ k : Nat, k ≤ n → (n : Int) - cntS S ((n : Int) - k) n ≤ k := fun k => by
    induction k with
    | zero =>
      intro _
      rw [show (n : Int) - ((0 : Nat) : Int) = n by simp, cntS_all n fun i hi => (hS i hi).2]
      simp
    | succ k ih =>
      intro hk
      have h1 := (cntS_one (S := S) (r := (n : Int) - ((k + 1 : Nat) : Int)) n hd).2.1
      rw [show (n : Int) - ((k + 1 : Nat) : Int) + 1 = (n : Int) - k by simp; omega] at h1
      have := ih (by omega)
      have e : ((k + 1 : Nat) : Int) = (k : Int) + 1 := by simp
      omega
  obtain ⟨k, rfl⟩ : ∃ k : Nat, r = k := ⟨r.toNat, by omega⟩
  have h1 := up k
  have h2 := dn (n - k) (by omega)
  rw [show (n : Int) - ((n - k : Nat) : Int) = k by omega] at h2
  omega
theorem preS_gv {n : Nat} {S : Nat → Int} {h : Int} : ∀ m : Nat, preS (gvH n S h) m = (h / n) * m + cntS S (h % n) m
  | 0 => by simp [preS, cntS]
  | m + 1 => by
    unfold preS cntS
    rw [preS_gv m]
    unfold gvH
    rw [show ((m + 1 : Nat) : Int) = (m : Int) + 1 by simp, Int.mul_add, Int.mul_one]
    omega
/-- The strokes given add up to the handicap strokes. -/
theorem given_sum {n : Nat} (h0 : 0 < n) {S : Nat → Int} (hS : ∀ i, i < n → 1 ≤ S i ∧ S i ≤ n) (hd : ∀ i k, i < n → k < n → S i = S k → i = k) (h : Int) : preS (gvH n S h) n = h := by
  have h1 := Int.emod_nonneg h (show (n : Int) ≠ 0 by omega)
  have h2 := Int.emod_lt_of_pos h (show (0 : Int) < n by omega)
  rw [preS_gv, cntS_eq hS hd h1 (by omega), Int.mul_comm]
  exact Int.mul_ediv_add_emod h n
/-- No two holes of valid holes have the same index. -/
theorem holes_distinct {n : Nat} {P S : Nat → Int} (hz : holesErr n P S = 0) : ∀ i k, i < n → k < n → S i = S k → i = k := by
  obtain ⟨h0, h1, _⟩ := holesErr_zero hz
  have hgo : ∀ (m i : Nat), holesGo n P S m i = 0 → ∀ j, i ≤ j → j < i + m → dupH S j j 0 = false ∧ badH n P S j = false := by
    intro m
    induction m with
    | zero => intro i _ j h1 h2; omega
    | succ m ih =>
      intro i hgo j h1 h2
      unfold holesGo at hgo
      cases he : holeErr n P S i != 0 with
      | true => rw [he, ifK_true] at hgo; rw [hgo] at he; cases he
      | false =>
        rw [he, ifK_false] at hgo
        by_cases hj : j = i
        · subst hj
          unfold holeErr at he
          cases hb : badH n P S j with
          | true => rw [hb, ifK_true] at he; cases he
          | false =>
            cases hd : dupH S j j 0 with
            | true => rw [hb, hd, ifK_false, ifK_true] at he; cases he
            | false => exact ⟨rfl, rfl⟩
        · exact ih (i + 1) hgo j (by omega) (by omega)
  have hg : holesGo n P S n 0 = 0 := by
    unfold holesErr at hz
    cases e1 : ((n : Int) == 0) with
    | true => rw [e1, ifK_true] at hz; cases hz
    | false =>
      rw [e1, ifK_false] at hz
      cases e2 : decide ((n : Int) > 36) with
      | true => rw [e2, ifK_true] at hz; cases hz
      | false => rw [e2, ifK_false] at hz; exact hz
  have key : ∀ i k, i < n → k < i → S i ≠ S k := fun i k hi hk e => by
    have := (hgo n 0 hg i (by omega) (by omega)).1
    have h2 := (dupH_iff S i i 0).2 ⟨k, by omega, by omega, e.symm⟩
    rw [this] at h2
    cases h2
  intro i k hi hk e
  by_cases h1 : k < i
  · exact absurd e (key i k hi h1)
  · by_cases h2 : i < k
    · exact absurd e.symm (key k i hk h2)
    · omega
theorem holes_par {n : Nat} {P S : Nat → Int} (hz : holesErr n P S = 0) : ∀ i, i < n → 3 ≤ P i ∧ P i ≤ 6 := by
  have hg : holesGo n P S n 0 = 0 := by
    unfold holesErr at hz
    cases e1 : ((n : Int) == 0) with
    | true => rw [e1, ifK_true] at hz; cases hz
    | false =>
      rw [e1, ifK_false] at hz
      cases e2 : decide ((n : Int) > 36) with
      | true => rw [e2, ifK_true] at hz; cases hz
      | false => rw [e2, ifK_false] at hz; exact hz
  intro i hi
  have := holesGo_zero n 0 hg i (by omega) (by omega)
  unfold badH at this
  simp at this
  omega

/-! ### Scores -/
/-- A valid entry's strokes. -/
theorem entE_strokes {x : NetV} (h : entE x = 0) : 0 ≤ x.1 ∧ x.1 ≤ 99 := by
  unfold entE at h
  cases h1 : (emptyB x.2 || markC x.2) with
  | true =>
    rw [h1, ifK_true] at h
    cases h2 : (decide (x.1 < 1) || decide (x.1 > 99)) with
    | true => rw [h2, ifK_true] at h; cases h
    | false => simp at h2; omega
  | false =>
    rw [h1, ifK_false] at h
    cases h2 : (markX x.2 || dashB x.2) with
    | false => rw [h2, ifK_false] at h; cases h
    | true =>
      rw [h2, ifK_true] at h
      cases h3 : x.1 != 0 with
      | true => rw [h3, ifK_true] at h; cases h
      | false =>
        have : x.1 = 0 := by simpa using h3
        omega
def sumN (l : List NetV) : Int := sumI (l.map Prod.fst)
theorem sumW_eq {B : Int} (hB : 0 ≤ B) (hB2 : B ≤ 1000) : ∀ (l : List NetV) (acc : Int), (∀ x ∈ l, -B ≤ x.1 ∧ x.1 ≤ B) → -1000000 ≤ acc - 1000 * l.length → acc + 1000 * l.length ≤ 1000000 → sumW l acc = acc + sumN l
  | [], acc, _, _, _ => by simp [sumW, sumN, sumI]
  | x :: r, acc, h, h1, h2 => by
    have hx := h x (by simp)
    rw [List.length_cons, show ((r.length + 1 : Nat) : Int) = (r.length : Int) + 1 by simp] at h1 h2
    rw [show sumW (x :: r) acc = sumW r (IntKind.wrap .i64 (acc + x.1)) from rfl, wrap_id (by omega), sumW_eq hB hB2 r (acc + x.1) (fun y hy => h y (List.mem_cons_of_mem _ hy)) (by omega) (by omega)]
    rw [show sumN (x :: r) = x.1 + sumN r from rfl]
    omega
theorem nvE_b {g : Nat → Int} {x : NetV} {i : Nat} (hg : -99 ≤ g i ∧ g i ≤ 100) (he : entE x = 0) : -100 ≤ (nvE g x i).1 ∧ (nvE g x i).1 ≤ 198 := by
  have := entE_strokes he
  unfold nvE
  cases (emptyB x.2 || markC x.2) with
  | true => rw [ifK_true]; show -100 ≤ IntKind.wrap .i64 (x.1 - g i) ∧ _; rw [wrap_id (by omega)]; omega
  | false => rw [ifK_false]; show -100 ≤ (0 : Int) ∧ (0 : Int) ≤ 198; omega
theorem ntGo_b {g : Nat → Int} (hg : ∀ i, -99 ≤ g i ∧ g i ≤ 100) : ∀ (l : List NetV) (i : Nat), (∀ x ∈ l, entE x = 0) → ∀ y ∈ ntGo g l i, -1000 ≤ y.1 ∧ y.1 ≤ 1000
  | [], _, _, y, hy => by cases hy
  | x :: r, i, h, y, hy => by
    rw [show ntGo g (x :: r) i = nvE g x i :: ntGo g r (i + 1) from rfl] at hy
    rcases List.mem_cons.1 hy with rfl | hy
    · have := nvE_b (hg i) (h x (by simp)); omega
    · exact ntGo_b hg r (i + 1) (fun z hz => h z (List.mem_cons_of_mem _ hz)) y hy
theorem preS_shift (F : Nat → Int) (i : Nat) : preS F (i + 1) = preS F i + F i := rfl
/-- Where all holes count: the net strokes are the strokes less those given. -/
theorem sum_net {g : Nat → Int} (hg : ∀ i, -99 ≤ g i ∧ g i ≤ 100) : ∀ (l : List NetV) (i : Nat), (∀ x ∈ l, entE x = 0) → allB (ntGo g l i) = true → sumN (ntGo g l i) = sumN l - (preS g (i + l.length) - preS g i)
  | [], i, _, _ => by
    rw [show sumN (ntGo g [] i) = 0 from rfl, show sumN [] = 0 from rfl, show i + ([] : List NetV).length = i from rfl]
    omega
  | x :: r, i, h, ha => by
    rw [show ntGo g (x :: r) i = nvE g x i :: ntGo g r (i + 1) from rfl, show allB (nvE g x i :: ntGo g r (i + 1)) = (emptyB (nvE g x i).2 && allB (ntGo g r (i + 1))) from rfl, Bool.and_eq_true] at ha
    have ih := sum_net hg r (i + 1) (fun z hz => h z (List.mem_cons_of_mem _ hz)) ha.2
    have hs := entE_strokes (h x (by simp))
    have hgi := hg i
    have hc : (emptyB x.2 || markC x.2) = true := by
      cases hq : (emptyB x.2 || markC x.2) with
      | true => rfl
      | false =>
        have h1 := ha.1
        unfold nvE at h1
        rw [hq, ifK_false] at h1
        have h2 : emptyB x.2 = true := h1
        rw [h2] at hq
        cases hq
    have hv : (nvE g x i).1 = x.1 - g i := by
      unfold nvE
      rw [hc, ifK_true]
      exact wrap_id (by omega)
    rw [show ntGo g (x :: r) i = nvE g x i :: ntGo g r (i + 1) from rfl, show sumN (nvE g x i :: ntGo g r (i + 1)) = (nvE g x i).1 + sumN (ntGo g r (i + 1)) from rfl, ih, hv, show sumN (x :: r) = x.1 + sumN r from rfl, preS_shift,
      show i + (x :: r).length = i + 1 + r.length by simp; omega]
    omega
/-- Where all points are above 0: they are twice the holes and the pars, less the net strokes. -/
theorem sum_points {P : Nat → Int} : ∀ (N : List NetV) (i : Nat), (∀ y ∈ N, -1000 ≤ y.1 ∧ y.1 ≤ 1000) → (∀ k, i ≤ k → k < i + N.length → 3 ≤ P k ∧ P k ≤ 6) → allB N = true → posB (lsGo ptV P N i) = true → sumI (lsGo ptV P N i) = 2 * N.length + (preS P (i + N.length) - preS P i) - sumN N
  | [], i, _, _, _, _ => by
    rw [show lsGo ptV P [] i = [] from rfl, show sumI [] = 0 from rfl, show sumN [] = 0 from rfl, show i + ([] : List NetV).length = i from rfl]
    simp
  | x :: r, i, hN, hP, ha, hp => by
    rw [show lsGo ptV P (x :: r) i = ptV x (P i) :: lsGo ptV P r (i + 1) from rfl] at hp ⊢
    rw [show allB (x :: r) = (emptyB x.2 && allB r) from rfl, Bool.and_eq_true] at ha
    rw [show posB (ptV x (P i) :: lsGo ptV P r (i + 1)) = (decide (ptV x (P i) > 0) && posB (lsGo ptV P r (i + 1))) from rfl, Bool.and_eq_true] at hp
    have ih := sum_points r (i + 1) (fun y hy => hN y (List.mem_cons_of_mem _ hy)) (fun k h1 h2 => hP k (by omega) (by simp; omega)) ha.2 hp.2
    have hx := hN x (by simp)
    have hpi := hP i (by omega) (by simp)
    have hv : ptV x (P i) = 2 + P i - x.1 := by
      have h1 := hp.1
      unfold ptV at h1 ⊢
      rw [ha.1, Bool.not_true, ifK_false] at h1 ⊢
      rw [wrap_id (x := 2 + P i) (by omega), wrap_id (by omega)] at h1 ⊢
      simp only [decide_eq_true_eq] at h1
      split
      · rfl
      · rename_i hn
        rw [if_neg hn] at h1
        omega
    rw [show sumI (ptV x (P i) :: lsGo ptV P r (i + 1)) = ptV x (P i) + sumI (lsGo ptV P r (i + 1)) from rfl, ih, hv, show sumN (x :: r) = x.1 + sumN r from rfl, preS_shift, show i + (x :: r).length = i + 1 + r.length by simp; omega, List.length_cons]
    simp
    omega
/-- Where a hole does not count, it has no points. -/
theorem no_points {P : Nat → Int} : ∀ (N : List NetV) (i : Nat), allB N = false → posB (lsGo ptV P N i) = false
  | [], _, h => by cases h
  | x :: r, i, h => by
    rw [show lsGo ptV P (x :: r) i = ptV x (P i) :: lsGo ptV P r (i + 1) from rfl, show posB (ptV x (P i) :: lsGo ptV P r (i + 1)) = (decide (ptV x (P i) > 0) && posB (lsGo ptV P r (i + 1))) from rfl]
    rw [show allB (x :: r) = (emptyB x.2 && allB r) from rfl] at h
    cases he : emptyB x.2 with
    | true =>
      rw [he, Bool.true_and] at h
      rw [no_points r (i + 1) h, Bool.and_false]
    | false =>
      have : ptV x (P i) = 0 := by unfold ptV; rw [he]; rfl
      rw [this]
      rfl
theorem pts_b {P : Nat → Int} : ∀ (N : List NetV) (i : Nat), (∀ y ∈ N, -1000 ≤ y.1 ∧ y.1 ≤ 1000) → (∀ k, i ≤ k → k < i + N.length → 3 ≤ P k ∧ P k ≤ 6) → ∀ z ∈ lsGo ptV P N i, 0 ≤ z ∧ z ≤ 2000
  | [], _, _, _, z, hz => by cases hz
  | x :: r, i, hN, hP, z, hz => by
    rw [show lsGo ptV P (x :: r) i = ptV x (P i) :: lsGo ptV P r (i + 1) from rfl] at hz
    rcases List.mem_cons.1 hz with rfl | hz
    · have hx := hN x (by simp)
      have hpi := hP i (by omega) (by simp)
      unfold ptV
      cases emptyB x.2 with
      | false => rw [Bool.not_false, ifK_true]; omega
      | true =>
        rw [Bool.not_true, ifK_false, wrap_id (x := 2 + P i) (by omega), wrap_id (by omega)]
        split <;> omega
    · exact pts_b r (i + 1) (fun y hy => hN y (List.mem_cons_of_mem _ hy)) (fun k h1 h2 => hP k (by omega) (by simp; omega)) z hz
end Go.Pd
end

section
namespace Go.Pd
open Go Go.Proofs Go.RowKit

theorem holes1 {n : Nat} {c : List D} {P S : Nat → Int} (hc : HolesC n c P S) {i : Nat} (hi : i < n) {γ : Type} (k : D → Option γ) : cellK c (Int.toNat (i : Int) * 2 + 1) k = k (.int .i64 (S i)) := cellK_some (by rw [Int.toNat_natCast]; exact (hc i hi).2) k
theorem flat_ints : ∀ l : List Int, l.flatMap intD = ints l
  | [] => rfl
  | x :: l => by rw [List.flatMap_cons, flat_ints l]; rfl
section
variable {call : FuncId → List D → Option D} {f gf qf g : Bool} {n : Nat} {c lc : List D} {P S gv : Nat → Int} {s : ByteArray} {ln : Nat} {h : Int}
theorem inner8 (hc : HolesC n c P S) (hn : n ≤ 36) (hg : ∀ i, -99 ≤ gv i ∧ gv i ≤ 100) (f1 : ∀ i k, gv i - gv k ≤ 1) (f2 : ∀ i k, S i < S k → ¬ gv i < gv k) (fo i : Nat) (hi : i < n) {qn : Nat} {qc : List D} (a b d : Int) (e : Bool) (t : Int) : ∀ (m k fuel : Nat), k + m = n → m < fuel →
    F8_4171390 call LL C1 fo fuel f n c gf n (tabF gv n) qf qn qc a b d e i t s g ln lc h n k = F8_1018 call LL C1 fo f n c gf n (tabF gv n) qf qn qc s g ln lc h a b d e t (IntKind.wrap .i64 ((i : Int) + 1)) := by
  intro m
  induction m with
  | zero =>
    intro k fuel hk hf
    cases fuel with
    | zero => exact absurd hf (Nat.not_lt_zero _)
    | succ fuel =>
      have h1 : decide ((k : Int) < (n : Int)) = false := by simp; omega
      rw [F8_4171390_eq, h1, ifK_false]
  | succ m ih =>
    intro k fuel hk hf
    cases fuel with
    | zero => exact absurd hf (Nat.not_lt_zero _)
    | succ fuel =>
      have h1 : decide ((k : Int) < (n : Int)) = true := by simp; omega
      have h2 : decide ((0 : Int) ≤ (k : Int) ∧ (k : Int) < (n : Int)) = true := by simp; omega
      have h3 : decide ((0 : Int) ≤ (i : Int) ∧ (i : Int) < (n : Int)) = true := by simp; omega
      have hw : IntKind.wrap .i64 ((k : Int) + 1) = ((k + 1 : Nat) : Int) := by rw [wrap_id (by omega)]; rfl
      have gi : ∀ {γ : Type} (c : D → Option γ), cellK (tabF gv n) (Int.toNat (i : Int) * 1) c = c (.int .i64 (gv i)) := fun c => cellK_some (by rw [Int.toNat_natCast, Nat.mul_one]; exact tabF_get gv n _ hi) c
      have gk : ∀ {γ : Type} (c : D → Option γ), cellK (tabF gv n) (Int.toNat (k : Int) * 1) c = c (.int .i64 (gv k)) := fun c => cellK_some (by rw [Int.toNat_natCast, Nat.mul_one]; exact tabF_get gv n _ (by omega)) c
      have si : ∀ {γ : Type} (q : D → Option γ), cellK c (Int.toNat (i : Int) * 2 + 1) q = q (.int .i64 (S i)) := fun q => holes1 hc hi q
      have sk : ∀ {γ : Type} (q : D → Option γ), cellK c (Int.toNat (k : Int) * 2 + 1) q = q (.int .i64 (S k)) := fun q => holes1 hc (by omega) q
      have b1 := hg i
      have b2 := hg k
      have d1 : decide (IntKind.wrap .i64 (gv i - gv k) > 1) = false := by
        rw [wrap_id (by omega)]
        have := f1 i k
        simp
        omega
      have ih := ih (k + 1) fuel (by omega) (by omega)
      rw [F8_4171390_eq, h1, ifK_true, h3, chkK_true, gi, intK_int, h2, chkK_true, gk, intK_int, d1, ifK_false, chkK_true, si, intK_int, chkK_true, sk, intK_int, hw, ih]
      cases hs : decide (S i < S k) with
      | false => rw [ifK_false]
      | true =>
        have hlt : S i < S k := by simpa using hs
        have d2 : decide (gv i < gv k) = false := by simpa using f2 i k hlt
        rw [ifK_true, chkK_true, gi, intK_int, chkK_true, gk, intK_int, d2, ifK_false]
theorem outer8 (hc : HolesC n c P S) (hn : n ≤ 36) (hg : ∀ i, -99 ≤ gv i ∧ gv i ≤ 100) (f1 : ∀ i k, gv i - gv k ≤ 1) (f2 : ∀ i k, S i < S k → ¬ gv i < gv k) (hP : ∀ i, i < n → 3 ≤ P i ∧ P i ≤ 6) (pts : List Int) (hq : ∀ z ∈ pts, 0 ≤ z ∧ z ≤ 2000) (hpl : pts.length = n)
    (hEnd : ∀ fuel, F8_1018 call LL C1 (fuel + 1) f n c gf n (tabF gv n) qf n (ints pts) s g ln lc h (preS gv n) (preS P n) (sumI pts) (posB pts) n n = some (.bool true)) : ∀ (r pre : List Int) (fuel : Nat), pts = pre ++ r → r.length < fuel → 0 ≤ sumI pre → sumI pre ≤ 2000 * pre.length →
    F8_1018 call LL C1 fuel f n c gf n (tabF gv n) qf n (ints pts) s g ln lc h (preS gv pre.length) (preS P pre.length) (sumI pre) (posB pre) n (pre.length : Int) = some (.bool true) := by
  intro r
  induction r with
  | nil =>
    intro pre fuel hp hf _ _
    cases fuel with
    | zero => exact absurd hf (Nat.not_lt_zero _)
    | succ fuel =>
      have e : pre = pts := by rw [hp, List.append_nil]
      subst e
      rw [hpl]
      exact hEnd fuel
  | cons x r ih =>
    intro pre fuel hp hf hs1 hs2
    cases fuel with
    | zero => exact absurd hf (Nat.not_lt_zero _)
    | succ fuel =>
      have hlen : n = pre.length + r.length + 1 := by rw [← hpl, hp]; simp; omega
      have hi : pre.length < n := by omega
      have hx := hq x (by rw [hp]; simp)
      have h1 : decide ((pre.length : Int) < (n : Int)) = true := by simp; omega
      have h2 : decide ((0 : Int) ≤ (pre.length : Int) ∧ (pre.length : Int) < (n : Int)) = true := by simp; omega
      have hw : IntKind.wrap .i64 ((pre.length : Int) + 1) = ((pre.length + 1 : Nat) : Int) := by rw [wrap_id (by omega)]; rfl
      have gi : ∀ {γ : Type} (c : D → Option γ), cellK (tabF gv n) (Int.toNat (pre.length : Int) * 1) c = c (.int .i64 (gv pre.length)) := fun c => cellK_some (by rw [Int.toNat_natCast, Nat.mul_one]; exact tabF_get gv n _ hi) c
      have pi : ∀ {γ : Type} (q : D → Option γ), cellK c (Int.toNat (pre.length : Int) * 2 + 0) q = q (.int .i64 (P pre.length)) := fun q => holes0 hc hi q
      have qi : ∀ {γ : Type} (q : D → Option γ), cellK (ints pts) (Int.toNat (pre.length : Int) * 1) q = q (.int .i64 x) := fun q => by rw [hp]; exact cell_ints pre x r q
      have bg := preS_b (F := gv) (B := 100) pre.length fun i _ => by have := hg i; omega
      have bp := preS_b (F := P) (B := 6) pre.length fun i hi' => by have := hP i (by omega); omega
      have b1 := hg pre.length
      have b2 := hP pre.length hi
      have ih := ih (pre ++ [x]) fuel (by rw [hp]; simp) (by simp at hf; omega) (by rw [sumI_snoc]; omega) (by rw [sumI_snoc]; simp; omega)
      rw [posB_snoc, sumI_snoc, show (pre ++ [x]).length = pre.length + 1 by simp, preS_shift, preS_shift] at ih
      have hin := fun e => inner8 (call := call) (f := f) (gf := gf) (qf := qf) (g := g) (lc := lc) (s := s) (ln := ln) (h := h) hc hn hg f1 f2 fuel pre.length hi (qn := n) (qc := ints pts) (preS gv pre.length + gv pre.length) (preS P pre.length + P pre.length) (sumI pre + x) e n n 0 LL (by omega) (by unfold LL; omega)
      rw [show ((0 : Nat) : Int) = 0 from rfl] at hin
      rw [F8_1018_eq, h1, ifK_true, h2, chkK_true, gi, intK_int, chkK_true, pi, intK_int, chkK_true, qi, intK_int, chkK_true, qi, intK_int, F8_1042847_eq (hC := (fun _ => rfl : ∀ t, C1 t = 1)), F8_1042847_eq (hC := (fun _ => rfl : ∀ t, C1 t = 1)),
        wrap_id (x := preS gv pre.length + gv pre.length) (by omega), wrap_id (x := preS P pre.length + P pre.length) (by omega), wrap_id (x := sumI pre + x) (by omega), hin, hin, hw]
      cases hb : posB pre with
      | true => rw [hb, Bool.true_and] at ih; rw [ifK_true]; exact ih
      | false => rw [hb, Bool.false_and] at ih; rw [ifK_false]; exact ih
end
theorem plErr_holes {n : Nat} {P S : Nat → Int} {s : ByteArray} {l : List NetV} {h : Int} (hz : plErr n P S s l h = 0) : holesErr n P S = 0 ∧ givErr n P S h = 0 := by
  unfold plErr fst2 at hz
  cases h1 : cardErr n P S s l != 0 with
  | true => rw [h1, ifK_true] at hz; rw [hz] at h1; cases h1
  | false =>
    rw [h1, ifK_false] at hz
    have h0 : cardErr n P S s l = 0 := by simpa using h1
    obtain ⟨e1, _⟩ := fst4_z h0
    refine ⟨e1, ?_⟩
    unfold givErr
    rw [e1, hz]
    rfl
theorem gvH_b {n : Nat} (h0 : 0 < n) (hn : n ≤ 36) {S : Nat → Int} {h : Int} (hl : -99 ≤ h) (hr : h ≤ 99) : ∀ i, -99 ≤ gvH n S h i ∧ gvH n S h i ≤ 100 := fun i => by
  obtain ⟨q1, q2, _⟩ := quo_bound h0 hn hl hr
  unfold gvH
  cases decide (S i ≤ h % n) with
  | true => rw [ifK_true]; omega
  | false => rw [ifK_false]; omega
/-- FormatSums is true of all holes and players. -/
theorem ok8 {f g : Bool} {n : Nat} {c : List D} {P S : Nat → Int} (hc : HolesC n c P S) (s : ByteArray) (l : List NetV) (h : Int) : OK5 8 [.slc f n c, plD s g l h] (.bool true) := by
  have k15 := ok15p (f := f) (g := g) (n := n) (c := c) s l h
  cases hfew : ifK (shP s l) (decide ((n : Int) ≤ 39)) false with
  | false =>
    rw [hfew] at k15
    refine fnT (tabC_ok (l := [(15, [.slc f n c, .slc true 1 [.str s, .slc g l.length (l.flatMap netD), .int .i64 h]], .bool false), (16, [], .bool true)]) fun e he => by
      simp only [List.mem_cons, List.not_mem_nil, or_false] at he
      rcases he with rfl | rfl
      · exact k15
      · exact awake_ok) Tryz.func8 (ord := O0) (N := N8) (by kernel_rfl) ((F8_eq _ _ _ _ _ _ _ _ _ _ _).trans ?_)
    rw [callOf_tab rfl, tabC_hit, optK_some, boolK_bool, show (!false) = true from rfl, ifK_true, callOf_tab rfl, tabC_skip (by decide), tabC_hit, optK_some, boolK_bool]
  | true =>
    rw [hfew] at k15
    have hsh : shP s l = true := by
      cases hs : shP s l with
      | true => rfl
      | false => rw [hs] at hfew; cases hfew
    obtain ⟨b1, b2⟩ := shP_true hsh
    have k23 := ok23 (f := f) (g := g) hc s l h (by omega)
    cases hz : plErr n P S s l h != 0 with
    | true =>
      refine fnT (tabC_ok (l := [(15, [.slc f n c, .slc true 1 [.str s, .slc g l.length (l.flatMap netD), .int .i64 h]], .bool true), (16, [], .bool true), (23, [.slc f n c, plD s g l h], .int .i64 (plErr n P S s l h))]) fun e he => by
        simp only [List.mem_cons, List.not_mem_nil, or_false] at he
        rcases he with rfl | rfl | rfl
        · exact k15
        · exact awake_ok
        · exact k23) Tryz.func8 (ord := O0) (N := N8) (by kernel_rfl) ((F8_eq _ _ _ _ _ _ _ _ _ _ _).trans ?_)
      rw [callOf_tab rfl, tabC_hit, optK_some, boolK_bool, show (!true) = false from rfl, ifK_false, callOf_tab rfl]
      show optK (tabC _ 23 [.slc f n c, plD s g l h]) _ = _
      rw [tabC_skip (by decide), tabC_skip (by decide), tabC_hit, optK_some, intK_int, hz, ifK_true, callOf_tab rfl, tabC_skip (by decide), tabC_hit, optK_some, boolK_bool]
    | false =>
      have hz0 : plErr n P S s l h = 0 := by simpa using hz
      obtain ⟨⟨a1, a2, a3⟩, ⟨a4, a5⟩, a6, a7⟩ := plErr_zero hz0
      obtain ⟨e1, e2⟩ := plErr_holes hz0
      have k53 := ok53 (f := f) (g := g) hc s l h (by omega) (by omega)
      have k54 := ok54 (f := f) (g := g) hc s l h (by omega) (by omega)
      have k52 := ok52 (f := f) (g := g) hc s l h (by omega) (by omega)
      have k17 := ok17 (f := f) hc h
      rw [hz, ifK_false] at k53 k54 k52
      rw [e2, show ((0 : Int) != 0) = false from rfl, ifK_false] at k17
      rw [hz0] at k23
      have hg := gvH_b (S := S) a1 a2 a4 a5
      have hsum := given_sum a1 a3 (holes_distinct e1) h
      have hP := holes_par e1
      have hNb := ntGo_b hg l 0 a7
      have hNl : (ntGo (gvH n S h) l 0).length = n := by rw [ntGo_len, a6]
      have hpl : (lsGo ptV P (ntGo (gvH n S h) l 0) 0).length = n := by rw [lsGo_len, hNl]
      have hqb := pts_b (P := P) (ntGo (gvH n S h) l 0) 0 hNb (fun k _ hk => hP k (by omega))
      have hnet := sum_net hg l 0 a7
      have hpts := sum_points (P := P) (ntGo (gvH n S h) l 0) 0 hNb (fun k _ hk => hP k (by omega))
      have hno := no_points (P := P) (ntGo (gvH n S h) l 0) 0
      have hgr : sumW l 0 = sumN l := by
        rw [sumW_eq (B := 99) (by omega) (by omega) l 0 (fun x hx => by have := entE_strokes (a7 x hx); omega) (by omega) (by omega)]
        omega
      have hsc : sumW (ntGo (gvH n S h) l 0) 0 = sumN (ntGo (gvH n S h) l 0) := by
        rw [sumW_eq (B := 1000) (by omega) (by omega) _ 0 hNb (by omega) (by omega)]
        omega
      have hgrb : -(99 * (l.length : Int)) ≤ sumN l ∧ sumN l ≤ 99 * (l.length : Int) := by
        have key : ∀ l : List NetV, (∀ x ∈ l, entE x = 0) → -(99 * (l.length : Int)) ≤ sumN l ∧ sumN l ≤ 99 * (l.length : Int) := by
          intro l
          induction l with
          | nil => intro _; simp [sumN, sumI]
          | cons x r ih =>
            intro hx
            have h1 := entE_strokes (hx x (by simp))
            have h2 := ih fun y hy => hx y (List.mem_cons_of_mem _ hy)
            rw [show sumN (x :: r) = x.1 + sumN r from rfl, List.length_cons, show ((r.length + 1 : Nat) : Int) = (r.length : Int) + 1 by simp]
            omega
        exact key l a7
      rw [hgr] at k53
      rw [hsc] at k54
      rw [Nat.zero_add, a6, hsum, show preS (gvH n S h) 0 = 0 from rfl] at hnet
      rw [Nat.zero_add, hNl, show preS P 0 = 0 from rfl] at hpts
      have hparb := preS_b (F := P) (B := 6) n fun i hi => by have := hP i hi; omega
      have f1 : ∀ i k, gvH n S h i - gvH n S h k ≤ 1 := fun i k => by
        unfold gvH
        cases decide (S i ≤ h % n) <;> cases decide (S k ≤ h % n) <;> simp [ifK] <;> omega
      have f2 : ∀ i k, S i < S k → ¬ gvH n S h i < gvH n S h k := fun i k hlt => by
        unfold gvH
        by_cases hk : S k ≤ h % n
        · rw [show decide (S k ≤ h % n) = true by simpa using hk, show decide (S i ≤ h % n) = true by simp; omega]
          omega
        · rw [show decide (S k ≤ h % n) = false by simpa using hk]
          cases decide (S i ≤ h % n) <;> simp [ifK] <;> omega
      generalize lsGo ptV P (ntGo (gvH n S h) l 0) 0 = pts at *
      generalize ntGo (gvH n S h) l 0 = N at *
      have hb : CallsT (tabC [(15, [.slc f n c, .slc true 1 [.str s, .slc g l.length (l.flatMap netD), .int .i64 h]], .bool true), (16, [], .bool true), (23, [.slc f n c, plD s g l h], .int .i64 0), (17, [.slc f n c, .int .i64 h], .tup [.slc false n (tabF (gvH n S h) n), .int .i64 0]),
          (52, [.slc f n c, plD s g l h], .tup [slR intD pts, .int .i64 0]), (53, [.slc f n c, plD s g l h], .tup [.int .i64 (ifK (allB N) (sumN l) 0), .int .i64 (ifK (allB N) 0 7)]), (54, [.slc f n c, plD s g l h], .tup [.int .i64 (ifK (allB N) (sumN N) 0), .int .i64 (ifK (allB N) 0 7)])]) := tabC_ok fun x hx => by
        simp only [List.mem_cons, List.not_mem_nil, or_false] at hx
        rcases hx with rfl | rfl | rfl | rfl | rfl | rfl | rfl
        · exact k15
        · exact awake_ok
        · exact k23
        · exact k17
        · exact k52
        · exact k53
        · exact k54
      generalize hL : tabC [(15, [.slc f n c, .slc true 1 [.str s, .slc g l.length (l.flatMap netD), .int .i64 h]], .bool true), (16, [], .bool true), (23, [.slc f n c, plD s g l h], .int .i64 0), (17, [.slc f n c, .int .i64 h], .tup [.slc false n (tabF (gvH n S h) n), .int .i64 0]),
          (52, [.slc f n c, plD s g l h], .tup [slR intD pts, .int .i64 0]), (53, [.slc f n c, plD s g l h], .tup [.int .i64 (ifK (allB N) (sumN l) 0), .int .i64 (ifK (allB N) 0 7)]), (54, [.slc f n c, plD s g l h], .tup [.int .i64 (ifK (allB N) (sumN N) 0), .int .i64 (ifK (allB N) 0 7)])] = B at hb
      have t15 : callOf B 15 [.slc f n c, .slc true 1 [.str s, .slc g l.length (l.flatMap netD), .int .i64 h]] = some (.bool true) := by rw [callOf_b rfl, ← hL]; simp [tabC]
      have t16 : callOf B 16 [] = some (.bool true) := by rw [callOf_b rfl, ← hL]; simp [tabC]
      have t23 : callOf B 23 [.slc f n c, .agg [.str s, .slc g l.length (l.flatMap netD), .int .i64 h]] = some (.int .i64 0) := by rw [callOf_b rfl, ← hL]; simp [tabC, plD]
      have t17 : callOf B 17 [.slc f n c, .int .i64 h] = some (.tup [.slc false n (tabF (gvH n S h) n), .int .i64 0]) := by rw [callOf_b rfl, ← hL]; simp [tabC]
      have t52 : callOf B 52 [.slc f n c, .agg [.str s, .slc g l.length (l.flatMap netD), .int .i64 h]] = some (.tup [.slc pts.isEmpty n (ints pts), .int .i64 0]) := by
        rw [callOf_b rfl, ← hL]
        simp [tabC, plD, slR, flat_ints, hpl]
      have t53 : callOf B 53 [.slc f n c, .agg [.str s, .slc g l.length (l.flatMap netD), .int .i64 h]] = some (.tup [.int .i64 (ifK (allB N) (sumN l) 0), .int .i64 (ifK (allB N) 0 7)]) := by rw [callOf_b rfl, ← hL]; simp [tabC, plD]
      have t54 : callOf B 54 [.slc f n c, .agg [.str s, .slc g l.length (l.flatMap netD), .int .i64 h]] = some (.tup [.int .i64 (ifK (allB N) (sumN N) 0), .int .i64 (ifK (allB N) 0 7)]) := by rw [callOf_b rfl, ← hL]; simp [tabC, plD]
      refine fnT hb Tryz.func8 (ord := O0) (N := N8) (by kernel_rfl) ((F8_eq _ _ _ _ _ _ _ _ _ _ _).trans ?_)
      rw [t15, optK_some, boolK_bool, show (!true) = false from rfl, ifK_false, t23, optK_some, intK_int, show ((0 : Int) != 0) = false from rfl, ifK_false, F8_7_eq (hC := (fun _ => rfl : ∀ t, C1 t = 1)), t17, optK_some, tup2, cellK_some rfl, slcK_slc, cellK_some rfl, intK_int,
        t52, optK_some, tup2, cellK_some rfl, slcK_slc, cellK_some rfl, intK_int, show ((0 : Int) != 0) = false from rfl, ifK_false, ifK_false, show ((n : Int) != n) = false by simp, ifK_false, ifK_false, F8_63_eq (hC := (fun _ => rfl : ∀ t, C1 t = 1))]
      refine outer8 (call := callOf B) hc a2 hg f1 f2 hP pts hqb hpl (fun fuel => ?_) pts [] LL rfl (by unfold LL; omega) (by simp [sumI]) (by simp [sumI])
      have hnn : decide ((n : Int) < (n : Int)) = false := by simp
      rw [F8_1018_eq, hnn, ifK_false, t53, optK_some, tup2, cellK_some rfl, intK_int, cellK_some rfl, intK_int, t54, optK_some, tup2, cellK_some rfl, intK_int, cellK_some rfl, intK_int, hsum, show (h != h) = false by simp, ifK_false]
      cases hq : allB N with
      | true =>
        have hn1 := hnet hq
        rw [ifK_true, ifK_true, ifK_true, show ((0 : Int) != 0) = false from rfl, ifK_false, ifK_false, F8_2047_eq (hC := (fun _ => rfl : ∀ t, C1 t = 1)), show ((0 : Int) != 0) = false from rfl, ifK_false, wrap_id (x := sumN l - h) (by omega), show (sumN N == sumN l - h) = true by simp; omega, ifK_true, t16, optK_some, boolK_bool]
        cases hp : posB pts with
        | false => rfl
        | true =>
          have hpp := hpts hq hp
          rw [show (!true) = false from rfl, ifK_false, wrap_id (x := 2 * (n : Int)) (by omega), wrap_id (x := 2 * (n : Int) + preS P n) (by omega), wrap_id (by omega), show (sumI pts == 2 * (n : Int) + preS P n - sumN N) = true by simp; omega, ifK_true]
      | false =>
        have hp := hno hq
        rw [ifK_false, ifK_false, ifK_false, show ((7 : Int) != 7) = false from rfl, ifK_false, show ((7 : Int) != 0) = true from rfl, ifK_true, ifK_false, F8_2047_eq (hC := (fun _ => rfl : ∀ t, C1 t = 1)), show ((7 : Int) != 0) = true from rfl, ifK_true, hp, show (!false) = true from rfl, ifK_true, t16, optK_some, boolK_bool]
end Go.Pd
end

section
namespace Go.Pd
open Go Go.Proofs Go.RowKit
set_option maxRecDepth 100000
theorem ty_entry {n : Nat} {d : List D} (h : Ty Tryz.prog (n + 2) 139 d) : ∃ x, d = netD x := by
  obtain ⟨g1, g2, rfl, h1, h2⟩ := ty_struct2 Tryz.underlying139 rfl h
  obtain ⟨x, rfl, _⟩ := ty_int Tryz.underlying3 h1
  obtain ⟨s, rfl, _⟩ := ty_str Tryz.underlying9 h2
  exact ⟨(x, s), rfl⟩
theorem ty_player {n : Nat} {c : List D} (h : Ty Tryz.prog (n + 5) 37 c) : ∃ (s : ByteArray) (l : List NetV) (x : Int), c = [.str s, .slc false l.length (l.flatMap netD), .int .i64 x] := by
  obtain ⟨g1, g2, rfl, h1, h2⟩ := ty_struct2 Tryz.underlying37 rfl h
  obtain ⟨g3, g4, rfl, h3, h4⟩ := ty_struct2 Tryz.underlying35 rfl h1
  obtain ⟨x, rfl, _⟩ := ty_int Tryz.underlying3 h2
  obtain ⟨s, rfl, _⟩ := ty_str Tryz.underlying9 h3
  obtain ⟨gs, rfl, _, h5⟩ := ty_slice Tryz.underlying33 h4
  obtain ⟨l, h6, h7⟩ := rows_of netD (p := Ty Tryz.prog (n + 2) 139) (fun d hd => ty_entry hd) gs h5
  exact ⟨s, l, x, by rw [h6, h7]; rfl⟩
def holeE (h : Int × Int) : List D := [.int .i64 h.1, .int .i64 h.2]
theorem ty_holeE {n : Nat} {d : List D} (h : Ty Tryz.prog (n + 2) 83 d) : ∃ x, d = holeE x := by
  obtain ⟨g1, g2, rfl, h1, h2⟩ := ty_struct2 Tryz.underlying83 rfl h
  obtain ⟨x, rfl, _⟩ := ty_int Tryz.underlying3 h1
  obtain ⟨y, rfl, _⟩ := ty_int Tryz.underlying3 h2
  exact ⟨(x, y), rfl⟩
/-- Holes, by their pars and indices. -/
theorem ty_holesE {m : Nat} {c : List D} (h : Ty Tryz.prog (m + 3) 22 c) : ∃ (n : Nat) (d : List D) (P S : Nat → Int), c = [.slc false n d] ∧ HolesC n d P S := by
  obtain ⟨gs, rfl, _, h1⟩ := ty_slice Tryz.underlying22 h
  obtain ⟨l, h2, h3⟩ := rows_of holeE (fun d hd => ty_holeE hd) gs h1
  refine ⟨l.length, l.flatMap holeE, fun i => (l[i]?.getD (0, 0)).1, fun i => (l[i]?.getD (0, 0)).2, by rw [h2, h3], fun i hi => ?_⟩
  have hsplit : l = l.take i ++ l[i] :: l.drop (i + 1) := by simp
  have hlen : (l.take i).length = i := by simp; omega
  have key : ∀ j, j < 2 → (l.flatMap holeE)[i * 2 + j]? = (holeE l[i])[j]? := fun j hj => by
    have := flat_get l[i] (l.drop (i + 1)) holeE 2 (fun _ => rfl) (l.take i) j hj
    rw [← hsplit, hlen] at this
    exact this
  rw [key 0 (by omega), key 1 (by omega)]
  simp only [List.getElem?_eq_getElem hi]
  exact ⟨rfl, rfl⟩
end Go.Pd
end
