/-
  Chapter 2: what the functions of places and polygons make of open arguments (printed by the desk tool, each proved by the kernel).
  Chapter 2: contracts of calls from equations; tables of calls from what is known of each of them.
  Chapter 2: integers and fractions of the program, as long as they are machine integers, as equations.
  DERIVED: THE SHELF's CONTRACTS AT THIS DUMP, IN PLAIN WORDS (tools/lay-plain.mjs out of 'ZzC2Shelf.lean', which tools/lay-shelf.mjs wrote): THE SAME DECLARATIONS UNDER THE SAME NAMES: 'import', 'namespace', 'open', 'def', 'theorem' AND NOTHING ELSE: no command of the shelf's: FOR A HAND-IN. Each laying: the table of numbers ('.._ren') and one theorem, a field a fact of the dump's own or the kernel's comparison; each contract: ONE APPLICATION.
  Chapter 2: integers and fractions of the program, as long as they are machine integers: what each function answers.
  Chapter 2: division, the greatest common divisor, and fractions of the program, of small numbers: what each function answers.
-/
import Derived.Test.YtmhbhlbnlmbhlaaGreatDoorCrA
import Derived.KernelRfl
import Derived.Test.YtmhbhlbnlmbhlaaGreatDoorPdFf
import Derived.IntWalk
import Derived.Shelf.Abstract
import Derived.Shelf.Strconv.Itoa3
import Derived.Shelf.Bits.Mul64
import Derived.Ground.Names2Prog
import Derived.Test.YtmhbhlbnlmbhlaaGreatDoorProg
section
namespace Go.Pd
open Go Go.Proofs
set_option maxRecDepth 100000
theorem F109_eq (call : CL) (L : Nat) (C : Nat → Nat) (J : Bool) (K : Nat) (z : List D) : evFnT (TE0 call L C) O0 N0 FinM.canon Tryz.f109 [D.slc J K z] =
 (some (D.fn (Fn.func 176) [] [D.snap [D.slc J K z] 0])) := by kernel_rfl
theorem F94_eq (call : CL) (L : Nat) (C : Nat → Nat) (J : Bool) (K : Nat) (z : List D) : evFnT (TE0 call L C) O0 N0 FinM.canon Tryz.f94 [D.slc J K z] =
 (some (D.fn (Fn.func 160) [] [D.snap [D.slc J K z] 0])) := by kernel_rfl
theorem F24_eq (call : CL) (L : Nat) (C : Nat → Nat) (z J : Int) : evFnT (TEf call L C) O0 N0 FinM.canon Tryz.f24 [D.agg [D.int .i64 z, D.int .i64 J]] =
 (optK (call 90 [D.int .i64 z]) fun r =>
 (boolK r fun b =>
 (ifK b
 (some (D.int .i64 3))
 (optK (call 90 [D.int .i64 J]) fun M =>
 (boolK M fun K =>
 (ifK K
 (some (D.int .i64 3))
 (some (D.int .i64 0)))))))) := by kernel_rfl
theorem F84_eq (call : CL) (L : Nat) (C : Nat → Nat) (J : Bool) (z : Int) : evFnT (TEf call L C) O0 N0 FinM.canon Tryz.f84 [D.bool J, D.int .i64 z] =
 (ifK J
 (some (D.int .i64 z))
 (some (D.int .i64 0))) := by kernel_rfl
def N76 : NTab := fun p => match p with
  | 26 => some { keep := [5, 6, 7], kl := [], ren := [] }
  | _ => none
noncomputable def F76_26 (call : CL) (L : Nat) (C : Nat → Nat) (n : Nat) (M : Bool) (O : Nat) (K : List D) (z J : Int) : Option D :=
 loopAt (TEf call L C) O0 N76 FinM.canon Tryz.f76 [true, false, true, false] []  n (St.mk (jn 5 (D.slc M O K :: D.int .i64 z :: D.int .i64 J :: jn 7 [])) (zn 15 []))
theorem F76_26_eq (call : CL) (L : Nat) (C : Nat → Nat) (n : Nat) (O : Bool) (M : Nat) (K : List D) (J z : Int) : F76_26 call L C  (n + 1) O M K J z =
 (ifK (decide (z < J))
 (chkK (decide (0 ≤ z ∧ z < (M : Int)))
 (cellK K (Int.toNat z * 1) fun d =>
 (intK .i64 d fun x =>
 (ifK (x != 0)
 (some (D.int .i64 x))
 (F76_26 call L C n O M K J (IntKind.wrap .i64 (z + 1)))))))
 (some (D.int .i64 0))) := by kernel_rfl
theorem F76_eq (call : CL) (L : Nat) (C : Nat → Nat) (K : Bool) (z : Nat) (J : List D) : evFnT (TEf call L C) O0 N76 FinM.canon Tryz.f76 [D.slc K z J] =
 (F76_26 call L C L K z J ((z : Int)) 0) := by kernel_rfl
theorem F77_eq (call : CL) (L : Nat) (C : Nat → Nat) (J : Bool) (K : Nat) (z : List D) : evFnT (TEf call L C) O0 N0 FinM.canon Tryz.f77 [D.slc J K z] =
 (optK (call 136 [D.slc J K z, D.fn (Fn.func 137) [] []]) fun r =>
 (boolK r fun b =>
 (optK (call 84 [D.bool b, D.int .i64 3]) fun M =>
 (intK .i64 M fun x =>
 (some (D.int .i64 x)))))) := by kernel_rfl
theorem F100_eq (call : CL) (L : Nat) (C : Nat → Nat) (z J K : Int) : evFnT (TEf call L C) O0 N0 FinM.canon Tryz.f100 [D.int .i64 z, D.int .i64 J, D.int .i64 K] =
 (ifK (decide (z < J))
 (some (D.bool true))
 (some (D.bool (decide (z > K))))) := by kernel_rfl
theorem F136_eq (call : CL) (L : Nat) (C : Nat → Nat) (J : Bool) (K : Nat) (z : List D) : evFnT (TEf call L C) O0 N0 FinM.canon Tryz.f136 [D.slc J K z, D.fn (Fn.func 137) [] []] =
 (optK (call 191 [D.slc J K z, D.fn (Fn.func 137) [] []]) fun r =>
 (intK .i64 r fun x =>
 (some (D.bool (decide (x ≥ 0)))))) := by kernel_rfl
theorem F137_eq (call : CL) (L : Nat) (C : Nat → Nat) (z J : Int) : evFnT (TEf call L C) O0 N0 FinM.canon Tryz.f137 [D.agg [D.int .i64 z, D.int .i64 J]] =
 (optK (call 100 [D.int .i64 z, D.int .i64 (-1000000), D.int .i64 1000000]) fun r =>
 (boolK r fun b =>
 (ifK b
 (some (D.bool true))
 (optK (call 100 [D.int .i64 J, D.int .i64 (-1000000), D.int .i64 1000000]) fun M =>
 (boolK M fun K =>
 (some (D.bool K))))))) := by kernel_rfl
def N191 : NTab := fun p => match p with
  | 26 => some { keep := [0, 1, 7, 8], kl := [], ren := [] }
  | _ => none
noncomputable def F191_26 (call : CL) (L : Nat) (C : Nat → Nat) (n : Nat) (M : Bool) (O : Nat) (K : List D) (z J : Int) : Option D :=
 loopAt (TEf call L C) O0 N191 FinM.canon Tryz.f191 [true, false, true, false] []  n (St.mk (D.slc M O K :: D.fn (Fn.func 137) [] [] :: jn 5 (D.int .i64 z :: D.int .i64 J :: jn 10 [])) (zn 19 []))
theorem F191_26_eq (call : CL) (L : Nat) (C : Nat → Nat) (n : Nat) (O : Bool) (M : Nat) (J : List D) (K z : Int) : F191_26 call L C  (n + 1) O M J K z =
 (ifK (decide (z < K))
 (chkK (decide (0 ≤ z ∧ z < (M : Int)))
 (cellK J (Int.toNat z * 2 + 0) fun d =>
 (intK .i64 d fun x =>
 (cellK J (Int.toNat z * 2 + 1) fun S =>
 (intK .i64 S fun U =>
 (optK (call 137 [D.agg [D.int .i64 x, D.int .i64 U]]) fun r =>
 (boolK r fun b =>
 (ifK b
 (some (D.int .i64 z))
 (F191_26 call L C n O M J K (IntKind.wrap .i64 (z + 1)))))))))))
 (some (D.int .i64 (-1)))) := by kernel_rfl
theorem F191_eq (call : CL) (L : Nat) (C : Nat → Nat) (K : Bool) (z : Nat) (J : List D) : evFnT (TEf call L C) O0 N191 FinM.canon Tryz.f191 [D.slc K z J, D.fn (Fn.func 137) [] []] =
 (F191_26 call L C L K z J ((z : Int)) 0) := by kernel_rfl
theorem F108_eq (call : CL) (L : Nat) (C : Nat → Nat) (z J M O S U : Int) : evFnT (TEf call L C) O0 N0 FinM.canon Tryz.f108 [D.agg [D.int .i64 z, D.int .i64 J], D.agg [D.int .i64 M, D.int .i64 O], D.agg [D.int .i64 S, D.int .i64 U]] =
 (optK (call 140 [D.agg [D.int .i64 M, D.int .i64 O], D.agg [D.int .i64 z, D.int .i64 J]]) fun r =>
 (aggK r 2 fun c =>
 (cellK c 0 fun d =>
 (intK .i64 d fun x =>
 (cellK c 1 fun V =>
 (intK .i64 V fun a1 =>
 (optK (call 140 [D.agg [D.int .i64 S, D.int .i64 U], D.agg [D.int .i64 z, D.int .i64 J]]) fun Y =>
 (aggK Y 2 fun K =>
 (cellK K 0 fun W =>
 (intK .i64 W fun a2 =>
 (cellK K 1 fun X =>
 (intK .i64 X fun a3 =>
 (optK (call 110 [D.agg [D.int .i64 x, D.int .i64 a1], D.agg [D.int .i64 a2, D.int .i64 a3]]) fun Z =>
 (intK .i64 Z fun a4 =>
 (optK (call 175 [D.int .i64 a4]) fun a0 =>
 (intK .i64 a0 fun a5 =>
 (some (D.int .i64 a5)))))))))))))))))) := by kernel_rfl
theorem F110_eq (call : CL) (L : Nat) (C : Nat → Nat) (z J K M : Int) : evFnT (TEf call L C) O0 N0 FinM.canon Tryz.f110 [D.agg [D.int .i64 z, D.int .i64 J], D.agg [D.int .i64 K, D.int .i64 M]] =
 (some (D.int .i64 (IntKind.wrap .i64 (IntKind.wrap .i64 (z * M) - IntKind.wrap .i64 (J * K))))) := by kernel_rfl
theorem F139_eq (call : CL) (L : Nat) (C : Nat → Nat) (z J K M : Int) : evFnT (TEf call L C) O0 N0 FinM.canon Tryz.f139 [D.agg [D.int .i64 z, D.int .i64 J], D.agg [D.int .i64 K, D.int .i64 M]] =
 (some (D.int .i64 (IntKind.wrap .i64 (IntKind.wrap .i64 (z * K) + IntKind.wrap .i64 (J * M))))) := by kernel_rfl
theorem F140_eq (call : CL) (L : Nat) (C : Nat → Nat) (z J K M : Int) : evFnT (TEf call L C) O0 N0 FinM.canon Tryz.f140 [D.agg [D.int .i64 z, D.int .i64 J], D.agg [D.int .i64 K, D.int .i64 M]] =
 (some (D.agg [D.int .i64 (IntKind.wrap .i64 (z - K)), D.int .i64 (IntKind.wrap .i64 (J - M))])) := by kernel_rfl
theorem F175_eq (call : CL) (L : Nat) (C : Nat → Nat) (z : Int) : evFnT (TEf call L C) O0 N0 FinM.canon Tryz.f175 [D.int .i64 z] =
 (ifK (decide (z < 0))
 (some (D.int .i64 (-1)))
 (ifK (decide (z > 0))
 (some (D.int .i64 1))
 (some (D.int .i64 0)))) := by kernel_rfl
theorem F138_eq (call : CL) (L : Nat) (C : Nat → Nat) (K M O S z J : Int) : evFnT (TEf call L C) O0 N0 FinM.canon Tryz.f138 [D.agg [D.int .i64 K, D.int .i64 M, D.int .i64 O, D.int .i64 S], D.agg [D.int .i64 z, D.int .i64 J]] =
 (optK (call 108 [D.agg [D.int .i64 K, D.int .i64 M], D.agg [D.int .i64 O, D.int .i64 S], D.agg [D.int .i64 z, D.int .i64 J]]) fun r =>
 (intK .i64 r fun x =>
 (ifK (x == 0)
 (optK (call 140 [D.agg [D.int .i64 K, D.int .i64 M], D.agg [D.int .i64 z, D.int .i64 J]]) fun Y =>
 (aggK Y 2 fun c =>
 (cellK c 0 fun d =>
 (intK .i64 d fun a1 =>
 (cellK c 1 fun V =>
 (intK .i64 V fun a2 =>
 (optK (call 140 [D.agg [D.int .i64 O, D.int .i64 S], D.agg [D.int .i64 z, D.int .i64 J]]) fun Z =>
 (aggK Z 2 fun U =>
 (cellK U 0 fun W =>
 (intK .i64 W fun a3 =>
 (cellK U 1 fun X =>
 (intK .i64 X fun a4 =>
 (optK (call 139 [D.agg [D.int .i64 a1, D.int .i64 a2], D.agg [D.int .i64 a3, D.int .i64 a4]]) fun a0 =>
 (intK .i64 a0 fun a5 =>
 (some (D.bool (decide (a5 ≤ 0))))))))))))))))))
 (some (D.bool false))))) := by kernel_rfl
def N174 : NTab := fun p => match p with
  | 7 => some { keep := [2, 3], kl := [], ren := [(2, 2), (3, 3)] }
  | _ => none
noncomputable def F174_7 (call : CL) (L : Nat) (C : Nat → Nat) (z K M O S U V W : Int) : Option D :=
 cutAt (TEf call L C) O0 N174 FinM.canon Tryz.f174 [true, true] []  (C 7) (St.mk (J :: J :: D.loc 2 0 0 :: D.loc 3 0 0 :: jn 57 []) (Z :: Z :: (1, some (Ob.box [D.int .i64 z, D.int .i64 K, D.int .i64 M, D.int .i64 O] false)) :: (1, some (Ob.box [D.int .i64 S, D.int .i64 U, D.int .i64 V, D.int .i64 W] false)) :: zn 57 []))
theorem F174_7_eq (call : CL) (L : Nat) (C : Nat → Nat) (z J K M O S U V : Int) (hC : ∀ t, C t = 1) : F174_7 call L C  z J K M O S U V  =
 (optK (call 108 [D.agg [D.int .i64 z, D.int .i64 J], D.agg [D.int .i64 K, D.int .i64 M], D.agg [D.int .i64 O, D.int .i64 S]]) fun W =>
 (intK .i64 W fun x =>
 (optK (call 108 [D.agg [D.int .i64 z, D.int .i64 J], D.agg [D.int .i64 K, D.int .i64 M], D.agg [D.int .i64 U, D.int .i64 V]]) fun X =>
 (intK .i64 X fun a0 =>
 (ifK (decide (IntKind.wrap .i64 (x * a0) < 0))
 (optK (call 108 [D.agg [D.int .i64 O, D.int .i64 S], D.agg [D.int .i64 U, D.int .i64 V], D.agg [D.int .i64 z, D.int .i64 J]]) fun Y =>
 (intK .i64 Y fun a1 =>
 (optK (call 108 [D.agg [D.int .i64 O, D.int .i64 S], D.agg [D.int .i64 U, D.int .i64 V], D.agg [D.int .i64 K, D.int .i64 M]]) fun Z =>
 (intK .i64 Z fun a2 =>
 (some (D.bool (decide (IntKind.wrap .i64 (a1 * a2) < 0))))))))
 (some (D.bool false))))))) := by
  unfold F174_7
  rw [hC]
  kernel_rfl
theorem F174_eq (call : CL) (L : Nat) (C : Nat → Nat) (z J K M O S U V : Int) : evFnT (TEf call L C) O0 N174 FinM.canon Tryz.f174 [D.agg [D.int .i64 z, D.int .i64 J, D.int .i64 K, D.int .i64 M], D.agg [D.int .i64 O, D.int .i64 S, D.int .i64 U, D.int .i64 V]] =
 (optK (call 138 [D.agg [D.int .i64 z, D.int .i64 J, D.int .i64 K, D.int .i64 M], D.agg [D.int .i64 O, D.int .i64 S]]) fun r =>
 (boolK r fun b =>
 (ifK b
 (some (D.bool true))
 (optK (call 138 [D.agg [D.int .i64 z, D.int .i64 J, D.int .i64 K, D.int .i64 M], D.agg [D.int .i64 U, D.int .i64 V]]) fun Z =>
 (boolK Z fun W =>
 (ifK W
 (some (D.bool true))
 (optK (call 138 [D.agg [D.int .i64 O, D.int .i64 S, D.int .i64 U, D.int .i64 V], D.agg [D.int .i64 z, D.int .i64 J]]) fun a0 =>
 (boolK a0 fun X =>
 (ifK X
 (some (D.bool true))
 (optK (call 138 [D.agg [D.int .i64 O, D.int .i64 S, D.int .i64 U, D.int .i64 V], D.agg [D.int .i64 K, D.int .i64 M]]) fun a1 =>
 (boolK a1 fun Y =>
 (ifK Y
 (some (D.bool true))
 (F174_7 call L C z J K M O S U V))))))))))))) := by kernel_rfl
def N107 : NTab := fun p => match p with
  | 218 => some { keep := [1, 2, 3], kl := [4, 5, 7], ren := [(1, 1), (2, 2), (3, 3), (4, 4), (5, 5), (7, 7)] }
  | 6998 => some { keep := [1, 2, 3, 4, 5], kl := [7], ren := [(1, 1), (2, 2), (3, 3), (4, 4), (5, 5), (7, 7)] }
  | _ => none
noncomputable def F107_6998 (call : CL) (L : Nat) (C : Nat → Nat) (sq : FuncId → List D → Option (List (List D))) (X : List (List D)) (Y : List (List D)) (M : Bool) (O : Nat) (K : List D) (S z vs U V W : Int) : Option D :=
 listAt (TEs call L C sq) O0 N107 FinM.canon Tryz.f107 [true, false, true, true, false, true, false, true, false, true, true, false] [Fu.l 176 X] 176 Y (St.mk (J :: D.loc 1 0 0 :: D.loc 2 0 0 :: D.loc 3 0 0 :: D.loc 4 0 0 :: D.loc 5 0 0 :: jn 83 []) (Z :: (1, some (Ob.box [D.slc M O K] false)) :: (1, some (Ob.box [D.bool false] false)) :: (1, some (Ob.box [D.int .i64 S] false)) :: (1, some (Ob.box [D.int .i64 z] false)) :: (1, some (Ob.box [D.int .i64 vs, D.int .i64 U, D.int .i64 V, D.int .i64 W] false)) :: zn 83 []))
noncomputable def F107_218 (call : CL) (L : Nat) (C : Nat → Nat) (sq : FuncId → List D → Option (List (List D))) (S : List (List D)) (K : Bool) (M : Nat) (z : List D) (O : Int) : Option D :=
 listAt (TEs call L C sq) O0 N107 FinM.canon Tryz.f107 [true, false, true, true, false, true, false] [] 176 S (St.mk (J :: D.loc 1 0 0 :: D.loc 2 0 0 :: D.loc 3 0 0 :: jn 85 []) (Z :: (1, some (Ob.box [D.slc K M z] false)) :: (1, some (Ob.box [D.bool false] false)) :: (1, some (Ob.box [D.int .i64 O] false)) :: zn 85 []))
theorem F107_6998_nil (call : CL) (L : Nat) (C : Nat → Nat) (sq : FuncId → List D → Option (List (List D))) (ys_1 : List (List D)) (vl_f : Bool) (vl_n : Nat) (vl_c : List D) (vn : Int) (vi : Int) (vs : Int) (vs1 : Int) (vs2 : Int) (vs3 : Int) : F107_6998 call L C sq ys_1 [] vl_f vl_n vl_c vn (vi) (vs) (vs1) (vs2) (vs3) =
  (F107_218 call L C sq ys_1 vl_f vl_n vl_c (vn)) := by kernel_rfl
theorem F107_6998_cons (call : CL) (L : Nat) (C : Nat → Nat) (sq : FuncId → List D → Option (List (List D))) (ys_1 : List (List D)) (y_1 : List D) (ys_3 : List (List D)) (vl_f : Bool) (vl_n : Nat) (vl_c : List D) (vn : Int) (vi : Int) (vs : Int) (vs1 : Int) (vs2 : Int) (vs3 : Int) : F107_6998 call L C sq ys_1 (y_1 :: ys_3) vl_f vl_n vl_c vn (vi) (vs) (vs1) (vs2) (vs3) =
  (chkK (decide (List.length y_1 = 2))
    (cellK (y_1) (0) fun d_6 =>
    (intK IntKind.i64 (d_6) fun x_5 =>
    (cellK (y_1) (1) fun d_7 =>
    (aggK (d_7) 4 fun c_1 =>
    (cellK (c_1) (0) fun d_8 =>
    (intK IntKind.i64 (d_8) fun x_6 =>
    (cellK (c_1) (1) fun d_9 =>
    (intK IntKind.i64 (d_9) fun x_7 =>
    (cellK (c_1) (2) fun d_10 =>
    (intK IntKind.i64 (d_10) fun x_8 =>
    (cellK (c_1) (3) fun d_11 =>
    (intK IntKind.i64 (d_11) fun x_9 =>
    (ifK (decide (x_5 ≤ vi))
      (F107_6998 call L C sq ys_1 ys_3 vl_f vl_n vl_c vn (vi) (vs) (vs1) (vs2) (vs3))
      (ifK (x_5 == IntKind.wrap IntKind.i64 (vi + 1))
        (optK (call 108 [D.agg [D.int IntKind.i64 vs, D.int IntKind.i64 vs1], D.agg [D.int IntKind.i64 vs2, D.int IntKind.i64 vs3], D.agg [D.int IntKind.i64 x_8, D.int IntKind.i64 x_9]]) fun r =>
          (intK IntKind.i64 (r) fun x_10 =>
          (ifK (x_10 == 0)
            (optK (call 140 [D.agg [D.int IntKind.i64 vs, D.int IntKind.i64 vs1], D.agg [D.int IntKind.i64 vs2, D.int IntKind.i64 vs3]]) fun r_1 =>
              (aggK (r_1) 2 fun c_2 =>
              (cellK (c_2) (0) fun d_12 =>
              (intK IntKind.i64 (d_12) fun x_11 =>
              (cellK (c_2) (1) fun d_13 =>
              (intK IntKind.i64 (d_13) fun x_12 =>
              (optK (call 140 [D.agg [D.int IntKind.i64 x_8, D.int IntKind.i64 x_9], D.agg [D.int IntKind.i64 vs2, D.int IntKind.i64 vs3]]) fun r_2 =>
                (aggK (r_2) 2 fun c_3 =>
                (cellK (c_3) (0) fun d_14 =>
                (intK IntKind.i64 (d_14) fun x_13 =>
                (cellK (c_3) (1) fun d_15 =>
                (intK IntKind.i64 (d_15) fun x_14 =>
                (optK (call 139 [D.agg [D.int IntKind.i64 x_11, D.int IntKind.i64 x_12], D.agg [D.int IntKind.i64 x_13, D.int IntKind.i64 x_14]]) fun r_3 =>
                  (intK IntKind.i64 (r_3) fun x_15 =>
                  (ifK (decide (x_15 > 0))
                    (some (D.bool false))
                    (F107_6998 call L C sq ys_1 ys_3 vl_f vl_n vl_c vn (vi) (vs) (vs1) (vs2) (vs3)))))))))))))))))
            (F107_6998 call L C sq ys_1 ys_3 vl_f vl_n vl_c vn (vi) (vs) (vs1) (vs2) (vs3)))))
        (ifK (vi == 0)
          (ifK (x_5 == IntKind.wrap IntKind.i64 (vn - 1))
            (optK (call 108 [D.agg [D.int IntKind.i64 x_6, D.int IntKind.i64 x_7], D.agg [D.int IntKind.i64 x_8, D.int IntKind.i64 x_9], D.agg [D.int IntKind.i64 vs2, D.int IntKind.i64 vs3]]) fun r_4 =>
              (intK IntKind.i64 (r_4) fun x_16 =>
              (ifK (x_16 == 0)
                (optK (call 140 [D.agg [D.int IntKind.i64 x_6, D.int IntKind.i64 x_7], D.agg [D.int IntKind.i64 x_8, D.int IntKind.i64 x_9]]) fun r_5 =>
                  (aggK (r_5) 2 fun c_4 =>
                  (cellK (c_4) (0) fun d_16 =>
                  (intK IntKind.i64 (d_16) fun x_17 =>
                  (cellK (c_4) (1) fun d_17 =>
                  (intK IntKind.i64 (d_17) fun x_18 =>
                  (optK (call 140 [D.agg [D.int IntKind.i64 vs2, D.int IntKind.i64 vs3], D.agg [D.int IntKind.i64 x_8, D.int IntKind.i64 x_9]]) fun r_6 =>
                    (aggK (r_6) 2 fun c_5 =>
                    (cellK (c_5) (0) fun d_18 =>
                    (intK IntKind.i64 (d_18) fun x_19 =>
                    (cellK (c_5) (1) fun d_19 =>
                    (intK IntKind.i64 (d_19) fun x_20 =>
                    (optK (call 139 [D.agg [D.int IntKind.i64 x_17, D.int IntKind.i64 x_18], D.agg [D.int IntKind.i64 x_19, D.int IntKind.i64 x_20]]) fun r_7 =>
                      (intK IntKind.i64 (r_7) fun x_21 =>
                      (ifK (decide (x_21 > 0))
                        (some (D.bool false))
                        (F107_218 call L C sq ys_1 vl_f vl_n vl_c (vn)))))))))))))))))
                (F107_218 call L C sq ys_1 vl_f vl_n vl_c (vn)))))
            (optK (call 174 [D.agg [D.int IntKind.i64 vs, D.int IntKind.i64 vs1, D.int IntKind.i64 vs2, D.int IntKind.i64 vs3], D.agg [D.int IntKind.i64 x_6, D.int IntKind.i64 x_7, D.int IntKind.i64 x_8, D.int IntKind.i64 x_9]]) fun r_8 =>
              (boolK (r_8) fun b =>
              (ifK (b)
                (some (D.bool false))
                (F107_6998 call L C sq ys_1 ys_3 vl_f vl_n vl_c vn (vi) (vs) (vs1) (vs2) (vs3))))))
          (optK (call 174 [D.agg [D.int IntKind.i64 vs, D.int IntKind.i64 vs1, D.int IntKind.i64 vs2, D.int IntKind.i64 vs3], D.agg [D.int IntKind.i64 x_6, D.int IntKind.i64 x_7, D.int IntKind.i64 x_8, D.int IntKind.i64 x_9]]) fun r_9 =>
            (boolK (r_9) fun b_1 =>
            (ifK (b_1)
              (some (D.bool false))
              (F107_6998 call L C sq ys_1 ys_3 vl_f vl_n vl_c vn (vi) (vs) (vs1) (vs2) (vs3))))))))))))))))))))) := by kernel_rfl
theorem F107_218_nil (call : CL) (L : Nat) (C : Nat → Nat) (sq : FuncId → List D → Option (List (List D))) (vl_f : Bool) (vl_n : Nat) (vl_c : List D) (vn : Int) : F107_218 call L C sq  [] vl_f vl_n vl_c (vn) =
  (some (D.bool true)) := by kernel_rfl
theorem F107_218_cons (call : CL) (L : Nat) (C : Nat → Nat) (sq : FuncId → List D → Option (List (List D))) (y : List D) (ys_1 : List (List D)) (vl_f : Bool) (vl_n : Nat) (vl_c : List D) (vn : Int) : F107_218 call L C sq  (y :: ys_1) vl_f vl_n vl_c (vn) =
  (chkK (decide (List.length y = 2))
    (cellK (y) (0) fun d =>
    (intK IntKind.i64 (d) fun x =>
    (cellK (y) (1) fun d_1 =>
    (aggK (d_1) 4 fun c =>
    (cellK (c) (0) fun d_2 =>
    (intK IntKind.i64 (d_2) fun x_1 =>
    (cellK (c) (1) fun d_3 =>
    (intK IntKind.i64 (d_3) fun x_2 =>
    (cellK (c) (2) fun d_4 =>
    (intK IntKind.i64 (d_4) fun x_3 =>
    (cellK (c) (3) fun d_5 =>
    (intK IntKind.i64 (d_5) fun x_4 =>
    (ifK (x_1 == x_3 && (x_2 == x_4 && true))
      (some (D.bool false))
      (optK (sq 176 [D.snap [D.slc vl_f vl_n vl_c] 0]) fun ys_2 =>
        (F107_6998 call L C sq ys_1 ys_2 vl_f vl_n vl_c vn (x) (x_1) (x_2) (x_3) (x_4))))))))))))))))) := by kernel_rfl
theorem F107_eq (call : CL) (L : Nat) (C : Nat → Nat) (sq : FuncId → List D → Option (List (List D))) (K : Bool) (z : Nat) (J : List D) : evFnT (TEs call L C sq) O0 N107 FinM.canon Tryz.f107 [D.slc K z J] =
 (optK (sq 176 [D.snap [D.slc K z J] 0]) fun ys =>
 (F107_218 call L C sq ys K z J ((z : Int)))) := by kernel_rfl
theorem F50_eq (call : CL) (L : Nat) (C : Nat → Nat) (K : Bool) (z : Nat) (J : List D) : evFnT (TEf call L C) O0 N0 FinM.canon Tryz.f50 [D.slc K z J] =
 (optK (call 84 [D.bool (decide ((z : Int) < 3)), D.int .i64 2]) fun r =>
 (intK .i64 r fun x =>
 (optK (call 84 [D.bool (decide ((z : Int) > 64)), D.int .i64 5]) fun O =>
 (intK .i64 O fun X =>
 (optK (call 77 [D.slc K z J]) fun S =>
 (intK .i64 S fun Y =>
 (optK (call 76 [D.slc true 3 [D.int .i64 x, D.int .i64 X, D.int .i64 Y]]) fun U =>
 (intK .i64 U fun M =>
 (ifK (M != 0)
 (some (D.int .i64 M))
 (optK (call 107 [D.slc K z J]) fun V =>
 (boolK V fun b =>
 (optK (call 84 [D.bool !b, D.int .i64 16]) fun W =>
 (intK .i64 W fun Z =>
 (some (D.int .i64 Z))))))))))))))) := by kernel_rfl
def N80 : NTab := fun p => match p with
  | 58 => some { keep := [3, 4, 5], kl := [7], ren := [(3, 3), (4, 4), (5, 5), (7, 7)] }
  | _ => none
noncomputable def F80_58 (call : CL) (L : Nat) (C : Nat → Nat) (sq : FuncId → List D → Option (List (List D))) (O : List (List D)) (K M z : Int) : Option D :=
 listAt (TEs call L C sq) O0 N80 FinM.canon Tryz.f80 [true, true, false, true, false] [] 176 O (St.mk (J :: J :: J :: D.loc 3 0 0 :: D.loc 4 0 0 :: D.loc 5 0 0 :: jn 38 []) (Z :: Z :: Z :: (1, some (Ob.box [D.int .i64 K, D.int .i64 M] false)) :: (1, some (Ob.box [D.int .i64 0] false)) :: (1, some (Ob.box [D.int .i64 z] false)) :: zn 38 []))
theorem F80_58_nil (call : CL) (L : Nat) (C : Nat → Nat) (sq : FuncId → List D → Option (List (List D))) (vp0 : Int) (vp1 : Int) (vin : Int) : F80_58 call L C sq  [] vp0 vp1 (vin) =
  (some (D.int IntKind.i64 vin)) := by kernel_rfl
theorem F80_58_cons (call : CL) (L : Nat) (C : Nat → Nat) (sq : FuncId → List D → Option (List (List D))) (y : List D) (ys_1 : List (List D)) (vp0 : Int) (vp1 : Int) (vin : Int) : F80_58 call L C sq  (y :: ys_1) vp0 vp1 (vin) =
  (chkK (decide (List.length y = 2))
    (cellK (y) (0) fun d =>
    (intK IntKind.i64 (d) fun _x =>
    (cellK (y) (1) fun d_1 =>
    (aggK (d_1) 4 fun c =>
    (cellK (c) (0) fun d_2 =>
    (intK IntKind.i64 (d_2) fun x_1 =>
    (cellK (c) (1) fun d_3 =>
    (intK IntKind.i64 (d_3) fun x_2 =>
    (cellK (c) (2) fun d_4 =>
    (intK IntKind.i64 (d_4) fun x_3 =>
    (cellK (c) (3) fun d_5 =>
    (intK IntKind.i64 (d_5) fun x_4 =>
    (optK (call 138 [D.agg [D.int IntKind.i64 x_1, D.int IntKind.i64 x_2, D.int IntKind.i64 x_3, D.int IntKind.i64 x_4], D.agg [D.int IntKind.i64 vp0, D.int IntKind.i64 vp1]]) fun r =>
      (boolK (r) fun b =>
      (ifK (b)
        (some (D.int IntKind.i64 0))
        (ifK (!decide (x_2 > vp1) == decide (x_4 > vp1))
          (optK (call 108 [D.agg [D.int IntKind.i64 x_1, D.int IntKind.i64 x_2], D.agg [D.int IntKind.i64 x_3, D.int IntKind.i64 x_4], D.agg [D.int IntKind.i64 vp0, D.int IntKind.i64 vp1]]) fun r_1 =>
            (intK IntKind.i64 (r_1) fun x_5 =>
            (ifK (decide (x_5 > 0) == decide (x_4 > vp1))
              (F80_58 call L C sq ys_1 vp0 vp1 (IntKind.wrap IntKind.i64 (0 - vin)))
              (F80_58 call L C sq ys_1 vp0 vp1 (vin)))))
          (F80_58 call L C sq ys_1 vp0 vp1 (vin))))))))))))))))))) := by kernel_rfl
theorem F80_eq (call : CL) (L : Nat) (C : Nat → Nat) (sq : FuncId → List D → Option (List (List D))) (J : Bool) (K : Nat) (z : List D) (M O : Int) : evFnT (TEs call L C sq) O0 N80 FinM.canon Tryz.f80 [D.slc J K z, D.agg [D.int .i64 M, D.int .i64 O]] =
 (optK (sq 176 [D.snap [D.slc J K z] 0]) fun ys =>
 (F80_58 call L C sq ys M O (-1))) := by kernel_rfl
theorem F45_eq (call : CL) (L : Nat) (C : Nat → Nat) (J : Bool) (K : Nat) (z : List D) (M O : Int) : evFnT (TEf call L C) O0 N0 FinM.canon Tryz.f45 [D.slc J K z, D.agg [D.int .i64 M, D.int .i64 O]] =
 (optK (call 50 [D.slc J K z]) fun r =>
 (intK .i64 r fun x =>
 (optK (call 77 [D.slc true 1 [D.int .i64 M, D.int .i64 O]]) fun U =>
 (intK .i64 U fun X =>
 (optK (call 76 [D.slc true 2 [D.int .i64 x, D.int .i64 X]]) fun V =>
 (intK .i64 V fun S =>
 (ifK (S != 0)
 (some (D.tup [D.int .i64 0, D.int .i64 S]))
 (optK (call 80 [D.slc J K z, D.agg [D.int .i64 M, D.int .i64 O]]) fun W =>
 (intK .i64 W fun Y =>
 (some (D.tup [D.int .i64 Y, D.int .i64 0]))))))))))) := by kernel_rfl
def N52 : NTab := fun p => match p with
  | 122 => some { keep := [5], kl := [7], ren := [(5, 5), (7, 7)] }
  | _ => none
noncomputable def F52_122 (call : CL) (L : Nat) (C : Nat → Nat) (sq : FuncId → List D → Option (List (List D))) (J : List (List D)) (z : Int) : Option D :=
 listAt (TEs call L C sq) O0 N52 FinM.canon Tryz.f52 [true, true, true, false, true, false] [] 176 J (St.mk (jn 5 (D.loc 5 0 0 :: jn 22 [])) (zn 5 ((1, some (Ob.box [D.int .i64 z] false)) :: zn 22 [])))
theorem F52_122_nil (call : CL) (L : Nat) (C : Nat → Nat) (sq : FuncId → List D → Option (List (List D))) (vsum : Int) : F52_122 call L C sq  []  (vsum) =
  (some (D.tup [D.int IntKind.i64 (if IntKind.wrap IntKind.i64 (0 - vsum) > vsum then IntKind.wrap IntKind.i64 (0 - vsum) else vsum), D.int IntKind.i64 0])) := by kernel_rfl
theorem F52_122_cons (call : CL) (L : Nat) (C : Nat → Nat) (sq : FuncId → List D → Option (List (List D))) (y : List D) (ys_1 : List (List D)) (vsum : Int) : F52_122 call L C sq  (y :: ys_1)  (vsum) =
  (chkK (decide (List.length y = 2))
    (cellK (y) (0) fun d =>
    (intK IntKind.i64 (d) fun _x_1 =>
    (cellK (y) (1) fun d_1 =>
    (aggK (d_1) 4 fun c =>
    (cellK (c) (0) fun d_2 =>
    (intK IntKind.i64 (d_2) fun x_2 =>
    (cellK (c) (1) fun d_3 =>
    (intK IntKind.i64 (d_3) fun x_3 =>
    (cellK (c) (2) fun d_4 =>
    (intK IntKind.i64 (d_4) fun x_4 =>
    (cellK (c) (3) fun d_5 =>
    (intK IntKind.i64 (d_5) fun x_5 =>
    (optK (call 110 [D.agg [D.int IntKind.i64 x_2, D.int IntKind.i64 x_3], D.agg [D.int IntKind.i64 x_4, D.int IntKind.i64 x_5]]) fun r_1 =>
      (intK IntKind.i64 (r_1) fun x_6 =>
      (F52_122 call L C sq ys_1 (IntKind.wrap IntKind.i64 (vsum + x_6)))))))))))))))))) := by kernel_rfl
theorem F52_eq (call : CL) (L : Nat) (C : Nat → Nat) (sq : FuncId → List D → Option (List (List D))) (J : Bool) (K : Nat) (z : List D) : evFnT (TEs call L C sq) O0 N52 FinM.canon Tryz.f52 [D.slc J K z] =
 (optK (call 50 [D.slc J K z]) fun r =>
 (intK .i64 r fun x =>
 (ifK (x != 0)
 (some (D.tup [D.int .i64 0, D.int .i64 x]))
 (optK (sq 176 [D.snap [D.slc J K z] 0]) fun ys =>
 (F52_122 call L C sq ys 0))))) := by kernel_rfl
def N176 : NTab := fun p => match p with
  | 6 => some { keep := [0, 1, 5, 6, 7], kl := [4], ren := [(4, 4)] }
  | _ => none
noncomputable def F176_6 (call : CL) (L : Nat) (C : Nat → Nat) (l n : Nat) (K : Bool) (M : Nat) (z : List D) (O S : Int) : Option (List (List D)) :=
 loopIAt (TEi call L C l) O0 N176 FinM.raw Tryz.f176 [true, false] []  n (St.mk (D.fn (Fn.yield l) [] [] :: D.snap [D.slc K M z] 0 :: J :: J :: J :: D.slc K M z :: D.int .i64 O :: D.int .i64 S :: jn 19 []) (zn 27 []))
theorem F176_6_eq (call : CL) (L : Nat) (C : Nat → Nat) (l n : Nat) (O : Bool) (J : Nat) (K : List D) (M z : Int) : F176_6 call L C l  (n + 1) O J K M z =
 (ifK (decide (z < M))
 (chkK (decide (0 ≤ z ∧ z < (J : Int)))
 (cellK K (Int.toNat z * 2 + 0) fun d =>
 (intK .i64 d fun x =>
 (cellK K (Int.toNat z * 2 + 1) fun S =>
 (intK .i64 S fun W =>
 (chkK (!decide ((J : Int) = 0))
 (chkK (decide (0 ≤ Int.tmod (IntKind.wrap .i64 (z + 1)) (J : Int) ∧ Int.tmod (IntKind.wrap .i64 (z + 1)) (J : Int) < (J : Int)))
 (cellK K (Int.toNat (Int.tmod (IntKind.wrap .i64 (z + 1)) (J : Int)) * 2 + 0) fun U =>
 (intK .i64 U fun X =>
 (cellK K (Int.toNat (Int.tmod (IntKind.wrap .i64 (z + 1)) (J : Int)) * 2 + 1) fun V =>
 (intK .i64 V fun Y =>
 (chkK (decide (l = l))
 (emitK [D.int .i64 z, D.agg [D.int .i64 x, D.int .i64 W, D.int .i64 X, D.int .i64 Y]]
 (F176_6 call L C l n O J K M (IntKind.wrap .i64 (z + 1)))
 (some []))))))))))))))
 (some [])) := by kernel_rfl
theorem F176_eq (call : CL) (L : Nat) (C : Nat → Nat) (l : Nat) (K : Bool) (z : Nat) (J : List D) : runI (evT (TEi call L C l) O0 N176 (bodyOf Tryz.f176) 1 (startSt Tryz.f176 [D.fn (Fn.yield l) [] [], D.snap [D.slc K z J] 0]) (finK (TEi call L C l).E FinM.raw Tryz.f176)) =
 (F176_6 call L C l L K z J ((z : Int)) 0) := by kernel_rfl
theorem F90_eq (call : CL) (L : Nat) (C : Nat → Nat) (z : Int) : evFnT (TEf call L C) O0 N0 FinM.canon Tryz.f90 [D.int .i64 z] =
 (ifK (decide (z < -1000000))
 (some (D.bool true))
 (some (D.bool (decide (z > 1000000))))) := by kernel_rfl
theorem F53_eq (call : CL) (L : Nat) (C : Nat → Nat) (z J K M O S : Int) : evFnT (TEf call L C) O0 N0 FinM.canon Tryz.f53 [D.agg [D.int .i64 z, D.int .i64 J], D.agg [D.int .i64 K, D.int .i64 M], D.agg [D.int .i64 O, D.int .i64 S]] =
 (optK (call 111 [D.int .i64 (IntKind.wrap .i64 (IntKind.wrap .i64 (IntKind.wrap .i64 (K - z) * IntKind.wrap .i64 (S - J)) - IntKind.wrap .i64 (IntKind.wrap .i64 (M - J) * IntKind.wrap .i64 (O - z))))]) fun r =>
 (intK .i64 r fun x =>
 (some (D.int .i64 x)))) := by kernel_rfl
theorem F111_eq (call : CL) (L : Nat) (C : Nat → Nat) (z : Int) : evFnT (TEf call L C) O0 N0 FinM.canon Tryz.f111 [D.int .i64 z] =
 (ifK (decide (z > 0))
 (some (D.int .i64 1))
 (ifK (decide (z < 0))
 (some (D.int .i64 (-1)))
 (some (D.int .i64 0)))) := by kernel_rfl
theorem F112_eq (call : CL) (L : Nat) (C : Nat → Nat) (z J K M O S : Int) : evFnT (TEf call L C) O0 N0 FinM.canon Tryz.f112 [D.agg [D.int .i64 z, D.int .i64 J], D.agg [D.int .i64 K, D.int .i64 M], D.agg [D.int .i64 O, D.int .i64 S]] =
 (optK (call 53 [D.agg [D.int .i64 z, D.int .i64 J], D.agg [D.int .i64 K, D.int .i64 M], D.agg [D.int .i64 O, D.int .i64 S]]) fun r =>
 (intK .i64 r fun x =>
 (ifK (x == 0)
 (ifK (decide ((if K < z then K else z) ≤ O))
 (ifK (decide (O ≤ if K > z then K else z))
 (ifK (decide ((if M < J then M else J) ≤ S))
 (some (D.bool (decide (S ≤ if M > J then M else J))))
 (some (D.bool false)))
 (some (D.bool false)))
 (some (D.bool false)))
 (some (D.bool false))))) := by kernel_rfl
def N106 : NTab := fun p => match p with
  | 7 => some { keep := [4, 5, 6, 7], kl := [], ren := [(4, 4), (5, 5), (6, 6), (7, 7)] }
  | _ => none
noncomputable def F106_7 (call : CL) (L : Nat) (C : Nat → Nat) (z K M O S U V W : Int) : Option D :=
 cutAt (TEf call L C) O0 N106 FinM.canon Tryz.f106 [true, true] []  (C 7) (St.mk (J :: J :: J :: J :: D.loc 4 0 0 :: D.loc 5 0 0 :: D.loc 6 0 0 :: D.loc 7 0 0 :: jn 45 []) (Z :: Z :: Z :: Z :: (1, some (Ob.box [D.int .i64 z, D.int .i64 K] false)) :: (1, some (Ob.box [D.int .i64 M, D.int .i64 O] false)) :: (1, some (Ob.box [D.int .i64 S, D.int .i64 U] false)) :: (1, some (Ob.box [D.int .i64 V, D.int .i64 W] false)) :: zn 45 []))
theorem F106_7_eq (call : CL) (L : Nat) (C : Nat → Nat) (z J K M O S U V : Int) (hC : ∀ t, C t = 1) : F106_7 call L C  z J K M O S U V  =
 (optK (call 53 [D.agg [D.int .i64 z, D.int .i64 J], D.agg [D.int .i64 K, D.int .i64 M], D.agg [D.int .i64 O, D.int .i64 S]]) fun W =>
 (intK .i64 W fun x =>
 (optK (call 53 [D.agg [D.int .i64 z, D.int .i64 J], D.agg [D.int .i64 K, D.int .i64 M], D.agg [D.int .i64 U, D.int .i64 V]]) fun X =>
 (intK .i64 X fun a0 =>
 (ifK (decide (IntKind.wrap .i64 (x * a0) < 0))
 (optK (call 53 [D.agg [D.int .i64 O, D.int .i64 S], D.agg [D.int .i64 U, D.int .i64 V], D.agg [D.int .i64 z, D.int .i64 J]]) fun Y =>
 (intK .i64 Y fun a1 =>
 (optK (call 53 [D.agg [D.int .i64 O, D.int .i64 S], D.agg [D.int .i64 U, D.int .i64 V], D.agg [D.int .i64 K, D.int .i64 M]]) fun Z =>
 (intK .i64 Z fun a2 =>
 (some (D.bool (decide (IntKind.wrap .i64 (a1 * a2) < 0))))))))
 (some (D.bool false))))))) := by
  unfold F106_7
  rw [hC]
  kernel_rfl
theorem F106_eq (call : CL) (L : Nat) (C : Nat → Nat) (z J K M O S U V : Int) : evFnT (TEf call L C) O0 N106 FinM.canon Tryz.f106 [D.agg [D.int .i64 z, D.int .i64 J], D.agg [D.int .i64 K, D.int .i64 M], D.agg [D.int .i64 O, D.int .i64 S], D.agg [D.int .i64 U, D.int .i64 V]] =
 (optK (call 112 [D.agg [D.int .i64 z, D.int .i64 J], D.agg [D.int .i64 K, D.int .i64 M], D.agg [D.int .i64 O, D.int .i64 S]]) fun r =>
 (boolK r fun b =>
 (ifK b
 (some (D.bool true))
 (optK (call 112 [D.agg [D.int .i64 z, D.int .i64 J], D.agg [D.int .i64 K, D.int .i64 M], D.agg [D.int .i64 U, D.int .i64 V]]) fun Z =>
 (boolK Z fun W =>
 (ifK W
 (some (D.bool true))
 (optK (call 112 [D.agg [D.int .i64 O, D.int .i64 S], D.agg [D.int .i64 U, D.int .i64 V], D.agg [D.int .i64 z, D.int .i64 J]]) fun a0 =>
 (boolK a0 fun X =>
 (ifK X
 (some (D.bool true))
 (optK (call 112 [D.agg [D.int .i64 O, D.int .i64 S], D.agg [D.int .i64 U, D.int .i64 V], D.agg [D.int .i64 K, D.int .i64 M]]) fun a1 =>
 (boolK a1 fun Y =>
 (ifK Y
 (some (D.bool true))
 (F106_7 call L C z J K M O S U V))))))))))))) := by kernel_rfl
def N49 : NTab := fun p => match p with
  | 122 => some { keep := [0, 3], kl := [6, 7, 8], ren := [(6, 6), (7, 7), (8, 8)] }
  | 506 => some { keep := [0, 4, 5], kl := [6, 7, 8], ren := [(6, 6), (7, 7), (8, 8)] }
  | 32403 => some { keep := [0, 4, 5], kl := [6, 7, 8], ren := [(6, 6), (7, 7), (8, 8)] }
  | 129614 => some { keep := [0, 4, 5, 9], kl := [6, 7, 8], ren := [(6, 6), (7, 7), (8, 8)] }
  | _ => none
def O49 : Ord := fun id => match id with
  | 14 => some { fs := [(6, 6), (7, 7), (8, 8)] }
  | _ => none
noncomputable def F49_129614 (call : CL) (L : Nat) (C : Nat → Nat) (z K : Nat) (U : Bool) (V : Nat) (S : List D) (W M O : Int) : Option D :=
 loopAt (TEf call L C) O49 N49 FinM.canon Tryz.f49 [true, true, true, true, true, false, true, false, false, true, false, false, true, true, true, false] [z]  K (St.mk (D.slc U V S :: J :: J :: J :: D.int .i64 W :: D.int .i64 M :: J :: J :: J :: D.int .i64 O :: jn 128 []) (zn 138 []))
noncomputable def F49_32403 (call : CL) (L : Nat) (C : Nat → Nat) (z : Nat) (O : Bool) (S : Nat) (M : List D) (U K : Int) : Option D :=
 cutAt (TEf call L C) O49 N49 FinM.canon Tryz.f49 [true, true, true, true, true, false, true, false, false, true, false, false, true, true] [z]  (C 32403) (St.mk (D.slc O S M :: J :: J :: J :: D.int .i64 U :: D.int .i64 K :: jn 132 []) (zn 138 []))
noncomputable def F49_506 (call : CL) (L : Nat) (C : Nat → Nat) (z : Nat) (O : Bool) (S : Nat) (M : List D) (U K : Int) : Option D :=
 loopAt (TEf call L C) O49 N49 FinM.canon Tryz.f49 [true, true, true, true, true, false, true, false] []  z (St.mk (D.slc O S M :: J :: J :: J :: D.int .i64 U :: D.int .i64 K :: jn 132 []) (zn 138 []))
noncomputable def F49_122 (call : CL) (L : Nat) (C : Nat → Nat) (n : Nat) (M : Bool) (O : Nat) (K : List D) (z : Int) : Option D :=
 loopAt (TEf call L C) O49 N49 FinM.canon Tryz.f49 [true, true, true, false, true, false] []  n (St.mk (D.slc M O K :: J :: J :: D.int .i64 z :: jn 134 []) (zn 138 []))
theorem F49_129614_eq (call : CL) (L : Nat) (C : Nat → Nat) (S V : Nat) (U : Bool) (O : Nat) (M : List D) (z J K : Int) : F49_129614 call L C S (V + 1) U O M z J K =
 (ifK (decide (K < z))
 (ifK (K != J)
 (chkK (!decide (z = 0))
 (ifK (Int.tmod (IntKind.wrap .i64 (K + 1)) z != J)
 (chkK (!decide (z = 0))
 (ifK (Int.tmod (IntKind.wrap .i64 (J + 1)) z != K)
 (chkK (decide (0 ≤ J ∧ J < (O : Int)))
 (cellK M (Int.toNat J * 2 + 0) fun a2 =>
 (intK .i64 a2 fun a5 =>
 (cellK M (Int.toNat J * 2 + 1) fun a3 =>
 (intK .i64 a3 fun a6 =>
 (chkK (!decide (z = 0))
 (chkK (decide (0 ≤ Int.tmod (IntKind.wrap .i64 (J + 1)) z ∧ Int.tmod (IntKind.wrap .i64 (J + 1)) z < (O : Int)))
 (cellK M (Int.toNat (Int.tmod (IntKind.wrap .i64 (J + 1)) z) * 2 + 0) fun W =>
 (intK .i64 W fun a7 =>
 (cellK M (Int.toNat (Int.tmod (IntKind.wrap .i64 (J + 1)) z) * 2 + 1) fun X =>
 (intK .i64 X fun a8 =>
 (chkK (decide (0 ≤ K ∧ K < (O : Int)))
 (cellK M (Int.toNat K * 2 + 0) fun Y =>
 (intK .i64 Y fun a9 =>
 (cellK M (Int.toNat K * 2 + 1) fun Z =>
 (intK .i64 Z fun aa =>
 (chkK (!decide (z = 0))
 (chkK (decide (0 ≤ Int.tmod (IntKind.wrap .i64 (K + 1)) z ∧ Int.tmod (IntKind.wrap .i64 (K + 1)) z < (O : Int)))
 (cellK M (Int.toNat (Int.tmod (IntKind.wrap .i64 (K + 1)) z) * 2 + 0) fun a0 =>
 (intK .i64 a0 fun ab =>
 (cellK M (Int.toNat (Int.tmod (IntKind.wrap .i64 (K + 1)) z) * 2 + 1) fun a1 =>
 (intK .i64 a1 fun ac =>
 (optK (call 106 [D.agg [D.int .i64 a5, D.int .i64 a6], D.agg [D.int .i64 a7, D.int .i64 a8], D.agg [D.int .i64 a9, D.int .i64 aa], D.agg [D.int .i64 ab, D.int .i64 ac]]) fun a4 =>
 (boolK a4 fun b =>
 (ifK b
 (some (D.int .i64 16))
 (F49_129614 call L C S V U O M z J (IntKind.wrap .i64 (K + 1))))))))))))))))))))))))))))
 (F49_129614 call L C S V U O M z J (IntKind.wrap .i64 (K + 1)))))
 (F49_129614 call L C S V U O M z J (IntKind.wrap .i64 (K + 1)))))
 (F49_129614 call L C S V U O M z J (IntKind.wrap .i64 (K + 1))))
 (F49_506 call L C S U O M z (IntKind.wrap .i64 (J + 1)))) := by kernel_rfl
theorem F49_32403_eq (call : CL) (L : Nat) (C : Nat → Nat) (z : Nat) (M : Bool) (O : Nat) (K : List D) (S J : Int) (hC : ∀ t, C t = 1) : F49_32403 call L C z M O K S J  =
 (F49_129614 call L C z L M O K S J 0) := by
  unfold F49_32403
  rw [hC]
  kernel_rfl
theorem F49_506_eq (call : CL) (L : Nat) (C : Nat → Nat) (U : Nat) (V : Bool) (M : Nat) (K : List D) (J z : Int) : F49_506 call L C  (U + 1) V M K J z =
 (ifK (decide (z < J))
 (chkK (decide (0 ≤ z ∧ z < (M : Int)))
 (cellK K (Int.toNat z * 2 + 0) fun a0 =>
 (intK .i64 a0 fun W =>
 (cellK K (Int.toNat z * 2 + 1) fun a1 =>
 (intK .i64 a1 fun X =>
 (chkK (!decide (J = 0))
 (chkK (decide (0 ≤ Int.tmod (IntKind.wrap .i64 (z + 1)) J ∧ Int.tmod (IntKind.wrap .i64 (z + 1)) J < (M : Int)))
 (cellK K (Int.toNat (Int.tmod (IntKind.wrap .i64 (z + 1)) J) * 2 + 0) fun a2 =>
 (intK .i64 a2 fun O =>
 (cellK K (Int.toNat (Int.tmod (IntKind.wrap .i64 (z + 1)) J) * 2 + 1) fun a3 =>
 (intK .i64 a3 fun S =>
 (chkK (!decide (J = 0))
 (chkK (decide (0 ≤ Int.tmod (IntKind.wrap .i64 (z + 2)) J ∧ Int.tmod (IntKind.wrap .i64 (z + 2)) J < (M : Int)))
 (cellK K (Int.toNat (Int.tmod (IntKind.wrap .i64 (z + 2)) J) * 2 + 0) fun a4 =>
 (intK .i64 a4 fun Y =>
 (cellK K (Int.toNat (Int.tmod (IntKind.wrap .i64 (z + 2)) J) * 2 + 1) fun a5 =>
 (intK .i64 a5 fun Z =>
 (ifK (W == O && (X == S && true))
 (some (D.int .i64 16))
 (optK (call 53 [D.agg [D.int .i64 W, D.int .i64 X], D.agg [D.int .i64 O, D.int .i64 S], D.agg [D.int .i64 Y, D.int .i64 Z]]) fun a6 =>
 (intK .i64 a6 fun a7 =>
 (ifK (a7 == 0)
 (ifK (decide (IntKind.wrap .i64 (IntKind.wrap .i64 (IntKind.wrap .i64 (W - O) * IntKind.wrap .i64 (Y - O)) + IntKind.wrap .i64 (IntKind.wrap .i64 (X - S) * IntKind.wrap .i64 (Z - S))) > 0))
 (some (D.int .i64 16))
 (F49_32403 call L C U V M K J z))
 (F49_32403 call L C U V M K J z))))))))))))))))))))))
 (some (D.int .i64 0))) := by kernel_rfl
theorem F49_122_eq (call : CL) (L : Nat) (C : Nat → Nat) (n : Nat) (M : Bool) (J : Nat) (K : List D) (z : Int) : F49_122 call L C  (n + 1) M J K z =
 (ifK (decide (z < (J : Int)))
 (chkK (decide (0 ≤ z ∧ z < (J : Int)))
 (cellK K (Int.toNat z * 2 + 0) fun d =>
 (intK .i64 d fun x =>
 (cellK K (Int.toNat z * 2 + 1) fun O =>
 (intK .i64 O fun S =>
 (optK (call 24 [D.agg [D.int .i64 x, D.int .i64 S]]) fun r =>
 (intK .i64 r fun U =>
 (ifK (U != 0)
 (some (D.int .i64 3))
 (F49_122 call L C n M J K (IntKind.wrap .i64 (z + 1)))))))))))
 (F49_506 call L C L M J K ((J : Int)) 0)) := by kernel_rfl
theorem F49_eq (call : CL) (L : Nat) (C : Nat → Nat) (K : Bool) (z : Nat) (J : List D) : evFnT (TEf call L C) O49 N49 FinM.canon Tryz.f49 [D.slc K z J] =
 (ifK (decide ((z : Int) < 3))
 (some (D.int .i64 2))
 (ifK (decide ((z : Int) > 64))
 (some (D.int .i64 5))
 (F49_122 call L C L K z J 0))) := by kernel_rfl
def N54 : NTab := fun p => match p with
  | 58 => some { keep := [0, 3, 5, 6], kl := [7, 8], ren := [(3, 3), (7, 7), (8, 8)] }
  | 467 => some { keep := [0, 3, 5, 6], kl := [7, 8], ren := [(3, 3), (7, 7), (8, 8)] }
  | 7463 => some { keep := [0, 3, 5, 6, 70], kl := [7, 8], ren := [(3, 3), (7, 7), (8, 8)] }
  | _ => none
def O54 : Ord := fun id => match id with
  | 5 => some { fs := [(7, 7), (8, 8)] }
  | _ => none
noncomputable def F54_467 (call : CL) (L : Nat) (C : Nat → Nat) (n : Nat) (M : Bool) (O : Nat) (K : List D) (z U V : Int) (S : Bool) : Option D :=
 cutAt (TEf call L C) O54 N54 FinM.canon Tryz.f54 [true, true, false, true, false, false, true, true] [n]  (C 467) (St.mk (D.slc M O K :: J :: J :: D.loc 3 0 0 :: J :: D.bool S :: D.int .i64 z :: jn 67 []) (Z :: Z :: Z :: (1, some (Ob.box [D.int .i64 U, D.int .i64 V] false)) :: zn 70 []))
noncomputable def F54_7463 (call : CL) (L : Nat) (C : Nat → Nat) (n : Nat) (O : Bool) (S : Nat) (M : List D) (U : Bool) (K V W : Int) (z : Bool) : Option D :=
 cutAt (TEf call L C) O54 N54 FinM.canon Tryz.f54 [true, true, false, true, false, false, true, false, false, true, true, true] [n]  (C 7463) (St.mk (D.slc O S M :: J :: J :: D.loc 3 0 0 :: J :: D.bool U :: D.int .i64 K :: jn 63 [D.bool z, J, J, J]) (Z :: Z :: Z :: (1, some (Ob.box [D.int .i64 V, D.int .i64 W] false)) :: zn 70 []))
noncomputable def F54_58 (call : CL) (L : Nat) (C : Nat → Nat) (n : Nat) (M : Bool) (O : Nat) (K : List D) (U V : Int) (S : Bool) (z : Int) : Option D :=
 loopAt (TEf call L C) O54 N54 FinM.canon Tryz.f54 [true, true, false, true, false] []  n (St.mk (D.slc M O K :: J :: J :: D.loc 3 0 0 :: J :: D.bool S :: D.int .i64 z :: jn 67 []) (Z :: Z :: Z :: (1, some (Ob.box [D.int .i64 U, D.int .i64 V] false)) :: zn 70 []))
theorem F54_467_eq (call : CL) (L : Nat) (C : Nat → Nat) (n : Nat) (K : Bool) (M : Nat) (J : List D) (z S U : Int) (O : Bool) (hC : ∀ t, C t = 1) : F54_467 call L C n K M J z S U O =
 (F54_58 call L C n K M J S U O (IntKind.wrap .i64 (z + 1))) := by
  unfold F54_467
  rw [hC]
  kernel_rfl
theorem F54_7463_eq (call : CL) (L : Nat) (C : Nat → Nat) (n : Nat) (K : Bool) (M : Nat) (J : List D) (O : Bool) (z S U : Int) (V : Bool) (hC : ∀ t, C t = 1) : F54_7463 call L C n K M J O z S U V =
 (ifK V
 (F54_467 call L C n K M J z S U (!O))
 (F54_467 call L C n K M J z S U O)) := by
  unfold F54_7463
  rw [hC]
  kernel_rfl
theorem F54_58_eq (call : CL) (L : Nat) (C : Nat → Nat) (n : Nat) (U : Bool) (K : Nat) (O : List D) (M z : Int) (S : Bool) (J : Int) : F54_58 call L C  (n + 1) U K O M z S J =
 (ifK (decide (J < (K : Int)))
 (chkK (decide (0 ≤ J ∧ J < (K : Int)))
 (cellK O (Int.toNat J * 2 + 0) fun d =>
 (intK .i64 d fun x =>
 (cellK O (Int.toNat J * 2 + 1) fun Y =>
 (intK .i64 Y fun V =>
 (chkK (!decide ((K : Int) = 0))
 (chkK (decide (0 ≤ Int.tmod (IntKind.wrap .i64 (J + 1)) (K : Int) ∧ Int.tmod (IntKind.wrap .i64 (J + 1)) (K : Int) < (K : Int)))
 (cellK O (Int.toNat (Int.tmod (IntKind.wrap .i64 (J + 1)) (K : Int)) * 2 + 0) fun Z =>
 (intK .i64 Z fun X =>
 (cellK O (Int.toNat (Int.tmod (IntKind.wrap .i64 (J + 1)) (K : Int)) * 2 + 1) fun a0 =>
 (intK .i64 a0 fun W =>
 (optK (call 112 [D.agg [D.int .i64 x, D.int .i64 V], D.agg [D.int .i64 X, D.int .i64 W], D.agg [D.int .i64 M, D.int .i64 z]]) fun r =>
 (boolK r fun b =>
 (ifK b
 (some (D.int .i64 0))
 (ifK (decide (V > z))
 (ifK (decide (W ≤ z))
 (optK (call 53 [D.agg [D.int .i64 x, D.int .i64 V], D.agg [D.int .i64 X, D.int .i64 W], D.agg [D.int .i64 M, D.int .i64 z]]) fun a1 =>
 (intK .i64 a1 fun a5 =>
 (ifK (decide (a5 > 0))
 (F54_7463 call L C n U K O S J M z true)
 (ifK (decide (W > z))
 (ifK (decide (V ≤ z))
 (optK (call 53 [D.agg [D.int .i64 X, D.int .i64 W], D.agg [D.int .i64 x, D.int .i64 V], D.agg [D.int .i64 M, D.int .i64 z]]) fun a2 =>
 (intK .i64 a2 fun a6 =>
 (F54_7463 call L C n U K O S J M z (decide (a6 > 0)))))
 (F54_7463 call L C n U K O S J M z false))
 (F54_7463 call L C n U K O S J M z false)))))
 (ifK (decide (W > z))
 (ifK (decide (V ≤ z))
 (optK (call 53 [D.agg [D.int .i64 X, D.int .i64 W], D.agg [D.int .i64 x, D.int .i64 V], D.agg [D.int .i64 M, D.int .i64 z]]) fun a3 =>
 (intK .i64 a3 fun a7 =>
 (F54_7463 call L C n U K O S J M z (decide (a7 > 0)))))
 (F54_7463 call L C n U K O S J M z false))
 (F54_7463 call L C n U K O S J M z false)))
 (ifK (decide (W > z))
 (ifK (decide (V ≤ z))
 (optK (call 53 [D.agg [D.int .i64 X, D.int .i64 W], D.agg [D.int .i64 x, D.int .i64 V], D.agg [D.int .i64 M, D.int .i64 z]]) fun a4 =>
 (intK .i64 a4 fun a8 =>
 (F54_7463 call L C n U K O S J M z (decide (a8 > 0)))))
 (F54_7463 call L C n U K O S J M z false))
 (F54_7463 call L C n U K O S J M z false)))))))))))))))))
 (ifK S
 (some (D.int .i64 1))
 (some (D.int .i64 (-1))))) := by kernel_rfl
theorem F54_eq (call : CL) (L : Nat) (C : Nat → Nat) (J : Bool) (K : Nat) (z : List D) (M O : Int) : evFnT (TEf call L C) O54 N54 FinM.canon Tryz.f54 [D.slc J K z, D.agg [D.int .i64 M, D.int .i64 O]] =
 (F54_58 call L C L J K z M O false 0) := by kernel_rfl
end Go.Pd
end
section
namespace Go.Pd
open Go Go.Proofs Go.RowKit Go.Shelf
theorem mixedT : Tryz.prog.follows .mixedOrders = true := by kernel_rfl
abbrev OK2 (k : FuncId) (ds : List D) (r : D) : Prop := CallOK Tryz.prog glO k ds r
abbrev CallsT (c : FuncId → List D → Option D) : Prop := ∀ k ds r, c k ds = some r → CallOK Tryz.prog glO k ds r
def callOf (base : FuncId → List D → Option D) : FuncId → List D → Option D := fun k ds => match cstG k ds with
  | some r => some r
  | none => base k ds
def C1 : Nat → Nat := fun _ => 1
theorem c1 : ∀ t, C1 t = 1 := fun _ => rfl
def MutsT (t : FuncId → Bool) (mu : FuncId → List D → Option D) : Prop := ∀ k cs len rest f m cs', mu k (.slc false len cs :: rest) = some (.slc f m cs') → MutC Tryz.prog glO k cs len rest cs' (match t k with | true => some m | false => none)
def trimT : FuncId → Bool := fun k => match k with
  | 148 => true
  | _ => false
theorem mutD_ok {mu : FuncId → List D → Option D} (h : MutsT trimT mu) {k : FuncId} {t : Bool} (ht : trimT k = t) (hen : ∀ vs w, (callFunc k vs).run Tryz.prog w = .ok (.enter k vs) w) : MutOK Tryz.prog glO k (mutD t (mu k)) := by
  refine mutOK_of hen fun cs len rest cs' m hg => ?_
  unfold mutD at hg
  split at hg
  · rename_i f m' cs2 hmu
    have := h k cs len rest f m' cs2 hmu
    cases hg
    rw [ht] at this
    exact this
  · cases hg
theorem wrM_ok {mu : FuncId → List D → Option D} (h : MutsT trimT mu) : ∀ k g, wrM mu k = some g → MuOK Tryz.prog glO k g := by
  intro k g hg
  unfold wrM at hg
  split at hg
  · cases hg; exact mutD_ok h rfl (enters_of Tryz.func146 (by kernel_rfl) rfl)
  · cases hg; exact mutD_ok h rfl (enters_of Tryz.func148 (by kernel_rfl) rfl)
  · cases hg; exact mutD_ok h rfl (enters_of Tryz.func177 (by kernel_rfl) rfl)
  · cases hg; exact mutD_ok h rfl (enters_of Tryz.func196 (by kernel_rfl) rfl)
  · cases hg; exact mutD_ok h rfl (enters_of Tryz.func238 (by kernel_rfl) rfl)
  · cases hg
theorem wrM_ow {mu : FuncId → List D → Option D} {Q : FuncId → TypeId → Nat → Prop} : ∀ k e n, wrM mu k = some (.own e n) → Q k e n := by
  intro k e n h
  unfold wrM at h
  split at h <;> cases h
theorem noMu_ok : MutsT trimT noMu := fun _ _ _ _ _ _ _ h => by cases h
theorem none_ok : CallsT (fun _ _ => none) := fun _ _ _ h => by cases h
theorem cst_ok : CallsT cstG := by
  have h0 : EnvOK (TE0 (fun _ _ => none) LL C1).E := ⟨fun _ _ _ h => (by cases h), wrM_ok noMu_ok, wrM_ow⟩
  intro k ds r h
  unfold cstG at h
  split at h
  · cases h
    exact evFnT_ok (Te := TE0 (fun _ _ => none) LL C1) mixedT h0 (fun _ _ _ h => by cases h) rfl (fun _ _ _ h => by cases h) Tryz.func109 (ord := O0) (N := N0) (keep := .canon) (by simp) (by kernel_rfl) (F109_eq _ _ _ _ _ _)
  · cases h
    exact evFnT_ok (Te := TE0 (fun _ _ => none) LL C1) mixedT h0 (fun _ _ _ h => by cases h) rfl (fun _ _ _ h => by cases h) Tryz.func94 (ord := O0) (N := N0) (keep := .canon) (by simp) (by kernel_rfl) (F94_eq _ _ _ _ _ _)
  · cases h
theorem callOf_ok {base : FuncId → List D → Option D} (hb : CallsT base) : CallsT (callOf base) := by
  intro k ds r h
  unfold callOf at h
  split at h
  · rename_i x hx
    cases h
    exact cst_ok k ds _ hx
  · exact hb k ds r h
theorem callOf_cst {base : FuncId → List D → Option D} : ∀ k ds r, cstG k ds = some r → callOf base k ds = some r := fun k ds r h => by
  unfold callOf
  rw [h]
theorem callOf_b {base : FuncId → List D → Option D} {k : FuncId} {ds : List D} (h : cstG k ds = none) : callOf base k ds = base k ds := by
  unfold callOf
  rw [h]
abbrev SqT (sq : FuncId → List D → Option (List (List D))) : Prop := ∀ g cs ys, sq g cs = some ys → SeqOK Tryz.prog glO g cs ys
/-! ### The sides of a polygon, handed on -/
theorem itOK {f : FuncId} {fn : Func} (hf : Tryz.prog.funcs[f]? = some fn) {ord : Ord} {N : NTab} (hok : okFn Tryz.prog ord fn = true) (hres : fn.results.toList = []) {c : Code} (hb : fn.body = some c) {caps : List D} {ys : List (List D)}
    (he : ∀ l, runI (evT (TEi (callOf fun _ _ => none) LL C1 l) ord N (bodyOf fn) 1 (startSt fn (.fn (.yield l) [] [] :: caps)) (finK (TEi (callOf fun _ _ => none) LL C1 l).E .raw fn)) = some ys) : SeqOK Tryz.prog glO f caps ys := by
  refine evItT_ok (Te := TEf (callOf fun _ _ => none) LL C1) mixedT ⟨callOf_ok none_ok, wrM_ok noMu_ok, wrM_ow⟩ callOf_cst hf (N := N) hok hres ?_
  unfold evItT
  have hbo : bodyOf fn = c := by unfold bodyOf; rw [hb]; rfl
  rw [hbo] at he
  rw [hb]
  dsimp only
  have : (fun l => runI (evT { TEf (callOf fun _ _ => none) LL C1 with it := some l } ord N c 1 (startSt fn (.fn (.yield l) [] [] :: caps)) (finK (TEf (callOf fun _ _ => none) LL C1).E .raw fn))) = fun _ => some ys := funext he
  rw [this]
  exact sqOf_const _
theorem sides_eq (l : Nat) (f : Bool) (n : Nat) (c : List D) (hn : n < 4611686018427387904) : ∀ (k i fuel : Nat), i + k = n → k < fuel → F176_6 (callOf fun _ _ => none) LL C1 l fuel f n c n i = sidesGo n c k i
  | 0, i, fuel + 1, h, _ => by
    rw [F176_6_eq]
    have : decide ((i : Int) < n) = false := by simp; omega
    rw [this]
    rfl
  | k + 1, i, fuel + 1, h, hf => by
    have ih := sides_eq l f n c hn k (i + 1) fuel (by omega) (by omega)
    have e1 : decide ((i : Int) < n) = true := by simp; omega
    have e2 : decide ((0 : Int) ≤ (i : Int) ∧ (i : Int) < n) = true := by simp; omega
    have e3 : IntKind.wrap .i64 ((i : Int) + 1) = ((i + 1 : Nat) : Int) := by rw [wrap_in (by omega)]; rfl
    have e4 : Int.tmod (((i + 1 : Nat) : Int)) (n : Int) = (((i + 1) % n : Nat) : Int) := rfl
    have hm : (i + 1) % n < n := Nat.mod_lt _ (by omega)
    have e5 : decide ((0 : Int) ≤ (((i + 1) % n : Nat) : Int) ∧ (((i + 1) % n : Nat) : Int) < n) = true := decide_eq_true ⟨Int.natCast_nonneg _, Int.ofNat_lt.2 hm⟩
    have e6 : (!decide ((n : Int) = 0)) = true := by simp; omega
    rw [F176_6_eq, e1, ifK_true, e2, chkK_true, e3, e4, e5, e6]
    unfold sidesGo
    simp only [Int.toNat_natCast, chkK_true, ih, decide_true]
theorem sqT_ok : SqT sqT := by
  intro g cs ys h
  unfold sqT at h
  split at h
  · rename_i f n c
    obtain ⟨hn, h⟩ := chkK_inv h
    simp only [decide_eq_true_eq] at hn
    refine itOK Tryz.func176 (ord := O0) (N := N176) (by kernel_rfl) rfl rfl fun l => ?_
    exact (F176_eq _ _ _ l f n c).trans ((sides_eq l f n c hn n 0 LL (by omega) (by unfold LL; omega)).trans h)
  · cases h
theorem fnS {base : FuncId → List D → Option D} (hb : CallsT base) {sq : FuncId → List D → Option (List (List D))} (hs : SqT sq) {f : FuncId} {fn : Func} (hf : Tryz.prog.funcs[f]? = some fn) {ord : Ord} {N : NTab} (hok : okFn Tryz.prog ord fn = true) {ds : List D} {r : D}
    (he : evFnT (TEs (callOf base) LL C1 sq) ord N .canon fn ds = some r) : OK2 f ds r :=
  evFnT_ok (Te := TEs (callOf base) LL C1 sq) mixedT ⟨callOf_ok hb, wrM_ok noMu_ok, wrM_ow⟩ callOf_cst rfl hs hf (by simp) hok he
theorem fnT {base : FuncId → List D → Option D} (hb : CallsT base) {f : FuncId} {fn : Func} (hf : Tryz.prog.funcs[f]? = some fn) {ord : Ord} {N : NTab} (hok : okFn Tryz.prog ord fn = true) {ds : List D} {r : D}
    (he : evFnT (TEf (callOf base) LL C1) ord N .canon fn ds = some r) : OK2 f ds r := fnS hb sqT_ok hf hok he
theorem fnU {base mu : FuncId → List D → Option D} (hb : CallsT base) (hm : MutsT trimT mu) {f : FuncId} {fn : Func} (hf : Tryz.prog.funcs[f]? = some fn) {ord : Ord} {N : NTab} {keep : FinM} (hk : keep = .canon ∨ keep = .raw) (hok : okFn Tryz.prog ord fn = true) {ds : List D} {r : D}
    (he : evFnT (TEm (callOf base) mu LL C1) ord N keep fn ds = some r) : OK2 f ds r :=
  evFnT_ok (Te := TEm (callOf base) mu LL C1) mixedT ⟨callOf_ok hb, wrM_ok hm, wrM_ow⟩ callOf_cst rfl sqT_ok hf (by rcases hk with h | h <;> subst h <;> simp) hok he
theorem fnM {base mu : FuncId → List D → Option D} (hb : CallsT base) (hm : MutsT trimT mu) {f : FuncId} {fn : Func} (hf : Tryz.prog.funcs[f]? = some fn) {ord : Ord} {N : NTab} (hok : okFn Tryz.prog ord fn = true) (h0 : keeps0 fn = true) {cs rest cs' : List D} {len : Nat}
    (he : ∀ e n, cs.length = len * n → evFnTM (TEM (callOf base) mu LL C1 e n) ord N e n fn len cs rest = some (.slc false len cs')) : MutC Tryz.prog glO f cs len rest cs' none :=
  evFnTM_ok (Te := TEm (callOf base) mu LL C1) mixedT ⟨callOf_ok hb, wrM_ok hm, wrM_ow⟩ callOf_cst rfl sqT_ok hf hok h0 he
/-! ### Families of calls -/
structure Fam where
  f : FuncId
  ι : Type
  a : ι → List D
  r : ι → D
def Fam.Good (F : Fam) : Prop := (∀ i, OK2 F.f (F.a i) (F.r i)) ∧ (∀ i j, F.a i = F.a j → F.r i = F.r j) ∧ ∀ i, cstG F.f (F.a i) = none
def AllGood : List Fam → Prop
  | [] => True
  | F :: l => F.Good ∧ AllGood l
def AllF (B : FuncId → List D → Option D) : List Fam → Prop
  | [] => True
  | F :: l => (∀ i, callOf B F.f (F.a i) = some (F.r i)) ∧ AllF B l
theorem allGood_mem : ∀ {l : List Fam}, AllGood l → ∀ F ∈ l, F.Good
  | [], _, F, hF => by cases hF
  | F0 :: l, h, F, hF => by
    rcases List.mem_cons.1 hF with rfl | hF
    · exact h.1
    · exact allGood_mem h.2 F hF
theorem allF_of {B : FuncId → List D → Option D} : ∀ {l : List Fam}, (∀ F ∈ l, ∀ i, callOf B F.f (F.a i) = some (F.r i)) → AllF B l
  | [], _ => trivial
  | F :: _, h => ⟨h F (List.mem_cons_self ..), allF_of fun e he => h e (List.mem_cons_of_mem _ he)⟩
open Classical in
noncomputable def bFam (l : List Fam) : FuncId → List D → Option D := fun k ds =>
  if h : ∃ r, ∃ F ∈ l, ∃ i : F.ι, F.f = k ∧ F.a i = ds ∧ F.r i = r then some h.choose else none
theorem bFam_ok {l : List Fam} (h : AllGood l) : CallsT (bFam l) := by
  intro k ds r hr
  unfold bFam at hr
  split at hr
  · rename_i hx
    cases hr
    obtain ⟨F, hF, i, rfl, rfl, h3⟩ := hx.choose_spec
    rw [← h3]
    exact (allGood_mem h F hF).1 i
  · cases hr
def newF : List FuncId → Bool
  | [] => true
  | x :: l => l.all (fun y => x != y) && newF l
theorem newF_eq : ∀ {l : List Fam}, newF (l.map Fam.f) = true → ∀ F ∈ l, ∀ F' ∈ l, F.f = F'.f → F = F'
  | [], _, F, hF, _, _, _ => by cases hF
  | F0 :: l, h, F, hF, F', hF', he => by
    simp only [List.map_cons, newF, Bool.and_eq_true, List.all_eq_true, bne_iff_ne, ne_eq] at h
    have key : ∀ G ∈ l, F0.f ≠ G.f := fun G hG => h.1 G.f (List.mem_map.2 ⟨G, hG, rfl⟩)
    rcases List.mem_cons.1 hF with h1 | h1
    · rcases List.mem_cons.1 hF' with h2 | h2
      · rw [h1, h2]
      · exact absurd (h1 ▸ he) (key F' h2)
    · rcases List.mem_cons.1 hF' with h2 | h2
      · exact absurd (h2 ▸ he).symm (key F h1)
      · exact newF_eq h.2 F h1 F' h2 he
theorem exF (l : List Fam) (h : AllGood l) (hn : newF (l.map Fam.f) = true) : ∃ B, CallsT B ∧ AllF B l := by
  refine ⟨bFam l, bFam_ok h, allF_of fun F hF i => ?_⟩
  obtain ⟨_, h2, h3⟩ := allGood_mem h F hF
  rw [callOf_b (h3 i)]
  have hx : ∃ r, ∃ F' ∈ l, ∃ j : F'.ι, F'.f = F.f ∧ F'.a j = F.a i ∧ F'.r j = r := ⟨F.r i, F, hF, i, rfl, rfl, rfl⟩
  unfold bFam
  rw [dif_pos hx]
  obtain ⟨F', hF', j, h4, h5, h6⟩ := hx.choose_spec
  obtain rfl := newF_eq hn F' hF' F hF h4
  rw [← h6, h2 j i h5]
def one (f : FuncId) (ds : List D) (r : D) : Fam := ⟨f, Unit, fun _ => ds, fun _ => r⟩
theorem one_good {f : FuncId} {ds : List D} {r : D} (h : OK2 f ds r) (hc : cstG f ds = none) : (one f ds r).Good := ⟨fun _ => h, fun _ _ _ => rfl, fun _ => hc⟩
end Go.Pd
end
section
namespace Go.Pd
open Go Go.Proofs
set_option maxRecDepth 100000
theorem F144_eq (call : CL) (L : Nat) (C : Nat → Nat) (J : Int) : evFnT (TEf call L C) O0 N0 FinM.raw Tryz.f144 [D.int .i64 J] =
 (optK (call 193 [D.int .i64 J]) fun r =>
 (aggK r 2 fun c =>
 (cellK c 0 fun d =>
 (intK .i64 d fun x =>
 (cellK c 1 fun K =>
 (optK (nilO K) fun _ =>
 (optK (call 192 [D.agg [D.int .i64 x, D.nils]]) fun V =>
 (aggK V 4 fun z =>
 (cellK z 0 fun M =>
 (intK .i64 M fun W =>
 (cellK z 1 fun O =>
 (optK (nilO O) fun _ =>
 (cellK z 2 fun S =>
 (intK .i64 S fun X =>
 (cellK z 3 fun U =>
 (optK (nilO U) fun _ =>
 (some (D.agg [D.int .i64 W, D.nils, D.int .i64 X, D.nils])))))))))))))))))) := by kernel_rfl
theorem F147_eq (call : CL) (L : Nat) (C : Nat → Nat) (J K M O : Int) : evFnT (TEf call L C) O0 N0 FinM.raw Tryz.f147 [D.agg [D.int .i64 J, D.nils, D.int .i64 K, D.nils], D.agg [D.int .i64 M, D.nils, D.int .i64 O, D.nils]] =
 (optK (call 198 [D.agg [D.int .i64 J, D.nils], D.agg [D.int .i64 O, D.nils]]) fun r =>
 (aggK r 2 fun c =>
 (cellK c 0 fun d =>
 (intK .i64 d fun x =>
 (cellK c 1 fun S =>
 (optK (nilO S) fun _ =>
 (optK (call 198 [D.agg [D.int .i64 M, D.nils], D.agg [D.int .i64 K, D.nils]]) fun W =>
 (aggK W 2 fun z =>
 (cellK z 0 fun U =>
 (intK .i64 U fun Y =>
 (cellK z 1 fun V =>
 (optK (nilO V) fun _ =>
 (optK (call 199 [D.agg [D.int .i64 x, D.nils], D.agg [D.int .i64 Y, D.nils]]) fun X =>
 (intK .i64 X fun Z =>
 (some (D.int .i64 Z)))))))))))))))) := by kernel_rfl
theorem F149_eq (call : CL) (L : Nat) (C : Nat → Nat) (z J K M : Int) : evFnT (TEf call L C) O0 N0 FinM.raw Tryz.f149 [D.agg [D.int .i64 z, D.nils, D.int .i64 J, D.nils], D.agg [D.int .i64 K, D.nils, D.int .i64 M, D.nils]] =
 (optK (call 147 [D.agg [D.int .i64 z, D.nils, D.int .i64 J, D.nils], D.agg [D.int .i64 K, D.nils, D.int .i64 M, D.nils]]) fun r =>
 (intK .i64 r fun x =>
 (some (D.bool (x == 0))))) := by kernel_rfl
theorem F150_eq (call : CL) (L : Nat) (C : Nat → Nat) (K z M J : Int) : evFnT (TEf call L C) O0 N0 FinM.raw Tryz.f150 [D.agg [D.int .i64 K, D.nils, D.int .i64 z, D.nils], D.agg [D.int .i64 M, D.nils, D.int .i64 J, D.nils]] =
 (optK (call 158 [D.agg [D.int .i64 K, D.nils, D.int .i64 z, D.nils]]) fun r =>
 (boolK r fun b =>
 (ifK b
 (optK (call 158 [D.agg [D.int .i64 M, D.nils, D.int .i64 J, D.nils]]) fun az =>
 (boolK az fun a3 =>
 (ifK a3
 (optK (call 200 [D.agg [D.int .i64 K, D.nils], D.agg [D.int .i64 M, D.nils]]) fun aE =>
 (aggK aE 2 fun c =>
 (cellK c 0 fun d =>
 (intK .i64 d fun x =>
 (cellK c 1 fun a4 =>
 (optK (nilO a4) fun _ =>
 (optK (call 192 [D.agg [D.int .i64 x, D.nils]]) fun aF =>
 (aggK aF 4 fun O =>
 (cellK O 0 fun af =>
 (intK .i64 af fun aM =>
 (cellK O 1 fun aq =>
 (optK (nilO aq) fun _ =>
 (cellK O 2 fun ar =>
 (intK .i64 ar fun aS =>
 (cellK O 3 fun au =>
 (optK (nilO au) fun _ =>
 (some (D.agg [D.int .i64 aM, D.nils, D.int .i64 aS, D.nils]))))))))))))))))))
 (optK (call 198 [D.agg [D.int .i64 K, D.nils], D.agg [D.int .i64 J, D.nils]]) fun aG =>
 (aggK aG 2 fun W =>
 (cellK W 0 fun av =>
 (intK .i64 av fun aT =>
 (cellK W 1 fun aw =>
 (optK (nilO aw) fun _ =>
 (optK (call 198 [D.agg [D.int .i64 M, D.nils], D.agg [D.int .i64 z, D.nils]]) fun aH =>
 (aggK aH 2 fun X =>
 (cellK X 0 fun ax =>
 (intK .i64 ax fun aU =>
 (cellK X 1 fun ay =>
 (optK (nilO ay) fun _ =>
 (optK (call 200 [D.agg [D.int .i64 aT, D.nils], D.agg [D.int .i64 aU, D.nils]]) fun aI =>
 (aggK aI 2 fun Y =>
 (cellK Y 0 fun a5 =>
 (intK .i64 a5 fun aV =>
 (cellK Y 1 fun a6 =>
 (optK (nilO a6) fun _ =>
 (optK (call 198 [D.agg [D.int .i64 z, D.nils], D.agg [D.int .i64 J, D.nils]]) fun aJ =>
 (aggK aJ 2 fun Z =>
 (cellK Z 0 fun a7 =>
 (intK .i64 a7 fun aW =>
 (cellK Z 1 fun a8 =>
 (optK (nilO a8) fun _ =>
 (optK (call 194 [D.agg [D.int .i64 aV, D.nils], D.agg [D.int .i64 aW, D.nils]]) fun aK =>
 (aggK aK 4 fun U =>
 (cellK U 0 fun a9 =>
 (intK .i64 a9 fun aX =>
 (cellK U 1 fun aa =>
 (optK (nilO aa) fun _ =>
 (cellK U 2 fun ab =>
 (intK .i64 ab fun aY =>
 (cellK U 3 fun ac =>
 (optK (nilO ac) fun _ =>
 (some (D.agg [D.int .i64 aX, D.nils, D.int .i64 aY, D.nils])))))))))))))))))))))))))))))))))))))))
 (optK (call 198 [D.agg [D.int .i64 K, D.nils], D.agg [D.int .i64 J, D.nils]]) fun aL =>
 (aggK aL 2 fun a0 =>
 (cellK a0 0 fun ad =>
 (intK .i64 ad fun aZ =>
 (cellK a0 1 fun ae =>
 (optK (nilO ae) fun _ =>
 (optK (call 198 [D.agg [D.int .i64 M, D.nils], D.agg [D.int .i64 z, D.nils]]) fun aA =>
 (aggK aA 2 fun a1 =>
 (cellK a1 0 fun ag =>
 (intK .i64 ag fun aN =>
 (cellK a1 1 fun ah =>
 (optK (nilO ah) fun _ =>
 (optK (call 200 [D.agg [D.int .i64 aZ, D.nils], D.agg [D.int .i64 aN, D.nils]]) fun aB =>
 (aggK aB 2 fun a2 =>
 (cellK a2 0 fun ai =>
 (intK .i64 ai fun aO =>
 (cellK a2 1 fun aj =>
 (optK (nilO aj) fun _ =>
 (optK (call 198 [D.agg [D.int .i64 z, D.nils], D.agg [D.int .i64 J, D.nils]]) fun aC =>
 (aggK aC 2 fun V =>
 (cellK V 0 fun ak =>
 (intK .i64 ak fun aP =>
 (cellK V 1 fun al =>
 (optK (nilO al) fun _ =>
 (optK (call 194 [D.agg [D.int .i64 aO, D.nils], D.agg [D.int .i64 aP, D.nils]]) fun aD =>
 (aggK aD 4 fun S =>
 (cellK S 0 fun am =>
 (intK .i64 am fun aQ =>
 (cellK S 1 fun an =>
 (optK (nilO an) fun _ =>
 (cellK S 2 fun ao =>
 (intK .i64 ao fun aR =>
 (cellK S 3 fun ap =>
 (optK (nilO ap) fun _ =>
 (some (D.agg [D.int .i64 aQ, D.nils, D.int .i64 aR, D.nils]))))))))))))))))))))))))))))))))))))))) := by kernel_rfl
theorem F151_eq (call : CL) (L : Nat) (C : Nat → Nat) (J K M O : Int) : evFnT (TEf call L C) O0 N0 FinM.raw Tryz.f151 [D.agg [D.int .i64 J, D.nils, D.int .i64 K, D.nils], D.agg [D.int .i64 M, D.nils, D.int .i64 O, D.nils]] =
 (optK (call 201 [D.agg [D.int .i64 M, D.nils, D.int .i64 O, D.nils]]) fun r =>
 (aggK r 4 fun c =>
 (cellK c 0 fun d =>
 (intK .i64 d fun x =>
 (cellK c 1 fun S =>
 (optK (nilO S) fun _ =>
 (cellK c 2 fun U =>
 (intK .i64 U fun a1 =>
 (cellK c 3 fun V =>
 (optK (nilO V) fun _ =>
 (optK (call 152 [D.agg [D.int .i64 J, D.nils, D.int .i64 K, D.nils], D.agg [D.int .i64 x, D.nils, D.int .i64 a1, D.nils]]) fun a0 =>
 (aggK a0 4 fun z =>
 (cellK z 0 fun W =>
 (intK .i64 W fun a2 =>
 (cellK z 1 fun X =>
 (optK (nilO X) fun _ =>
 (cellK z 2 fun Y =>
 (intK .i64 Y fun a3 =>
 (cellK z 3 fun Z =>
 (optK (nilO Z) fun _ =>
 (some (D.agg [D.int .i64 a2, D.nils, D.int .i64 a3, D.nils])))))))))))))))))))))) := by kernel_rfl
theorem F152_eq (call : CL) (L : Nat) (C : Nat → Nat) (K M O S : Int) : evFnT (TEf call L C) O0 N0 FinM.raw Tryz.f152 [D.agg [D.int .i64 K, D.nils, D.int .i64 M, D.nils], D.agg [D.int .i64 O, D.nils, D.int .i64 S, D.nils]] =
 (optK (call 198 [D.agg [D.int .i64 K, D.nils], D.agg [D.int .i64 O, D.nils]]) fun r =>
 (aggK r 2 fun c =>
 (cellK c 0 fun d =>
 (intK .i64 d fun x =>
 (cellK c 1 fun U =>
 (optK (nilO U) fun _ =>
 (optK (call 198 [D.agg [D.int .i64 M, D.nils], D.agg [D.int .i64 S, D.nils]]) fun a1 =>
 (aggK a1 2 fun J =>
 (cellK J 0 fun V =>
 (intK .i64 V fun a3 =>
 (cellK J 1 fun W =>
 (optK (nilO W) fun _ =>
 (optK (call 194 [D.agg [D.int .i64 x, D.nils], D.agg [D.int .i64 a3, D.nils]]) fun a2 =>
 (aggK a2 4 fun z =>
 (cellK z 0 fun X =>
 (intK .i64 X fun a4 =>
 (cellK z 1 fun Y =>
 (optK (nilO Y) fun _ =>
 (cellK z 2 fun Z =>
 (intK .i64 Z fun a5 =>
 (cellK z 3 fun a0 =>
 (optK (nilO a0) fun _ =>
 (some (D.agg [D.int .i64 a4, D.nils, D.int .i64 a5, D.nils])))))))))))))))))))))))) := by kernel_rfl
theorem F158_eq (call : CL) (L : Nat) (C : Nat → Nat) (J z : Int) : evFnT (TEf call L C) O0 N0 FinM.raw Tryz.f158 [D.agg [D.int .i64 J, D.nils, D.int .i64 z, D.nils]] =
 (some (D.bool (z == 1))) := by kernel_rfl
theorem F192_eq (call : CL) (L : Nat) (C : Nat → Nat) (z : Int) : evFnT (TEf call L C) O0 N0 FinM.raw Tryz.f192 [D.agg [D.int .i64 z, D.nils]] =
 (optK (call 193 [D.int .i64 1]) fun r =>
 (aggK r 2 fun c =>
 (cellK c 0 fun d =>
 (intK .i64 d fun x =>
 (cellK c 1 fun J =>
 (optK (nilO J) fun _ =>
 (some (D.agg [D.int .i64 z, D.nils, D.int .i64 x, D.nils])))))))) := by kernel_rfl
theorem F193_eq (call : CL) (L : Nat) (C : Nat → Nat) (z : Int) : evFnT (TEf call L C) O0 N0 FinM.raw Tryz.f193 [D.int .i64 z] =
 (some (D.agg [D.int .i64 z, D.nils])) := by kernel_rfl
def N194 : NTab := fun p => match p with
  | 7 => some { keep := [2, 3, 4], kl := [5], ren := [(2, 2), (3, 3), (4, 4), (5, 5)] }
  | _ => none
noncomputable def F194_7 (call : CL) (L : Nat) (C : Nat → Nat) (K z : Int) : Option D :=
 cutAt (TEf call L C) O0 N194 FinM.raw Tryz.f194 [true, true] []  (C 7) (St.mk (J :: J :: D.loc 2 0 0 :: D.loc 3 0 0 :: D.loc 4 0 0 :: jn 29 []) (Z :: Z :: (1, some (Ob.box [D.int .i64 K, D.nils] false)) :: (1, some (Ob.box [D.int .i64 z, D.nils] false)) :: (1, some (Ob.box [D.int .i64 0, D.nils, D.int .i64 0, D.nils] false)) :: zn 29 []))
theorem F194_7_eq (call : CL) (L : Nat) (C : Nat → Nat) (J z : Int) (hC : ∀ t, C t = 1) : F194_7 call L C   J z =
 (ifK (z == 1)
 (some (D.agg [D.int .i64 J, D.nils, D.int .i64 z, D.nils]))
 (optK (call 236 [D.agg [D.int .i64 J, D.nils], D.agg [D.int .i64 z, D.nils]]) fun a0 =>
 (aggK a0 2 fun K =>
 (cellK K 0 fun U =>
 (intK .i64 U fun S =>
 (cellK K 1 fun V =>
 (optK (nilO V) fun _ =>
 (optK (call 237 [D.agg [D.int .i64 J, D.nils], D.agg [D.int .i64 S, D.nils]]) fun a1 =>
 (aggK a1 2 fun M =>
 (cellK M 0 fun W =>
 (intK .i64 W fun a3 =>
 (cellK M 1 fun X =>
 (optK (nilO X) fun _ =>
 (optK (call 237 [D.agg [D.int .i64 z, D.nils], D.agg [D.int .i64 S, D.nils]]) fun a2 =>
 (aggK a2 2 fun O =>
 (cellK O 0 fun Y =>
 (intK .i64 Y fun a4 =>
 (cellK O 1 fun Z =>
 (optK (nilO Z) fun _ =>
 (some (D.agg [D.int .i64 a3, D.nils, D.int .i64 a4, D.nils]))))))))))))))))))))) := by
  unfold F194_7
  rw [hC]
  kernel_rfl
theorem F194_eq (call : CL) (L : Nat) (C : Nat → Nat) (J z : Int) : evFnT (TEf call L C) O0 N194 FinM.raw Tryz.f194 [D.agg [D.int .i64 J, D.nils], D.agg [D.int .i64 z, D.nils]] =
 (optK (call 234 [D.agg [D.int .i64 z, D.nils]]) fun r =>
 (intK .i64 r fun x =>
 (ifK (decide (x < 0))
 (optK (call 235 [D.agg [D.int .i64 J, D.nils]]) fun U =>
 (aggK U 2 fun c =>
 (cellK c 0 fun d =>
 (intK .i64 d fun W =>
 (cellK c 1 fun M =>
 (optK (nilO M) fun _ =>
 (optK (call 235 [D.agg [D.int .i64 z, D.nils]]) fun V =>
 (aggK V 2 fun K =>
 (cellK K 0 fun O =>
 (intK .i64 O fun X =>
 (cellK K 1 fun S =>
 (optK (nilO S) fun _ =>
 (F194_7 call L C W X)))))))))))))
 (F194_7 call L C J z)))) := by kernel_rfl
def N198 : NTab := fun p => match p with
  | 7 => some { keep := [2, 3, 4], kl := [], ren := [(2, 2), (3, 3), (4, 4)] }
  | 13 => some { keep := [2, 3, 4, 18], kl := [], ren := [(2, 2), (3, 3), (4, 4)] }
  | 107 => some { keep := [2, 3, 4, 6, 34], kl := [], ren := [(2, 2), (3, 3), (4, 4)] }
  | _ => none
noncomputable def F198_7 (call : CL) (L : Nat) (C : Nat → Nat) (z K : Int) : Option D :=
 cutAt (TEf call L C) O0 N198 FinM.raw Tryz.f198 [true, true] []  (C 7) (St.mk (J :: J :: D.loc 2 0 0 :: D.loc 3 0 0 :: D.loc 4 0 0 :: jn 61 []) (Z :: Z :: (1, some (Ob.box [D.int .i64 z, D.nils] false)) :: (1, some (Ob.box [D.int .i64 K, D.nils] false)) :: (1, some (Ob.box [D.int .i64 0, D.nils] false)) :: zn 61 []))
noncomputable def F198_107 (call : CL) (L : Nat) (C : Nat → Nat) (K M O : Int) (z : Bool) : Option D :=
 cutAt (TEf call L C) O0 N198 FinM.raw Tryz.f198 [true, false, true, false, true, true] []  (C 107) (St.mk (J :: J :: D.loc 2 0 0 :: D.loc 3 0 0 :: D.loc 4 0 0 :: J :: D.int IntKind.u64 O :: jn 27 (D.bool z :: jn 31 [])) (Z :: Z :: (1, some (Ob.box [D.int .i64 K, D.nils] false)) :: (1, some (Ob.box [D.int .i64 M, D.nils] false)) :: (1, some (Ob.box [D.int .i64 0, D.nils] false)) :: zn 61 []))
noncomputable def F198_13 (call : CL) (L : Nat) (C : Nat → Nat) (z K : Int) : Option D :=
 cutAt (TEf call L C) O0 N198 FinM.raw Tryz.f198 [true, false, true] []  (C 13) (St.mk (J :: J :: D.loc 2 0 0 :: D.loc 3 0 0 :: D.loc 4 0 0 :: jn 13 (D.bool true :: jn 47 [])) (Z :: Z :: (1, some (Ob.box [D.int .i64 z, D.nils] false)) :: (1, some (Ob.box [D.int .i64 K, D.nils] false)) :: (1, some (Ob.box [D.int .i64 0, D.nils] false)) :: zn 61 []))
theorem F198_107_eq (call : CL) (L : Nat) (C : Nat → Nat) (z J K : Int) (M : Bool) (hC : ∀ t, C t = 1) : F198_107 call L C  z J K M =
 (ifK M
 (ifK (!decide (z < 0) == decide (J < 0))
 (some (D.agg [D.int .i64 (IntKind.wrap .i64 (0 - IntKind.wrap .i64 K)), D.nils]))
 (some (D.agg [D.int .i64 (IntKind.wrap .i64 K), D.nils])))
 (F198_7 call L C z J)) := by
  unfold F198_107
  rw [hC]
  kernel_rfl
theorem F198_13_eq (call : CL) (L : Nat) (C : Nat → Nat) (z J : Int) (hC : ∀ t, C t = 1) : F198_13 call L C  z J  =
 (optK (call 249 [D.int .i64 z]) fun r =>
 (intK IntKind.u64 r fun x =>
 (optK (call 249 [D.int .i64 J]) fun O =>
 (intK IntKind.u64 O fun U =>
 (optK (call 248 [D.int IntKind.u64 x, D.int IntKind.u64 U]) fun S =>
 (tupK S 2 fun c =>
 (cellK c 0 fun d =>
 (intK IntKind.u64 d fun V =>
 (cellK c 1 fun M =>
 (intK IntKind.u64 M fun K =>
 (ifK (V == 0)
 (F198_107 call L C z J K (decide (K ≤ 9223372036854775807)))
 (F198_107 call L C z J K false)))))))))))) := by
  unfold F198_13
  rw [hC]
  kernel_rfl
theorem F198_eq (call : CL) (L : Nat) (C : Nat → Nat) (z J : Int) : evFnT (TEf call L C) O0 N198 FinM.raw Tryz.f198 [D.agg [D.int .i64 z, D.nils], D.agg [D.int .i64 J, D.nils]] =
 (F198_13 call L C z J) := by kernel_rfl
def N199 : NTab := fun p => match p with
  | 13 => some { keep := [2, 3, 12], kl := [], ren := [(2, 2), (3, 3)] }
  | _ => none
noncomputable def F199_13 (call : CL) (L : Nat) (C : Nat → Nat) (z K : Int) : Option D :=
 cutAt (TEf call L C) O0 N199 FinM.raw Tryz.f199 [true, false, true] []  (C 13) (St.mk (J :: J :: D.loc 2 0 0 :: D.loc 3 0 0 :: jn 8 (D.bool true :: jn 16 [])) (Z :: Z :: (1, some (Ob.box [D.int .i64 z, D.nils] false)) :: (1, some (Ob.box [D.int .i64 K, D.nils] false)) :: zn 25 []))
theorem F199_13_eq (call : CL) (L : Nat) (C : Nat → Nat) (z J : Int) (hC : ∀ t, C t = 1) : F199_13 call L C  z J  =
 (ifK (decide (z < J))
 (some (D.int .i64 (-1)))
 (ifK (decide (z > J))
 (some (D.int .i64 1))
 (some (D.int .i64 0)))) := by
  unfold F199_13
  rw [hC]
  kernel_rfl
theorem F199_eq (call : CL) (L : Nat) (C : Nat → Nat) (z J : Int) : evFnT (TEf call L C) O0 N199 FinM.raw Tryz.f199 [D.agg [D.int .i64 z, D.nils], D.agg [D.int .i64 J, D.nils]] =
 (F199_13 call L C z J) := by kernel_rfl
def N200 : NTab := fun p => match p with
  | 7 => some { keep := [2, 3, 4], kl := [], ren := [(2, 2), (3, 3), (4, 4)] }
  | 13 => some { keep := [2, 3, 4, 17], kl := [], ren := [(2, 2), (3, 3), (4, 4)] }
  | _ => none
noncomputable def F200_7 (call : CL) (L : Nat) (C : Nat → Nat) (z K : Int) : Option D :=
 cutAt (TEf call L C) O0 N200 FinM.raw Tryz.f200 [true, true] []  (C 7) (St.mk (J :: J :: D.loc 2 0 0 :: D.loc 3 0 0 :: D.loc 4 0 0 :: jn 62 []) (Z :: Z :: (1, some (Ob.box [D.int .i64 z, D.nils] false)) :: (1, some (Ob.box [D.int .i64 K, D.nils] false)) :: (1, some (Ob.box [D.int .i64 0, D.nils] false)) :: zn 62 []))
noncomputable def F200_13 (call : CL) (L : Nat) (C : Nat → Nat) (z K : Int) : Option D :=
 cutAt (TEf call L C) O0 N200 FinM.raw Tryz.f200 [true, false, true] []  (C 13) (St.mk (J :: J :: D.loc 2 0 0 :: D.loc 3 0 0 :: D.loc 4 0 0 :: jn 12 (D.bool true :: jn 49 [])) (Z :: Z :: (1, some (Ob.box [D.int .i64 z, D.nils] false)) :: (1, some (Ob.box [D.int .i64 K, D.nils] false)) :: (1, some (Ob.box [D.int .i64 0, D.nils] false)) :: zn 62 []))
theorem F200_13_eq (call : CL) (L : Nat) (C : Nat → Nat) (z J : Int) (hC : ∀ t, C t = 1) : F200_13 call L C  z J  =
 (ifK (decide (IntKind.wrap .i64 (z + J) > z) == decide (J > 0))
 (some (D.agg [D.int .i64 (IntKind.wrap .i64 (z + J)), D.nils]))
 (F200_7 call L C z J)) := by
  unfold F200_13
  rw [hC]
  kernel_rfl
theorem F200_eq (call : CL) (L : Nat) (C : Nat → Nat) (z J : Int) : evFnT (TEf call L C) O0 N200 FinM.raw Tryz.f200 [D.agg [D.int .i64 z, D.nils], D.agg [D.int .i64 J, D.nils]] =
 (F200_13 call L C z J) := by kernel_rfl
theorem F201_eq (call : CL) (L : Nat) (C : Nat → Nat) (z J : Int) : evFnT (TEf call L C) O0 N0 FinM.raw Tryz.f201 [D.agg [D.int .i64 z, D.nils, D.int .i64 J, D.nils]] =
 (optK (call 194 [D.agg [D.int .i64 J, D.nils], D.agg [D.int .i64 z, D.nils]]) fun r =>
 (aggK r 4 fun c =>
 (cellK c 0 fun d =>
 (intK .i64 d fun x =>
 (cellK c 1 fun K =>
 (optK (nilO K) fun _ =>
 (cellK c 2 fun M =>
 (intK .i64 M fun S =>
 (cellK c 3 fun O =>
 (optK (nilO O) fun _ =>
 (some (D.agg [D.int .i64 x, D.nils, D.int .i64 S, D.nils])))))))))))) := by kernel_rfl
theorem F234_eq (call : CL) (L : Nat) (C : Nat → Nat) (z : Int) : evFnT (TEf call L C) O0 N0 FinM.raw Tryz.f234 [D.agg [D.int .i64 z, D.nils]] =
 (some (D.int .i64 (if (if z < 1 then z else 1) > -1 then if z < 1 then z else 1 else -1))) := by kernel_rfl
theorem F235_eq (call : CL) (L : Nat) (C : Nat → Nat) (z : Int) : evFnT (TEf call L C) O0 N0 FinM.raw Tryz.f235 [D.agg [D.int .i64 z, D.nils]] =
 (ifK (z != -9223372036854775808)
 (some (D.agg [D.int .i64 (IntKind.wrap .i64 (0 - z)), D.nils]))
 (optK (call 203 [D.agg [D.int .i64 z, D.nils]]) fun r =>
 (tupK r 2 fun c =>
 (cellK c 0 fun d =>
 (boolK d fun b =>
 (cellK c 1 fun K =>
 (optK (nilO K) fun _ =>
 (optK (call 250 [D.bool !b, D.nils]) fun S =>
 (aggK S 2 fun J =>
 (cellK J 0 fun M =>
 (intK .i64 M fun x =>
 (cellK J 1 fun O =>
 (optK (nilO O) fun _ =>
 (some (D.agg [D.int .i64 x, D.nils]))))))))))))))) := by kernel_rfl
def N236 : NTab := fun p => match p with
  | 28 => some { keep := [2, 3, 4], kl := [5, 6], ren := [(2, 2), (3, 3), (4, 4), (5, 5), (6, 6)] }
  | _ => none
def O236 : Ord := fun id => match id with
  | 4 => some { fs := [(2, 2), (3, 3), (6, 6)] }
  | _ => none
noncomputable def F236_28 (call : CL) (L : Nat) (C : Nat → Nat) (n : Nat) (z K : Int) : Option D :=
 loopAt (TEf call L C) O236 N236 FinM.raw Tryz.f236 [true, true, false, false] []  n (St.mk (J :: J :: D.loc 2 0 0 :: D.loc 3 0 0 :: D.loc 4 0 0 :: jn 18 []) (Z :: Z :: (1, some (Ob.box [D.int .i64 z, D.nils] false)) :: (1, some (Ob.box [D.int .i64 K, D.nils] false)) :: (1, some (Ob.box [D.int .i64 0, D.nils] false)) :: zn 18 []))
theorem F236_28_eq (call : CL) (L : Nat) (C : Nat → Nat) (n : Nat) (J z : Int) : F236_28 call L C  (n + 1)  J z =
 (optK (call 234 [D.agg [D.int .i64 z, D.nils]]) fun Z =>
 (intK .i64 Z fun a1 =>
 (ifK (a1 != 0)
 (optK (call 287 [D.agg [D.int .i64 J, D.nils], D.agg [D.int .i64 z, D.nils]]) fun a0 =>
 (tupK a0 2 fun K =>
 (cellK K 0 fun S =>
 (aggK S 2 fun M =>
 (cellK M 0 fun U =>
 (intK .i64 U fun _x_3 =>
 (cellK M 1 fun V =>
 (optK (nilO V) fun _ =>
 (cellK K 1 fun W =>
 (aggK W 2 fun O =>
 (cellK O 0 fun X =>
 (intK .i64 X fun a2 =>
 (cellK O 1 fun Y =>
 (optK (nilO Y) fun _ =>
 (F236_28 call L C n z a2)))))))))))))))
 (some (D.agg [D.int .i64 J, D.nils]))))) := by kernel_rfl
theorem F236_eq (call : CL) (L : Nat) (C : Nat → Nat) (J K : Int) : evFnT (TEf call L C) O236 N236 FinM.raw Tryz.f236 [D.agg [D.int .i64 J, D.nils], D.agg [D.int .i64 K, D.nils]] =
 (optK (call 286 [D.agg [D.int .i64 J, D.nils]]) fun r =>
 (aggK r 2 fun c =>
 (cellK c 0 fun d =>
 (intK .i64 d fun x =>
 (cellK c 1 fun M =>
 (optK (nilO M) fun _ =>
 (optK (call 286 [D.agg [D.int .i64 K, D.nils]]) fun U =>
 (aggK U 2 fun z =>
 (cellK z 0 fun O =>
 (intK .i64 O fun V =>
 (cellK z 1 fun S =>
 (optK (nilO S) fun _ =>
 (F236_28 call L C L x V))))))))))))) := by kernel_rfl
theorem F237_eq (call : CL) (L : Nat) (C : Nat → Nat) (J z : Int) : evFnT (TEf call L C) O0 N0 FinM.raw Tryz.f237 [D.agg [D.int .i64 J, D.nils], D.agg [D.int .i64 z, D.nils]] =
 (optK (call 234 [D.agg [D.int .i64 z, D.nils]]) fun r =>
 (intK .i64 r fun x =>
 (ifK (decide (x < 0))
 (optK (call 235 [D.agg [D.int .i64 J, D.nils]]) fun ac =>
 (aggK ac 2 fun c =>
 (cellK c 0 fun d =>
 (intK .i64 d fun ag =>
 (cellK c 1 fun X =>
 (optK (nilO X) fun _ =>
 (optK (call 235 [D.agg [D.int .i64 z, D.nils]]) fun ad =>
 (aggK ad 2 fun K =>
 (cellK K 0 fun a4 =>
 (intK .i64 a4 fun ah =>
 (cellK K 1 fun a5 =>
 (optK (nilO a5) fun _ =>
 (optK (call 287 [D.agg [D.int .i64 ag, D.nils], D.agg [D.int .i64 ah, D.nils]]) fun ae =>
 (tupK ae 2 fun M =>
 (cellK M 0 fun a6 =>
 (aggK a6 2 fun O =>
 (cellK O 0 fun a7 =>
 (intK .i64 a7 fun ai =>
 (cellK O 1 fun a8 =>
 (optK (nilO a8) fun _ =>
 (cellK M 1 fun a9 =>
 (aggK a9 2 fun S =>
 (cellK S 0 fun aa =>
 (intK .i64 aa fun _x_4 =>
 (cellK S 1 fun ab =>
 (optK (nilO ab) fun _ =>
 (some (D.agg [D.int .i64 ai, D.nils]))))))))))))))))))))))))))))
 (optK (call 287 [D.agg [D.int .i64 J, D.nils], D.agg [D.int .i64 z, D.nils]]) fun af =>
 (tupK af 2 fun U =>
 (cellK U 0 fun Y =>
 (aggK Y 2 fun V =>
 (cellK V 0 fun Z =>
 (intK .i64 Z fun aj =>
 (cellK V 1 fun a0 =>
 (optK (nilO a0) fun _ =>
 (cellK U 1 fun a1 =>
 (aggK a1 2 fun W =>
 (cellK W 0 fun a2 =>
 (intK .i64 a2 fun _x_6 =>
 (cellK W 1 fun a3 =>
 (optK (nilO a3) fun _ =>
 (some (D.agg [D.int .i64 aj, D.nils]))))))))))))))))))) := by kernel_rfl
theorem F249_eq (call : CL) (L : Nat) (C : Nat → Nat) (z : Int) : evFnT (TEf call L C) O0 N0 FinM.raw Tryz.f249 [D.int .i64 z] =
 (ifK (decide (z < 0))
 (some (D.int IntKind.u64 (IntKind.wrap IntKind.u64 (IntKind.wrap .i64 (0 - z)))))
 (some (D.int IntKind.u64 (IntKind.wrap IntKind.u64 z)))) := by kernel_rfl
theorem F256_eq (call : CL) (L : Nat) (C : Nat → Nat) (J K M O : Int) : evFnT (TEf call L C) O0 N0 FinM.raw Tryz.f256 [D.agg [D.int .i64 J, D.nils, D.int .i64 K, D.nils], D.agg [D.int .i64 M, D.nils, D.int .i64 O, D.nils]] =
 (optK (call 295 [D.agg [D.int .i64 M, D.nils, D.int .i64 O, D.nils]]) fun r =>
 (aggK r 4 fun c =>
 (cellK c 0 fun d =>
 (intK .i64 d fun x =>
 (cellK c 1 fun S =>
 (optK (nilO S) fun _ =>
 (cellK c 2 fun U =>
 (intK .i64 U fun a1 =>
 (cellK c 3 fun V =>
 (optK (nilO V) fun _ =>
 (optK (call 150 [D.agg [D.int .i64 J, D.nils, D.int .i64 K, D.nils], D.agg [D.int .i64 x, D.nils, D.int .i64 a1, D.nils]]) fun a0 =>
 (aggK a0 4 fun z =>
 (cellK z 0 fun W =>
 (intK .i64 W fun a2 =>
 (cellK z 1 fun X =>
 (optK (nilO X) fun _ =>
 (cellK z 2 fun Y =>
 (intK .i64 Y fun a3 =>
 (cellK z 3 fun Z =>
 (optK (nilO Z) fun _ =>
 (some (D.agg [D.int .i64 a2, D.nils, D.int .i64 a3, D.nils])))))))))))))))))))))) := by kernel_rfl
theorem F257_eq (call : CL) (L : Nat) (C : Nat → Nat) (z J : Int) : evFnT (TEf call L C) O0 N0 FinM.raw Tryz.f257 [D.agg [D.int .i64 z, D.nils, D.int .i64 J, D.nils]] =
 (optK (call 234 [D.agg [D.int .i64 z, D.nils]]) fun r =>
 (intK .i64 r fun x =>
 (some (D.int .i64 x)))) := by kernel_rfl
theorem F286_eq (call : CL) (L : Nat) (C : Nat → Nat) (z : Int) : evFnT (TEf call L C) O0 N0 FinM.raw Tryz.f286 [D.agg [D.int .i64 z, D.nils]] =
 (ifK (decide (z < 0))
 (optK (call 235 [D.agg [D.int .i64 z, D.nils]]) fun r =>
 (aggK r 2 fun c =>
 (cellK c 0 fun d =>
 (intK .i64 d fun x =>
 (cellK c 1 fun J =>
 (optK (nilO J) fun _ =>
 (some (D.agg [D.int .i64 x, D.nils]))))))))
 (some (D.agg [D.int .i64 z, D.nils]))) := by kernel_rfl
def N287 : NTab := fun p => match p with
  | 7 => some { keep := [2, 3, 4, 5], kl := [14, 15], ren := [(2, 2), (3, 3), (4, 4), (5, 5), (14, 14), (15, 15)] }
  | 13 => some { keep := [2, 3, 4, 5, 28], kl := [14, 15], ren := [(2, 2), (3, 3), (4, 4), (5, 5), (14, 14), (15, 15)] }
  | _ => none
def O287 : Ord := fun id => match id with
  | 12 => some { fs := [(4, 4), (5, 5), (14, 14), (15, 15)] }
  | _ => none
noncomputable def F287_7 (call : CL) (L : Nat) (C : Nat → Nat) (z K : Int) : Option D :=
 cutAt (TEf call L C) O287 N287 FinM.raw Tryz.f287 [true, true] []  (C 7) (St.mk (J :: J :: D.loc 2 0 0 :: D.loc 3 0 0 :: D.loc 4 0 0 :: D.loc 5 0 0 :: jn 78 []) (Z :: Z :: (1, some (Ob.box [D.int .i64 z, D.nils] false)) :: (1, some (Ob.box [D.int .i64 K, D.nils] false)) :: (1, some (Ob.box [D.int .i64 0, D.nils] false)) :: (1, some (Ob.box [D.int .i64 0, D.nils] false)) :: zn 78 []))
noncomputable def F287_13 (call : CL) (L : Nat) (C : Nat → Nat) (K M : Int) (z : Bool) : Option D :=
 cutAt (TEf call L C) O287 N287 FinM.raw Tryz.f287 [true, false, true] []  (C 13) (St.mk (J :: J :: D.loc 2 0 0 :: D.loc 3 0 0 :: D.loc 4 0 0 :: D.loc 5 0 0 :: jn 22 (D.bool z :: jn 55 [])) (Z :: Z :: (1, some (Ob.box [D.int .i64 K, D.nils] false)) :: (1, some (Ob.box [D.int .i64 M, D.nils] false)) :: (1, some (Ob.box [D.int .i64 0, D.nils] false)) :: (1, some (Ob.box [D.int .i64 0, D.nils] false)) :: zn 78 []))
theorem F287_13_eq (call : CL) (L : Nat) (C : Nat → Nat) (J z : Int) (K : Bool) (hC : ∀ t, C t = 1) : F287_13 call L C  J z K =
 (ifK K
 (chkK (!decide (z = 0))
 (chkK (!decide (z = 0))
 (ifK (decide (Int.tmod J z < 0))
 (some (D.tup [D.agg [D.int .i64 (IntKind.wrap .i64 (IntKind.wrap .i64 (Int.tdiv J z) - 1)), D.nils], D.agg [D.int .i64 (IntKind.wrap .i64 (Int.tmod J z + z)), D.nils]]))
 (some (D.tup [D.agg [D.int .i64 (IntKind.wrap .i64 (Int.tdiv J z)), D.nils], D.agg [D.int .i64 (Int.tmod J z), D.nils]])))))
 (F287_7 call L C J z)) := by
  unfold F287_13
  rw [hC]
  kernel_rfl
theorem F287_eq (call : CL) (L : Nat) (C : Nat → Nat) (z J : Int) : evFnT (TEf call L C) O287 N287 FinM.raw Tryz.f287 [D.agg [D.int .i64 z, D.nils], D.agg [D.int .i64 J, D.nils]] =
 (F287_13 call L C z J (z != -9223372036854775808)) := by kernel_rfl
theorem F295_eq (call : CL) (L : Nat) (C : Nat → Nat) (z J : Int) : evFnT (TEf call L C) O0 N0 FinM.raw Tryz.f295 [D.agg [D.int .i64 z, D.nils, D.int .i64 J, D.nils]] =
 (optK (call 235 [D.agg [D.int .i64 z, D.nils]]) fun r =>
 (aggK r 2 fun c =>
 (cellK c 0 fun d =>
 (intK .i64 d fun x =>
 (cellK c 1 fun K =>
 (optK (nilO K) fun _ =>
 (some (D.agg [D.int .i64 x, D.nils, D.int .i64 J, D.nils])))))))) := by kernel_rfl
end Go.Pd
end
section
namespace Go.Proofs
open Go.Shelf
def Tryz.lays171_ren : Go.Shelf.Ren := ⟨fun | 171 => 125 | 243 => 181 | 246 => 227 | 283 => 273 | 284 => 274 | 285 => 275 | 286 => 276 | 129 => 247 | 317 => 299 | 318 => 300 | 319 => 301 | 320 => 302 | 337 => 320 | 338 => 321 | n => n, fun | 3 => 3 | 9 => 9 | 2 => 2 | 4 => 4 | 171 => 334 | 0 => 0 | 53 => 217 | 37 => 192 | 5 => 5 | 173 => 336 | 212 => 352 | 51 => 315 | 20 => 20 | 213 => 353 | 46 => 272 | 232 => 378 | 233 => 379 | n => n, fun | 17 => 4 | 18 => 7 | 19 => 8 | n => n⟩
theorem Tryz.lays171 : Go.Proofs.Lays.n171 Tryz.prog Tryz.lays171_ren := {
  mixed := by kernel_rfl
  f129 := Tryz.func247.trans (congrArg some (by kernel_rfl))
  f171 := Tryz.func125.trans (congrArg some (by kernel_rfl))
  f243 := Tryz.func181.trans (congrArg some (by kernel_rfl))
  f246 := Tryz.func227.trans (congrArg some (by kernel_rfl))
  f283 := Tryz.func273.trans (congrArg some (by kernel_rfl))
  f284 := Tryz.func274.trans (congrArg some (by kernel_rfl))
  f285 := Tryz.func275.trans (congrArg some (by kernel_rfl))
  f286 := Tryz.func276.trans (congrArg some (by kernel_rfl))
  f317 := Tryz.func299.trans (congrArg some (by kernel_rfl))
  f318 := Tryz.func300.trans (congrArg some (by kernel_rfl))
  f319 := Tryz.func301.trans (congrArg some (by kernel_rfl))
  f320 := Tryz.func302.trans (congrArg some (by kernel_rfl))
  f337 := Tryz.func320.trans (congrArg some (by kernel_rfl))
  f338 := Tryz.func321.trans (congrArg some (by kernel_rfl))
  t0 := Tryz.underlying0
  a0 := Tryz.isAgg0
  z0 := Tryz.sizeOf0
  v0 := Tryz.zeroValue0
  t2 := Tryz.underlying2
  a2 := Tryz.isAgg2
  z2 := Tryz.sizeOf2
  v2 := Tryz.zeroValue2
  t3 := Tryz.underlying3
  a3 := Tryz.isAgg3
  z3 := Tryz.sizeOf3
  v3 := Tryz.zeroValue3
  t4 := Tryz.underlying4
  a4 := Tryz.isAgg4
  z4 := Tryz.sizeOf4
  v4 := Tryz.zeroValue4
  t5 := Tryz.underlying5
  a5 := Tryz.isAgg5
  z5 := Tryz.sizeOf5
  v5 := Tryz.zeroValue5
  t9 := Tryz.underlying9
  a9 := Tryz.isAgg9
  z9 := Tryz.sizeOf9
  v9 := Tryz.zeroValue9
  t20 := Tryz.underlying20
  a20 := Tryz.isAgg20
  z20 := Tryz.sizeOf20
  v20 := Tryz.zeroValue20
  t37 := Tryz.underlying192
  a37 := Tryz.isAgg192
  z37 := Tryz.sizeOf192
  v37 := Tryz.zeroValue192
  t46 := Tryz.underlying272
  a46 := Tryz.isAgg272
  z46 := Tryz.sizeOf272
  v46 := Tryz.zeroValue272
  t51 := Tryz.underlying315
  a51 := Tryz.isAgg315
  z51 := Tryz.sizeOf315
  v51 := Tryz.zeroValue315
  t53 := Tryz.underlying217
  a53 := Tryz.isAgg217
  z53 := Tryz.sizeOf217
  v53 := Tryz.zeroValue217
  t171 := Tryz.underlying334
  a171 := Tryz.isAgg334
  z171 := Tryz.sizeOf334
  v171 := Tryz.zeroValue334
  t173 := Tryz.underlying336
  a173 := Tryz.isAgg336
  z173 := Tryz.sizeOf336
  v173 := Tryz.zeroValue336
  t212 := Tryz.underlying352
  a212 := Tryz.isAgg352
  z212 := Tryz.sizeOf352
  v212 := Tryz.zeroValue352
  t213 := Tryz.underlying353
  a213 := Tryz.isAgg353
  z213 := Tryz.sizeOf353
  t232 := Tryz.underlying378
  a232 := Tryz.isAgg378
  z232 := Tryz.sizeOf378
  v232 := Tryz.zeroValue378
  t233 := Tryz.underlying379
  a233 := Tryz.isAgg379
  z233 := Tryz.sizeOf379
  v233 := Tryz.zeroValue379
  g17 := by kernel_rfl
  g18 := by kernel_rfl
  g19 := by kernel_rfl }
open Go.RowKit Go.Sort Go.Lib in
theorem Tryz.strconv_Itoa_small (i : Nat) (hi : i < 100) (w : World) :
    Calls Tryz.prog 125 #[.int .i64 i] w fun e w' => e = .returned (.string ⟨(Lib.decDigits i).toArray⟩) ∧ w' = w := Any.strconv_Itoa_small Tryz.lays171 i hi w
def Tryz.lays264_ren : Go.Shelf.Ren := ⟨fun | 264 => 248 | n => n, fun | 53 => 217 | 46 => 272 | n => n, fun | n => n⟩
theorem Tryz.lays264 : Go.Proofs.Lays.n264 Tryz.prog Tryz.lays264_ren := {
  mixed := by kernel_rfl
  f264 := Tryz.func248.trans (congrArg some (by kernel_rfl))
  t46 := Tryz.underlying272
  a46 := Tryz.isAgg272
  z46 := Tryz.sizeOf272
  v46 := Tryz.zeroValue272
  t53 := Tryz.underlying217
  a53 := Tryz.isAgg217
  z53 := Tryz.sizeOf217
  v53 := Tryz.zeroValue217 }
open Go.RowKit Go.Lib in
theorem Tryz.bits_Mul64 (x y : Nat) (hx : x < 18446744073709551616) (hy : y < 18446744073709551616) (w : World) :
    Calls Tryz.prog 248 #[.int .u64 x, .int .u64 y] w fun e w' => e = .returned (.tuple #[.int .u64 ((x * y / 18446744073709551616 : Nat) : Int), .int .u64 ((x * y % 18446744073709551616 : Nat) : Int)]) ∧ w' = w := Any.bits_Mul64 Tryz.lays264 x y hx hy w
end Go.Proofs
end
section
namespace Go.Pd
open Go Go.Proofs Go.RowKit Go.Shelf
set_option maxRecDepth 100000
def zD (a : Int) : D := .agg [.int .i64 a, .nils]
def fD (x : Int × Int) : D := .agg [.int .i64 x.1, .nils, .int .i64 x.2, .nils]
abbrev Rg (a : Int) : Prop := a.natAbs < 9223372036854775808
theorem fnR {base : FuncId → List D → Option D} (hb : CallsT base) {f : FuncId} {fn : Func} (hf : Tryz.prog.funcs[f]? = some fn) {ord : Ord} {N : NTab} (hok : okFn Tryz.prog ord fn = true) {ds : List D} {r : D}
    (he : evFnT (TEf (callOf base) LL C1) ord N .raw fn ds = some r) : OK2 f ds r :=
  evFnT_ok (Te := TEf (callOf base) LL C1) mixedT ⟨callOf_ok hb, wrM_ok noMu_ok, wrM_ow⟩ callOf_cst rfl sqT_ok hf (by simp) hok he
theorem u64_nat {x : Int} (h : 0 ≤ x ∧ x < 18446744073709551616) : IntKind.wrap .u64 x = x := by
  rw [IntKind.wrap_u64]; omega
theorem int_arg {I : Nat → Prop} {w : World} {k : IntKind} {n : Int} {v : Value} (h : RelC I w (.int k n) v) : v = .int k n := by cases h; rfl
theorem ok248 (x y : Nat) (hx : x < 18446744073709551616) (hy : y < 18446744073709551616) : OK2 248 [.int .u64 x, .int .u64 y] (.tup [.int .u64 ((x * y / 18446744073709551616 : Nat) : Int), .int .u64 ((x * y % 18446744073709551616 : Nat) : Int)]) := by
  refine ⟨enters_of Tryz.func248 (by kernel_rfl) rfl, fun I w vs hI hgl hl hr => ?_⟩
  obtain ⟨l⟩ := vs
  match l, hl with
  | [v, u], _ =>
    have hv := int_arg (hr 0 _ v rfl rfl)
    have hu := int_arg (hr 1 _ u rfl rfl)
    subst hv hu
    refine (Tryz.bits_Mul64 x y hx hy w).mono ?_
    rintro e w' ⟨rfl, rfl⟩
    refine ⟨_, rfl, .tup _ _ rfl fun j d v hd hv => ?_, .refl _ _⟩
    match j with
    | 0 => simp at hd hv; subst hd hv; exact .int _ _
    | 1 => simp at hd hv; subst hd hv; exact .int _ _
    | j + 2 => simp at hd
theorem ok249 (n : Int) (h : Rg n) : OK2 249 [.int .i64 n] (.int .u64 (n.natAbs : Int)) := by
  refine fnR none_ok Tryz.func249 (ord := O0) (N := N0) (by kernel_rfl) ((F249_eq _ _ _ n).trans ?_)
  have h : n.natAbs < 9223372036854775808 := h
  by_cases hn : n < 0
  · rw [show decide (n < 0) = true by simpa using hn, ifK_true, wrap_in (by omega), u64_nat (by omega)]
    congr 2; omega
  · rw [show decide (n < 0) = false by simpa using hn, ifK_false, u64_nat (by omega)]
    congr 2; omega
theorem ok193 (n : Int) : OK2 193 [.int .i64 n] (zD n) := fnR none_ok Tryz.func193 (ord := O0) (N := N0) (by kernel_rfl) (F193_eq _ _ _ n)
def famZ (k : FuncId) (r : Int → D) : Fam := ⟨k, {n : Int // Rg n}, fun n => [.int .i64 n.1], fun n => r n.1⟩
theorem zD_inj {a b : Int} (h : zD a = zD b) : a = b := by
  simp only [zD, D.agg.injEq, List.cons.injEq, D.int.injEq, true_and, and_true] at h
  exact h
theorem fD_inj {a b : Int × Int} (h : fD a = fD b) : a = b := by
  simp only [fD, D.agg.injEq, List.cons.injEq, D.int.injEq, true_and, and_true] at h
  exact Prod.ext h.1 h.2
def fam1 (k : FuncId) (Q : Int → Prop) (r : Int → D) : Fam := ⟨k, {x : Int // Q x}, fun x => [zD x.1], fun x => r x.1⟩
def fam2 (k : FuncId) (Q : Int → Int → Prop) (r : Int → Int → D) : Fam := ⟨k, {x : Int × Int // Q x.1 x.2}, fun x => [zD x.1.1, zD x.1.2], fun x => r x.1.1 x.1.2⟩
def famF1 (k : FuncId) (Q : Int × Int → Prop) (r : Int × Int → D) : Fam := ⟨k, {x : Int × Int // Q x}, fun x => [fD x.1], fun x => r x.1⟩
def famF2 (k : FuncId) (Q : Int × Int → Int × Int → Prop) (r : Int × Int → Int × Int → D) : Fam := ⟨k, {x : (Int × Int) × (Int × Int) // Q x.1 x.2}, fun x => [fD x.1.1, fD x.1.2], fun x => r x.1.1 x.1.2⟩
theorem fam1_good {k : FuncId} {Q : Int → Prop} {r : Int → D} (h : ∀ a, Q a → OK2 k [zD a] (r a)) (hc : ∀ a, cstG k [zD a] = none) : (fam1 k Q r).Good :=
  ⟨fun x => h x.1 x.2, fun x y e => by
    have e : [zD x.1] = [zD y.1] := e
    simp only [List.cons.injEq, and_true] at e
    show r x.1 = r y.1
    rw [zD_inj e], fun x => hc x.1⟩
theorem fam2_good {k : FuncId} {Q : Int → Int → Prop} {r : Int → Int → D} (h : ∀ a b, Q a b → OK2 k [zD a, zD b] (r a b)) (hc : ∀ a b, cstG k [zD a, zD b] = none) : (fam2 k Q r).Good :=
  ⟨fun x => h x.1.1 x.1.2 x.2, fun x y e => by
    have e : [zD x.1.1, zD x.1.2] = [zD y.1.1, zD y.1.2] := e
    simp only [List.cons.injEq, and_true] at e
    show r x.1.1 x.1.2 = r y.1.1 y.1.2
    rw [zD_inj e.1, zD_inj e.2], fun x => hc x.1.1 x.1.2⟩
theorem famF1_good {k : FuncId} {Q : Int × Int → Prop} {r : Int × Int → D} (h : ∀ a, Q a → OK2 k [fD a] (r a)) (hc : ∀ a, cstG k [fD a] = none) : (famF1 k Q r).Good :=
  ⟨fun x => h x.1 x.2, fun x y e => by
    have e : [fD x.1] = [fD y.1] := e
    simp only [List.cons.injEq, and_true] at e
    show r x.1 = r y.1
    rw [fD_inj e], fun x => hc x.1⟩
theorem famF2_good {k : FuncId} {Q : Int × Int → Int × Int → Prop} {r : Int × Int → Int × Int → D} (h : ∀ a b, Q a b → OK2 k [fD a, fD b] (r a b)) (hc : ∀ a b, cstG k [fD a, fD b] = none) : (famF2 k Q r).Good :=
  ⟨fun x => h x.1.1 x.1.2 x.2, fun x y e => by
    have e : [fD x.1.1, fD x.1.2] = [fD y.1.1, fD y.1.2] := e
    simp only [List.cons.injEq, and_true] at e
    show r x.1.1 x.1.2 = r y.1.1 y.1.2
    rw [fD_inj e.1, fD_inj e.2], fun x => hc x.1.1 x.1.2⟩
theorem zK {α : Type} (a : Int) (c : Int → Option α) : (aggK (zD a) 2 fun cs => cellK cs 0 fun d => intK .i64 d fun x => cellK cs 1 fun d' => optK (nilO d') fun _ => c x) = c a := rfl
theorem fK {α : Type} (a : Int × Int) (c : Int → Int → Option α) : (aggK (fD a) 4 fun cs => cellK cs 0 fun d => intK .i64 d fun x => cellK cs 1 fun d' => optK (nilO d') fun _ => cellK cs 2 fun d => intK .i64 d fun y => cellK cs 3 fun d' => optK (nilO d') fun _ => c x y) = c a.1 a.2 := rfl
theorem tup2u {α : Type} (p q : Int) (k : Int → Int → Option α) : (tupK (.tup [.int .u64 p, .int .u64 q]) 2 fun c => cellK c 0 fun d => intK .u64 d fun x => cellK c 1 fun d' => intK .u64 d' fun y => k x y) = k p q := rfl
theorem zD_def (a : Int) : D.agg [.int .i64 a, .nils] = zD a := rfl
theorem fD_def (a b : Int) : D.agg [.int .i64 a, .nils, .int .i64 b, .nils] = fD (a, b) := rfl
/-! ### Integers -/
theorem ok234 (a : Int) : OK2 234 [zD a] (.int .i64 (sg a)) := by
  refine fnR none_ok Tryz.func234 (ord := O0) (N := N0) (by kernel_rfl) ((F234_eq _ _ _ a).trans ?_)
  congr 2
  unfold sg
  split <;> split <;> (try split) <;> (try split) <;> omega
theorem ok235 (a : Int) (h : Rg a) : OK2 235 [zD a] (zD (-a)) := by
  refine fnR none_ok Tryz.func235 (ord := O0) (N := N0) (by kernel_rfl) ((F235_eq _ _ _ a).trans ?_)
  have h : a.natAbs < 9223372036854775808 := h
  rw [show (a != -9223372036854775808) = true by simp; omega, ifK_true, wrap_in (by omega), Int.zero_sub]
  rfl
theorem ok286 (a : Int) (h : Rg a) : OK2 286 [zD a] (zD (a.natAbs : Int)) := by
  obtain ⟨B, hb, e235, _⟩ := exF [fam1 235 Rg fun a => zD (-a)] ⟨fam1_good ok235 (fun _ => rfl), trivial⟩ rfl
  refine fnR hb Tryz.func286 (ord := O0) (N := N0) (by kernel_rfl) ((F286_eq _ _ _ a).trans ?_)
  have g : callOf B 235 [zD a] = some (zD (-a)) := e235 ⟨a, h⟩
  simp only [zD_def]
  by_cases hn : a < 0
  · rw [show decide (a < 0) = true by simpa using hn, ifK_true, g, optK_some, zK]
    congr 2; omega
  · rw [show decide (a < 0) = false by simpa using hn, ifK_false]
    congr 2; omega
theorem ok200 (a b : Int) (ha : Rg a) (hb : Rg b) (hab : Rg (a + b)) : OK2 200 [zD a, zD b] (zD (a + b)) := by
  refine fnR none_ok Tryz.func200 (ord := O0) (N := N200) (by kernel_rfl) ((F200_eq _ _ _ a b).trans ?_)
  have ha : a.natAbs < 9223372036854775808 := ha
  have hb : b.natAbs < 9223372036854775808 := hb
  have hab : (a + b).natAbs < 9223372036854775808 := hab
  rw [F200_13_eq _ _ _ _ _ c1, wrap_in (by omega), show (decide (a + b > a) == decide (b > 0)) = true by
    by_cases h : b > 0
    · simp [h]; omega
    · simp [h]; omega, ifK_true]
  rfl
theorem mul_div_zero {x : Nat} (h : x < 9223372036854775808) : x / 18446744073709551616 = 0 := Nat.div_eq_of_lt (by omega)
theorem ok198 (a b : Int) (ha : Rg a) (hb : Rg b) (hab : Rg (a * b)) : OK2 198 [zD a, zD b] (zD (a * b)) := by
  obtain ⟨B, hB, e248, e249, _⟩ := exF [⟨248, {x : Nat × Nat // x.1 < 18446744073709551616 ∧ x.2 < 18446744073709551616}, fun x => [.int .u64 x.1.1, .int .u64 x.1.2], fun x => .tup [.int .u64 ((x.1.1 * x.1.2 / 18446744073709551616 : Nat) : Int), .int .u64 ((x.1.1 * x.1.2 % 18446744073709551616 : Nat) : Int)]⟩, famZ 249 fun n => .int .u64 (n.natAbs : Int)]
    ⟨⟨fun x => ok248 x.1.1 x.1.2 x.2.1 x.2.2, fun x y e => by
        have e : [D.int .u64 (x.1.1 : Int), .int .u64 (x.1.2 : Int)] = [.int .u64 (y.1.1 : Int), .int .u64 (y.1.2 : Int)] := e
        simp only [List.cons.injEq, D.int.injEq, true_and, and_true] at e
        have e1 : x.1.1 = y.1.1 := by omega
        have e2 : x.1.2 = y.1.2 := by omega
        show D.tup _ = D.tup _
        rw [e1, e2], fun _ => rfl⟩, ⟨fun n => ok249 n.1 n.2, fun x y e => by
        have e : [D.int .i64 x.1] = [D.int .i64 y.1] := e
        simp only [List.cons.injEq, D.int.injEq, true_and, and_true] at e
        show D.int .u64 (x.1.natAbs : Int) = .int .u64 (y.1.natAbs : Int)
        rw [e], fun _ => rfl⟩, trivial⟩ rfl
  have ha' : a.natAbs < 9223372036854775808 := ha
  have hb' : b.natAbs < 9223372036854775808 := hb
  have hab' : a.natAbs * b.natAbs < 9223372036854775808 := by rw [← Int.natAbs_mul]; exact hab
  refine fnR hB Tryz.func198 (ord := O0) (N := N198) (by kernel_rfl) ((F198_eq _ _ _ a b).trans ?_)
  have g1 : callOf B 249 [.int .i64 a] = some (.int .u64 (a.natAbs : Int)) := e249 ⟨a, ha⟩
  have g2 : callOf B 249 [.int .i64 b] = some (.int .u64 (b.natAbs : Int)) := e249 ⟨b, hb⟩
  have g3 : callOf B 248 [.int .u64 (a.natAbs : Int), .int .u64 (b.natAbs : Int)] = some (.tup [.int .u64 ((a.natAbs * b.natAbs / 18446744073709551616 : Nat) : Int), .int .u64 ((a.natAbs * b.natAbs % 18446744073709551616 : Nat) : Int)]) := e248 ⟨(a.natAbs, b.natAbs), by simp only; omega⟩
  rw [F198_13_eq _ _ _ _ _ c1, g1, optK_some, intK_int, g2, optK_some, intK_int, g3, optK_some, mul_div_zero hab', Nat.mod_eq_of_lt (by omega)]
  have key : F198_107 (callOf B) LL C1 a b ((a.natAbs * b.natAbs : Nat) : Int) true = some (zD (a * b)) := by
    have hM : ((a.natAbs * b.natAbs : Nat) : Int) = ((a * b).natAbs : Int) := by rw [Int.natAbs_mul]
    rw [F198_107_eq _ _ _ _ _ _ _ c1, ifK_true, hM]
    have hab : (a * b).natAbs < 9223372036854775808 := hab
    rw [wrap_in (y := ((a * b).natAbs : Int)) (by omega), wrap_in (y := 0 - ((a * b).natAbs : Int)) (by omega)]
    by_cases h1 : a < 0
    · by_cases h2 : b < 0
      · have hp : 0 ≤ a * b := Int.mul_nonneg_of_nonpos_of_nonpos (by omega) (by omega)
        rw [show (!decide (a < 0) == decide (b < 0)) = false by simp [h1, h2], ifK_false]
        simp only [zD_def]; congr 2; omega
      · have hp : a * b ≤ 0 := Int.mul_nonpos_of_nonpos_of_nonneg (by omega) (by omega)
        rw [show (!decide (a < 0) == decide (b < 0)) = true by simp [h1, h2], ifK_true]
        simp only [zD_def]; congr 2; omega
    · by_cases h2 : b < 0
      · have hp : a * b ≤ 0 := Int.mul_nonpos_of_nonneg_of_nonpos (by omega) (by omega)
        rw [show (!decide (a < 0) == decide (b < 0)) = true by simp [h1, h2], ifK_true]
        simp only [zD_def]; congr 2; omega
      · have hp : 0 ≤ a * b := Int.mul_nonneg (by omega) (by omega)
        rw [show (!decide (a < 0) == decide (b < 0)) = false by simp [h1, h2], ifK_false]
        simp only [zD_def]; congr 2; omega
  rw [tup2u, show ((((0 : Nat) : Int)) == 0) = true from rfl, ifK_true, show decide (((a.natAbs * b.natAbs : Nat) : Int) ≤ 9223372036854775807) = true by simp only [decide_eq_true_eq]; omega]
  exact key
theorem ok199 (a b : Int) : OK2 199 [zD a, zD b] (.int .i64 (sg (a - b))) := by
  refine fnR none_ok Tryz.func199 (ord := O0) (N := N199) (by kernel_rfl) ((F199_eq _ _ _ a b).trans ?_)
  rw [F199_13_eq _ _ _ _ _ c1]
  unfold sg
  by_cases h1 : a < b
  · rw [show decide (a < b) = true by simpa using h1, ifK_true, if_pos (by omega)]
  · rw [show decide (a < b) = false by simpa using h1, ifK_false, if_neg (by omega)]
    by_cases h2 : a > b
    · rw [show decide (a > b) = true by simpa using h2, ifK_true, if_pos (by omega)]
    · rw [show decide (a > b) = false by simpa using h2, ifK_false, if_neg (by omega)]
end Go.Pd
end
section
namespace Go.Pd
open Go Go.Proofs Go.RowKit
set_option maxRecDepth 100000
theorem zzK {α : Type} (a b : Int) (c : Int → Int → Option α) : (tupK (.tup [zD a, zD b]) 2 fun cs => cellK cs 0 fun d => aggK d 2 fun c1 => cellK c1 0 fun d => intK .i64 d fun x => cellK c1 1 fun d' => optK (nilO d') fun _ => cellK cs 1 fun d => aggK d 2 fun c2 => cellK c2 0 fun d => intK .i64 d fun y => cellK c2 1 fun d' => optK (nilO d') fun _ => c x y) = c a b := rfl
theorem ediv_bound {a b : Int} (hb : 0 < b) (h : Rg a) : Rg (a / b) := by
  have h : a.natAbs < 9223372036854775808 := h
  show (a / b).natAbs < 9223372036854775808
  by_cases ha : 0 ≤ a
  · have h1 : 0 ≤ a / b := Int.ediv_nonneg ha (by omega)
    have h2 : a / b ≤ a := Int.ediv_le_self _ ha
    omega
  · have h1 : a / b < 0 := Int.ediv_neg_of_neg_of_pos (by omega) hb
    have h2 : a ≤ a / b := (Int.le_ediv_iff_mul_le hb).2 (by
      have := Int.mul_le_mul_of_nonpos_left (a := a) (b := b) (c := 1) (by omega) (by omega)
      omega)
    omega
theorem ok287 (a b : Int) (ha : Rg a) (hb : 0 < b ∧ Rg b) : OK2 287 [zD a, zD b] (.tup [zD (a / b), zD (a % b)]) := by
  refine fnR none_ok Tryz.func287 (ord := O287) (N := N287) (by kernel_rfl) ((F287_eq _ _ _ a b).trans ?_)
  have ha' : a.natAbs < 9223372036854775808 := ha
  obtain ⟨hb0, hb1⟩ := hb
  have hb1 : b.natAbs < 9223372036854775808 := hb1
  have hq : (a.tdiv b).natAbs < 9223372036854775808 := by rw [Int.natAbs_tdiv]; exact Nat.lt_of_le_of_lt (Nat.div_le_self _ _) ha
  have hdm : b * a.tdiv b + a.tmod b = a := Int.mul_tdiv_add_tmod a b
  have hr1 : a.tmod b < b := Int.tmod_lt_of_pos a hb0
  have hr2 : -b < a.tmod b := by
    have h1 := Int.tmod_lt_of_pos (-a) hb0
    rw [Int.neg_tmod] at h1
    omega
  have hfl := ediv_bound hb0 ha
  have hfl : (a / b).natAbs < 9223372036854775808 := hfl
  rw [show (a != -9223372036854775808) = true by simp; omega, F287_13_eq _ _ _ _ _ _ c1, ifK_true, show (!decide (b = 0)) = true by simp; omega, chkK_true, chkK_true]
  by_cases hn : a.tmod b < 0
  · obtain ⟨e1, e2⟩ := (Int.ediv_emod_unique (a := a) (b := b) (r := a.tmod b + b) (q := a.tdiv b - 1) hb0).2 ⟨by rw [Int.mul_sub]; omega, by omega, by omega⟩
    rw [show decide (a.tmod b < 0) = true by simpa using hn, ifK_true, wrap_in (y := a.tdiv b) (by omega), wrap_in (y := a.tdiv b - 1) (by omega), wrap_in (y := a.tmod b + b) (by omega), e1, e2]
    rfl
  · obtain ⟨e1, e2⟩ := (Int.ediv_emod_unique (a := a) (b := b) (r := a.tmod b) (q := a.tdiv b) hb0).2 ⟨by omega, by omega, by omega⟩
    rw [show decide (a.tmod b < 0) = false by simpa using hn, ifK_false, wrap_in (y := a.tdiv b) (by omega), e1, e2]
    rfl
abbrev Dv (a b : Int) : Prop := Rg a ∧ 0 < b ∧ Rg b
def famDv : Fam := fam2 287 Dv fun a b => .tup [zD (a / b), zD (a % b)]
theorem famDv_good : famDv.Good := fam2_good (fun a b h => ok287 a b h.1 h.2) fun _ _ => rfl
def famSg : Fam := fam1 234 (fun _ => True) fun a => .int .i64 (sg a)
theorem famSg_good : famSg.Good := fam1_good (fun a _ => ok234 a) fun _ => rfl
theorem go236 {B : FuncId → List D → Option D} (h234 : ∀ a, callOf B 234 [zD a] = some (.int .i64 (sg a))) (h287 : ∀ a b, Dv a b → callOf B 287 [zD a, zD b] = some (.tup [zD (a / b), zD (a % b)])) :
    ∀ (fuel a b : Nat), a < 9223372036854775808 → b < 9223372036854775808 → b < fuel → F236_28 (callOf B) LL C1 fuel (a : Int) (b : Int) = some (zD (Nat.gcd a b : Nat)) := by
  intro fuel
  induction fuel with
  | zero => intro a b _ _ h; exact absurd h (Nat.not_lt_zero _)
  | succ fuel ih =>
    intro a b ha hb hf
    rw [F236_28_eq, zD_def, h234, optK_some, intK_int]
    by_cases h0 : b = 0
    · subst h0
      rw [show (sg ((0 : Nat) : Int) != 0) = false from rfl, ifK_false, Nat.gcd_zero_right]
      rfl
    · have hs : (sg (b : Int) != 0) = true := by simp [sg_zero]; omega
      rw [hs, ifK_true, zD_def, h287 _ _ ⟨by show (a : Int).natAbs < _; omega, by omega, by show (b : Int).natAbs < _; omega⟩, optK_some, zzK]
      have hm : a % b < b := Nat.mod_lt _ (by omega)
      rw [show (a : Int) % (b : Int) = ((a % b : Nat) : Int) from rfl, ih b (a % b) hb (by omega) (by omega)]
      rw [Nat.gcd_comm a b, Nat.gcd_rec b a, Nat.gcd_comm]
theorem ok236 (a b : Int) (h : Rg a ∧ b.natAbs < 4611686018427387904) : OK2 236 [zD a, zD b] (zD (Nat.gcd a.natAbs b.natAbs : Nat)) := by
  obtain ⟨B, hB, e234, e286, e287, _⟩ := exF [famSg, fam1 286 Rg fun a => zD (a.natAbs : Int), famDv] ⟨famSg_good, fam1_good ok286 (fun _ => rfl), famDv_good, trivial⟩ rfl
  obtain ⟨ha, hb⟩ := h
  refine fnR hB Tryz.func236 (ord := O236) (N := N236) (by kernel_rfl) ((F236_eq _ _ _ a b).trans ?_)
  have g1 : callOf B 286 [zD a] = some (zD (a.natAbs : Int)) := e286 ⟨a, ha⟩
  have g2 : callOf B 286 [zD b] = some (zD (b.natAbs : Int)) := e286 ⟨b, by show b.natAbs < _; omega⟩
  simp only [zD_def] at *
  rw [g1, optK_some, zK, g2, optK_some, zK]
  exact go236 (fun a => e234 ⟨a, trivial⟩) (fun a b h => e287 ⟨(a, b), h⟩) LL a.natAbs b.natAbs ha (by omega) hb
theorem ok237 (a b : Int) (h : Dv a b) : OK2 237 [zD a, zD b] (zD (a / b)) := by
  obtain ⟨B, hB, e234, e287, _⟩ := exF [famSg, famDv] ⟨famSg_good, famDv_good, trivial⟩ rfl
  refine fnR hB Tryz.func237 (ord := O0) (N := N0) (by kernel_rfl) ((F237_eq _ _ _ a b).trans ?_)
  have g1 : callOf B 234 [zD b] = some (.int .i64 (sg b)) := e234 ⟨b, trivial⟩
  have g2 : callOf B 287 [zD a, zD b] = some (.tup [zD (a / b), zD (a % b)]) := e287 ⟨(a, b), h⟩
  have hs : decide (sg b < 0) = false := by simp [sg_lt]; have := h.2.1; omega
  simp only [zD_def]
  rw [g1, optK_some, intK_int, hs, ifK_false, g2, optK_some, zzK]
/-! ### Fractions -/
def mkP (n d : Int) : Int × Int := (n / (Nat.gcd n.natAbs d.natAbs : Nat), d / (Nat.gcd n.natAbs d.natAbs : Nat))
def mkF (n d : Int) : Int × Int := if d < 0 then mkP (-n) (-d) else mkP n d
theorem gcd_pos' {n d : Int} (h : d ≠ 0) : 0 < ((Nat.gcd n.natAbs d.natAbs : Nat) : Int) := by
  have : 0 < Nat.gcd n.natAbs d.natAbs := Nat.gcd_pos_of_pos_right _ (by omega)
  omega
theorem gcd_le' {n d : Int} (h : d ≠ 0) : Nat.gcd n.natAbs d.natAbs ≤ d.natAbs := Nat.gcd_le_right _ (by omega)
abbrev Mk (n d : Int) : Prop := Rg n ∧ d ≠ 0 ∧ d.natAbs < 4611686018427387904
theorem ok194 (n d : Int) (h : Mk n d) : OK2 194 [zD n, zD d] (fD (mkF n d)) := by
  obtain ⟨B, hB, e234, e235, e236, e237, _⟩ := exF [famSg, fam1 235 Rg fun a => zD (-a), fam2 236 (fun a b => Rg a ∧ b.natAbs < 4611686018427387904) fun a b => zD (Nat.gcd a.natAbs b.natAbs : Nat), fam2 237 Dv fun a b => zD (a / b)]
    ⟨famSg_good, fam1_good ok235 (fun _ => rfl), fam2_good (fun a b h => ok236 a b h) (fun _ _ => rfl), fam2_good (fun a b h => ok237 a b h) (fun _ _ => rfl), trivial⟩ rfl
  obtain ⟨hn, h0, hd⟩ := h
  have hn : n.natAbs < 9223372036854775808 := hn
  refine fnR hB Tryz.func194 (ord := O0) (N := N194) (by kernel_rfl) ((F194_eq _ _ _ n d).trans ?_)
  have key : ∀ n d : Int, n.natAbs < 9223372036854775808 → 0 < d → d.natAbs < 4611686018427387904 → F194_7 (callOf B) LL C1 n d = some (fD (mkP n d)) := fun n d hn h0 hd => by
    have hg := gcd_pos' (n := n) (d := d) (by omega)
    have hl := gcd_le' (n := n) (d := d) (by omega)
    rw [F194_7_eq _ _ _ _ _ c1]
    by_cases h1 : d = 1
    · subst h1
      rw [show ((1 : Int) == 1) = true from rfl, ifK_true]
      unfold mkP
      rw [show Nat.gcd n.natAbs (1 : Int).natAbs = 1 from Nat.gcd_one_right _]
      simp [fD]
    · have g1 : callOf B 236 [zD n, zD d] = some (zD (Nat.gcd n.natAbs d.natAbs : Nat)) := e236 ⟨(n, d), hn, hd⟩
      have hgR : Rg (Nat.gcd n.natAbs d.natAbs : Nat) := by show Int.natAbs _ < _; omega
      have g2 : callOf B 237 [zD n, zD (Nat.gcd n.natAbs d.natAbs : Nat)] = some (zD (n / (Nat.gcd n.natAbs d.natAbs : Nat))) := e237 ⟨(n, _), hn, hg, hgR⟩
      have g3 : callOf B 237 [zD d, zD (Nat.gcd n.natAbs d.natAbs : Nat)] = some (zD (d / (Nat.gcd n.natAbs d.natAbs : Nat))) := e237 ⟨(d, _), by show d.natAbs < _; omega, hg, hgR⟩
      rw [show (d == 1) = false by simpa using h1, ifK_false]
      simp only [zD_def]
      rw [g1, optK_some, zK, g2, optK_some, zK, g3, optK_some, zK]
      rfl
  have g1 : callOf B 234 [zD d] = some (.int .i64 (sg d)) := e234 ⟨d, trivial⟩
  simp only [zD_def]
  rw [g1, optK_some, intK_int]
  unfold mkF
  by_cases hneg : d < 0
  · have g2 : callOf B 235 [zD n] = some (zD (-n)) := e235 ⟨n, hn⟩
    have g3 : callOf B 235 [zD d] = some (zD (-d)) := e235 ⟨d, by show d.natAbs < _; omega⟩
    rw [show decide (sg d < 0) = true by simpa [sg_lt] using hneg, ifK_true, if_pos hneg, g2, optK_some, zK, g3, optK_some, zK]
    exact key (-n) (-d) (by omega) (by omega) (by omega)
  · rw [show decide (sg d < 0) = false by simpa [sg_lt] using hneg, ifK_false, if_neg hneg]
    exact key n d hn (by omega) hd
theorem ok192 (n : Int) : OK2 192 [zD n] (fD (n, 1)) := by
  obtain ⟨B, hB, e193, _⟩ := exF [one 193 [.int .i64 1] (zD 1)] ⟨one_good (ok193 1) rfl, trivial⟩ rfl
  refine fnR hB Tryz.func192 (ord := O0) (N := N0) (by kernel_rfl) ((F192_eq _ _ _ n).trans ?_)
  have g : callOf B 193 [.int .i64 1] = some (zD 1) := e193 ()
  rw [g, optK_some, zK]
  rfl
theorem ok144 (n : Int) : OK2 144 [.int .i64 n] (fD (n, 1)) := by
  obtain ⟨B, hB, e193, e192, _⟩ := exF [one 193 [.int .i64 n] (zD n), one 192 [zD n] (fD (n, 1))] ⟨one_good (ok193 n) rfl, one_good (ok192 n) rfl, trivial⟩ rfl
  refine fnR hB Tryz.func144 (ord := O0) (N := N0) (by kernel_rfl) ((F144_eq _ _ _ n).trans ?_)
  have g1 : callOf B 193 [.int .i64 n] = some (zD n) := e193 ()
  have g2 : callOf B 192 [zD n] = some (fD (n, 1)) := e192 ()
  simp only [zD_def]
  rw [g1, optK_some, zK, g2, optK_some, fK]
  rfl
theorem ok158 (x : Int × Int) : OK2 158 [fD x] (.bool (x.2 == 1)) := fnR none_ok Tryz.func158 (ord := O0) (N := N0) (by kernel_rfl) (F158_eq _ _ _ x.1 x.2)
def Sm (x : Int × Int) : Prop := x.1.natAbs < 2147483648 ∧ 0 < x.2 ∧ x.2 < 2147483648
instance (x : Int × Int) : Decidable (Sm x) := by unfold Sm; infer_instance
def addF (x y : Int × Int) : Int × Int := match (x.2 == 1) && (y.2 == 1) with
  | true => (x.1 + y.1, 1)
  | false => mkF (x.1 * y.2 + y.1 * x.2) (x.2 * y.2)
def negF (x : Int × Int) : Int × Int := (-x.1, x.2)
def subF (x y : Int × Int) : Int × Int := addF x (negF y)
def mulF (x y : Int × Int) : Int × Int := mkF (x.1 * y.1) (x.2 * y.2)
def invF (x : Int × Int) : Int × Int := mkF x.2 x.1
def cmpF (x y : Int × Int) : Int := sg (x.1 * y.2 - y.1 * x.2)
theorem mul_sm {a b : Int} (ha : a.natAbs < 2147483648) (hb : b.natAbs < 2147483648) : (a * b).natAbs < 4611686018427387904 := by
  rw [Int.natAbs_mul]
  have h1 : a.natAbs * b.natAbs ≤ 2147483647 * 2147483647 := Nat.mul_le_mul (by omega) (by omega)
  omega
theorem rg_sm {a : Int} (h : a.natAbs < 4611686018427387904) : Rg a := Nat.lt_trans h (by decide)
def famMul : Fam := fam2 198 (fun a b => a.natAbs < 2147483648 ∧ b.natAbs < 2147483648) fun a b => zD (a * b)
theorem famMul_good : famMul.Good := fam2_good (fun a b h => ok198 a b (by show a.natAbs < _; omega) (by show b.natAbs < _; omega) (rg_sm (mul_sm h.1 h.2))) fun _ _ => rfl
def famMk : Fam := fam2 194 Mk fun n d => fD (mkF n d)
theorem famMk_good : famMk.Good := fam2_good (fun n d h => ok194 n d h) fun _ _ => rfl
theorem ok150 (x y : Int × Int) (h : Sm x ∧ Sm y) : OK2 150 [fD x, fD y] (fD (addF x y)) := by
  obtain ⟨B, hB, e158, e200, e192, e198, e194, _⟩ := exF [famF1 158 (fun _ => True) fun x => .bool (x.2 == 1), fam2 200 (fun a b => Rg a ∧ Rg b ∧ Rg (a + b)) fun a b => zD (a + b), fam1 192 (fun _ => True) fun n => fD (n, 1), famMul, famMk]
    ⟨famF1_good (fun x _ => ok158 x) (fun _ => rfl), fam2_good (fun a b h => ok200 a b h.1 h.2.1 h.2.2) (fun _ _ => rfl), fam1_good (fun a _ => ok192 a) (fun _ => rfl), famMul_good, famMk_good, trivial⟩ rfl
  obtain ⟨⟨a1, a2, a3⟩, b1, b2, b3⟩ := h
  obtain ⟨x1, x2⟩ := x
  obtain ⟨y1, y2⟩ := y
  simp only at a1 a2 a3 b1 b2 b3
  refine fnR hB Tryz.func150 (ord := O0) (N := N0) (by kernel_rfl) ((F150_eq _ _ _ x1 x2 y1 y2).trans ?_)
  have k1 := mul_sm (a := x1) (b := y2) a1 (by omega)
  have k2 := mul_sm (a := y1) (b := x2) b1 (by omega)
  have k3 := mul_sm (a := x2) (b := y2) (by omega) (by omega)
  have k4 : 0 < x2 * y2 := Int.mul_pos a2 b2
  have g1 : callOf B 158 [fD (x1, x2)] = some (.bool (x2 == 1)) := e158 ⟨(x1, x2), trivial⟩
  have g2 : callOf B 158 [fD (y1, y2)] = some (.bool (y2 == 1)) := e158 ⟨(y1, y2), trivial⟩
  have m1 : callOf B 198 [zD x1, zD y2] = some (zD (x1 * y2)) := e198 ⟨(x1, y2), a1, by simp only; omega⟩
  have m2 : callOf B 198 [zD y1, zD x2] = some (zD (y1 * x2)) := e198 ⟨(y1, x2), b1, by simp only; omega⟩
  have m3 : callOf B 198 [zD x2, zD y2] = some (zD (x2 * y2)) := e198 ⟨(x2, y2), by simp only; omega, by simp only; omega⟩
  have m4 : callOf B 200 [zD (x1 * y2), zD (y1 * x2)] = some (zD (x1 * y2 + y1 * x2)) := e200 ⟨(x1 * y2, y1 * x2), by show Int.natAbs _ < _; omega, by show Int.natAbs _ < _; omega, by show Int.natAbs _ < _; omega⟩
  have m5 : callOf B 194 [zD (x1 * y2 + y1 * x2), zD (x2 * y2)] = some (fD (mkF (x1 * y2 + y1 * x2) (x2 * y2))) := e194 ⟨(x1 * y2 + y1 * x2, x2 * y2), by show Int.natAbs _ < _; omega, by simp only; omega, by simp only; omega⟩
  have m6 : callOf B 200 [zD x1, zD y1] = some (zD (x1 + y1)) := e200 ⟨(x1, y1), by show Int.natAbs _ < _; omega, by show Int.natAbs _ < _; omega, by show Int.natAbs _ < _; omega⟩
  have m7 : callOf B 192 [zD (x1 + y1)] = some (fD (x1 + y1, 1)) := e192 ⟨x1 + y1, trivial⟩
  simp only [zD_def, fD_def]
  rw [g1, optK_some, boolK_bool]
  unfold addF
  simp only
  cases hx : x2 == 1
  · rw [ifK_false, m1, optK_some, zK, m2, optK_some, zK, m4, optK_some, zK, m3, optK_some, zK, m5, optK_some, fK]
    rfl
  · rw [ifK_true, g2, optK_some, boolK_bool]
    cases hy : y2 == 1
    · rw [ifK_false, m1, optK_some, zK, m2, optK_some, zK, m4, optK_some, zK, m3, optK_some, zK, m5, optK_some, fK]
      rfl
    · rw [ifK_true, m6, optK_some, zK, m7, optK_some, fK]
      rfl
theorem ok152 (x y : Int × Int) (h : Sm x ∧ Sm y) : OK2 152 [fD x, fD y] (fD (mulF x y)) := by
  obtain ⟨B, hB, e198, e194, _⟩ := exF [famMul, famMk] ⟨famMul_good, famMk_good, trivial⟩ rfl
  obtain ⟨⟨a1, a2, a3⟩, b1, b2, b3⟩ := h
  obtain ⟨x1, x2⟩ := x
  obtain ⟨y1, y2⟩ := y
  simp only at a1 a2 a3 b1 b2 b3
  refine fnR hB Tryz.func152 (ord := O0) (N := N0) (by kernel_rfl) ((F152_eq _ _ _ x1 x2 y1 y2).trans ?_)
  have k1 := mul_sm (a := x1) (b := y1) a1 b1
  have k3 := mul_sm (a := x2) (b := y2) (by omega) (by omega)
  have k4 : 0 < x2 * y2 := Int.mul_pos a2 b2
  have m1 : callOf B 198 [zD x1, zD y1] = some (zD (x1 * y1)) := e198 ⟨(x1, y1), a1, b1⟩
  have m3 : callOf B 198 [zD x2, zD y2] = some (zD (x2 * y2)) := e198 ⟨(x2, y2), by simp only; omega, by simp only; omega⟩
  have m5 : callOf B 194 [zD (x1 * y1), zD (x2 * y2)] = some (fD (mkF (x1 * y1) (x2 * y2))) := e194 ⟨(x1 * y1, x2 * y2), by show Int.natAbs _ < _; omega, by simp only; omega, by simp only; omega⟩
  simp only [zD_def]
  rw [m1, optK_some, zK, m3, optK_some, zK, m5, optK_some, fK]
  rfl
theorem ok147 (x y : Int × Int) (h : Sm x ∧ Sm y) : OK2 147 [fD x, fD y] (.int .i64 (cmpF x y)) := by
  obtain ⟨B, hB, e198, e199, _⟩ := exF [famMul, fam2 199 (fun _ _ => True) fun a b => .int .i64 (sg (a - b))] ⟨famMul_good, fam2_good (fun a b _ => ok199 a b) (fun _ _ => rfl), trivial⟩ rfl
  obtain ⟨⟨a1, a2, a3⟩, b1, b2, b3⟩ := h
  obtain ⟨x1, x2⟩ := x
  obtain ⟨y1, y2⟩ := y
  simp only at a1 a2 a3 b1 b2 b3
  refine fnR hB Tryz.func147 (ord := O0) (N := N0) (by kernel_rfl) ((F147_eq _ _ _ x1 x2 y1 y2).trans ?_)
  have m1 : callOf B 198 [zD x1, zD y2] = some (zD (x1 * y2)) := e198 ⟨(x1, y2), a1, by simp only; omega⟩
  have m2 : callOf B 198 [zD y1, zD x2] = some (zD (y1 * x2)) := e198 ⟨(y1, x2), b1, by simp only; omega⟩
  have m3 : callOf B 199 [zD (x1 * y2), zD (y1 * x2)] = some (.int .i64 (sg (x1 * y2 - y1 * x2))) := e199 ⟨(x1 * y2, y1 * x2), trivial⟩
  simp only [zD_def]
  rw [m1, optK_some, zK, m2, optK_some, zK, m3, optK_some, intK_int, cmpF]
theorem ok149 (x y : Int × Int) (h : Sm x ∧ Sm y) : OK2 149 [fD x, fD y] (.bool (cmpF x y == 0)) := by
  obtain ⟨B, hB, e147, _⟩ := exF [famF2 147 (fun x y => Sm x ∧ Sm y) fun x y => .int .i64 (cmpF x y)] ⟨famF2_good ok147 (fun _ _ => rfl), trivial⟩ rfl
  refine fnR hB Tryz.func149 (ord := O0) (N := N0) (by kernel_rfl) ((F149_eq _ _ _ x.1 x.2 y.1 y.2).trans ?_)
  have g : callOf B 147 [fD x, fD y] = some (.int .i64 (cmpF x y)) := e147 ⟨(x, y), h⟩
  simp only [fD_def]
  rw [g, optK_some, intK_int]
theorem ok295 (x : Int × Int) (h : Rg x.1) : OK2 295 [fD x] (fD (negF x)) := by
  obtain ⟨B, hB, e235, _⟩ := exF [fam1 235 Rg fun a => zD (-a)] ⟨fam1_good ok235 (fun _ => rfl), trivial⟩ rfl
  refine fnR hB Tryz.func295 (ord := O0) (N := N0) (by kernel_rfl) ((F295_eq _ _ _ x.1 x.2).trans ?_)
  have g : callOf B 235 [zD x.1] = some (zD (-x.1)) := e235 ⟨x.1, h⟩
  simp only [zD_def]
  rw [g, optK_some, zK]
  rfl
theorem negF_sm {x : Int × Int} (h : Sm x) : Sm (negF x) := ⟨by show (-x.1).natAbs < _; rw [Int.natAbs_neg]; exact h.1, h.2⟩
theorem ok256 (x y : Int × Int) (h : Sm x ∧ Sm y) : OK2 256 [fD x, fD y] (fD (subF x y)) := by
  obtain ⟨B, hB, e295, e150, _⟩ := exF [famF1 295 Sm fun x => fD (negF x), famF2 150 (fun x y => Sm x ∧ Sm y) fun x y => fD (addF x y)] ⟨famF1_good (fun x h => ok295 x (by show x.1.natAbs < _; have := h.1; omega)) (fun _ => rfl), famF2_good ok150 (fun _ _ => rfl), trivial⟩ rfl
  refine fnR hB Tryz.func256 (ord := O0) (N := N0) (by kernel_rfl) ((F256_eq _ _ _ x.1 x.2 y.1 y.2).trans ?_)
  have g1 : callOf B 295 [fD y] = some (fD (negF y)) := e295 ⟨y, h.2⟩
  have g2 : callOf B 150 [fD x, fD (negF y)] = some (fD (addF x (negF y))) := e150 ⟨(x, negF y), h.1, negF_sm h.2⟩
  simp only [fD_def]
  rw [g1, optK_some, fK, g2, optK_some, fK]
  rfl
theorem ok201 (x : Int × Int) (h : Sm x ∧ x.1 ≠ 0) : OK2 201 [fD x] (fD (invF x)) := by
  obtain ⟨B, hB, e194, _⟩ := exF [famMk] ⟨famMk_good, trivial⟩ rfl
  refine fnR hB Tryz.func201 (ord := O0) (N := N0) (by kernel_rfl) ((F201_eq _ _ _ x.1 x.2).trans ?_)
  obtain ⟨⟨a1, a2, a3⟩, a4⟩ := h
  have g : callOf B 194 [zD x.2, zD x.1] = some (fD (mkF x.2 x.1)) := e194 ⟨(x.2, x.1), by show x.2.natAbs < _; omega, a4, by simp only; omega⟩
  simp only [zD_def]
  rw [g, optK_some, fK]
  rfl
theorem ok151 (x y : Int × Int) (h : Sm x ∧ (Sm y ∧ y.1 ≠ 0) ∧ Sm (invF y)) : OK2 151 [fD x, fD y] (fD (mulF x (invF y))) := by
  obtain ⟨B, hB, e201, e152, _⟩ := exF [famF1 201 (fun x => Sm x ∧ x.1 ≠ 0) fun x => fD (invF x), famF2 152 (fun x y => Sm x ∧ Sm y) fun x y => fD (mulF x y)] ⟨famF1_good ok201 (fun _ => rfl), famF2_good ok152 (fun _ _ => rfl), trivial⟩ rfl
  refine fnR hB Tryz.func151 (ord := O0) (N := N0) (by kernel_rfl) ((F151_eq _ _ _ x.1 x.2 y.1 y.2).trans ?_)
  have g1 : callOf B 201 [fD y] = some (fD (invF y)) := e201 ⟨y, h.2.1⟩
  have g2 : callOf B 152 [fD x, fD (invF y)] = some (fD (mulF x (invF y))) := e152 ⟨(x, invF y), h.1, h.2.2⟩
  simp only [fD_def]
  rw [g1, optK_some, fK, g2, optK_some, fK]
theorem ok257 (x : Int × Int) : OK2 257 [fD x] (.int .i64 (sg x.1)) := by
  obtain ⟨B, hB, e234, _⟩ := exF [famSg] ⟨famSg_good, trivial⟩ rfl
  refine fnR hB Tryz.func257 (ord := O0) (N := N0) (by kernel_rfl) ((F257_eq _ _ _ x.1 x.2).trans ?_)
  have g : callOf B 234 [zD x.1] = some (.int .i64 (sg x.1)) := e234 ⟨x.1, trivial⟩
  simp only [zD_def]
  rw [g, optK_some, intK_int]
end Go.Pd
end
