/-
  Chapter 2: holes that are moved, as equations.
  Chapter 2: holes that are moved, by the program and by the reference.
  Chapter 2: moved, turned and mirrored holes, and whether holes are the same, as equations.
  Chapter 2: Moved, Turned, Mirrored, Inside, Same.
  Chapter 2: the law of moves, as equations.
  CourseMoves: Moved, Turned and Mirrored return the holes or the errors of the reference.
-/
import Derived.Test.YtmhbhlbnlmbhlaaGreatDoorCrA
import Derived.KernelRfl
import Derived.Test.YtmhbhlbnlmbhlaaGreatDoorCrK
import Derived.Test.YtmhbhlbnlmbhlaaGreatDoorCrN
import Derived.Test.YtmhbhlbnlmbhlaaGreatDoorCrI
section
namespace Go.Pd
open Go Go.Proofs
set_option maxRecDepth 100000
theorem F116_eq (call : CL) (L : Nat) (C : Nat → Nat) (z J h t11 : Int) : evFnT (TEf call L C) O0 N0 FinM.canon Tryz.f116 [D.agg [D.int .i64 z, D.int .i64 J], D.snap [D.int .i64 h, D.int .i64 t11] 0] =
 (some (D.agg [D.int .i64 (IntKind.wrap .i64 (z + h)), D.int .i64 (IntKind.wrap .i64 (J + t11))])) := by kernel_rfl
def N118 : NTab := fun p => match p with
  | 26 => some { keep := [2, 3, 4, 5], kl := [], ren := [(2, 2), (3, 3)] }
  | _ => none
noncomputable def F118_26 (call : CL) (L : Nat) (C : Nat → Nat) (n : Nat) (h z K M : Int) : Option D :=
 loopAt (TEf call L C) O0 N118 FinM.canon Tryz.f118 [true, false, true, false] []  n (St.mk (J :: J :: D.loc 2 0 0 :: D.loc 3 0 0 :: D.int .i64 h :: D.int .i64 z :: jn 9 []) (Z :: Z :: (1, some (Ob.box [D.int .i64 K, D.int .i64 M] false)) :: (1, some (Ob.box [D.int .i64 0, D.int .i64 0] false)) :: zn 11 []))
theorem F118_26_eq (call : CL) (L : Nat) (C : Nat → Nat) (n : Nat) (h z J K : Int) : F118_26 call L C  (n + 1) h z J K =
 (ifK (decide (z < h))
 (F118_26 call L C n h (IntKind.wrap .i64 (z + 1)) (IntKind.wrap .i64 (0 - K)) J)
 (some (D.agg [D.int .i64 J, D.int .i64 K]))) := by kernel_rfl
theorem F118_eq (call : CL) (L : Nat) (C : Nat → Nat) (z J h : Int) : evFnT (TEf call L C) O0 N118 FinM.canon Tryz.f118 [D.agg [D.int .i64 z, D.int .i64 J], D.snap [D.int .i64 h] 0] =
 (F118_26 call L C L h 0 z J) := by kernel_rfl
theorem F119_eq (call : CL) (L : Nat) (C : Nat → Nat) (h z : Int) : evFnT (TEf call L C) O0 N0 FinM.canon Tryz.f119 [D.agg [D.int .i64 h, D.int .i64 z]] =
 (some (D.agg [D.int .i64 (IntKind.wrap .i64 (0 - h)), D.int .i64 z])) := by kernel_rfl
def N178 : NTab := fun p => match p with
  | 58 => some { keep := [2, 5, 8, 9, 10], kl := [7], ren := [(2, 2), (7, 7), (20, 20)] }
  | _ => none
noncomputable def F178a_58 (call : CL) (L : Nat) (C : Nat → Nat) (n : Nat) (O : Bool) (S : Nat) (M : List D) (U V : Int) (h : Ow) (K z : Int) : Option D :=
 loopAt (TEf call L C) O0 N178 FinM.canon Tryz.f178 [true, true, false, true, false] []  n (St.mk (J :: J :: D.loc 2 0 0 :: J :: J :: ownD 20 h :: J :: J :: D.slc O S M :: D.int .i64 K :: D.int .i64 z :: jn 12 []) (Z :: Z :: (1, some (Ob.box [D.fn (Fn.func 116) [] [D.snap [D.int .i64 U, D.int .i64 V] 0]] false)) :: zn 17 [ownO 23 2 h, Z, Z]))
theorem F178a_58_eqn (call : CL) (L : Nat) (C : Nat → Nat) (n : Nat) (S : Bool) (K : Nat) (z : List D) (M O J h : Int) : F178a_58 call L C  (n + 1) S K z M O (Ow.nil) J h =
 (ifK (decide (h < J))
 (chkK (decide (0 ≤ h ∧ h < (K : Int)))
 (cellK z (Int.toNat h * 2 + 0) fun d =>
 (intK .i64 d fun x =>
 (cellK z (Int.toNat h * 2 + 1) fun U =>
 (intK .i64 U fun X =>
 (optK (call 116 [D.agg [D.int .i64 x, D.int .i64 X], D.snap [D.int .i64 M, D.int .i64 O] 0]) fun r =>
 (aggK r 2 fun c =>
 (cellK c 0 fun V =>
 (intK .i64 V fun Y =>
 (cellK c 1 fun W =>
 (intK .i64 W fun Z =>
 (F178a_58 call L C n S K z M O (Ow.own 1 [D.int .i64 Y, D.int .i64 Z]) J (IntKind.wrap .i64 (h + 1))))))))))))))
 (some (D.slc true 0 []))) := by kernel_rfl
theorem F178a_58_eqo (call : CL) (L : Nat) (C : Nat → Nat) (n : Nat) (W : Bool) (O : Nat) (J : List D) (S U : Int) (z : Nat) (M : List D) (K h : Int) : F178a_58 call L C  (n + 1) W O J S U (Ow.own z M) K h =
 (ifK (decide (h < K))
 (chkK (decide (0 ≤ h ∧ h < (O : Int)))
 (cellK J (Int.toNat h * 2 + 0) fun X =>
 (intK .i64 X fun a2 =>
 (cellK J (Int.toNat h * 2 + 1) fun Y =>
 (intK .i64 Y fun a3 =>
 (optK (call 116 [D.agg [D.int .i64 a2, D.int .i64 a3], D.snap [D.int .i64 S, D.int .i64 U] 0]) fun a1 =>
 (aggK a1 2 fun V =>
 (cellK V 0 fun Z =>
 (intK .i64 Z fun a4 =>
 (cellK V 1 fun a0 =>
 (intK .i64 a0 fun a5 =>
 (chkK (decide ((z + 1) * 16 ≤ limit ∧ z + 1 ≤ 9223372036854775807))
 (F178a_58 call L C n W O J S U (Ow.own (z + 1) (M ++ [D.int .i64 a4, D.int .i64 a5])) K (IntKind.wrap .i64 (h + 1)))))))))))))))
 (some (D.slc false z M))) := by kernel_rfl
theorem F178a_eq (call : CL) (L : Nat) (C : Nat → Nat) (K M : Int) (J : Bool) (h : Nat) (z : List D) : evFnT (TEf call L C) O0 N178 FinM.canon Tryz.f178 [D.agg [D.fn (Fn.func 116) [] [D.snap [D.int .i64 K, D.int .i64 M] 0]], D.slc J h z] =
 (F178a_58 call L C L J h z K M (Ow.nil) ((h : Int)) 0) := by kernel_rfl
noncomputable def F178b_58 (call : CL) (L : Nat) (C : Nat → Nat) (n : Nat) (O : Bool) (S : Nat) (M : List D) (U : Int) (h : Ow) (K z : Int) : Option D :=
 loopAt (TEf call L C) O0 N178 FinM.canon Tryz.f178 [true, true, false, true, false] []  n (St.mk (J :: J :: D.loc 2 0 0 :: J :: J :: ownD 20 h :: J :: J :: D.slc O S M :: D.int .i64 K :: D.int .i64 z :: jn 12 []) (Z :: Z :: (1, some (Ob.box [D.fn (Fn.func 118) [] [D.snap [D.int .i64 U] 0]] false)) :: zn 17 [ownO 23 2 h, Z, Z]))
theorem F178b_58_eqn (call : CL) (L : Nat) (C : Nat → Nat) (n : Nat) (O : Bool) (K : Nat) (z : List D) (M J h : Int) : F178b_58 call L C  (n + 1) O K z M (Ow.nil) J h =
 (ifK (decide (h < J))
 (chkK (decide (0 ≤ h ∧ h < (K : Int)))
 (cellK z (Int.toNat h * 2 + 0) fun d =>
 (intK .i64 d fun x =>
 (cellK z (Int.toNat h * 2 + 1) fun S =>
 (intK .i64 S fun W =>
 (optK (call 118 [D.agg [D.int .i64 x, D.int .i64 W], D.snap [D.int .i64 M] 0]) fun r =>
 (aggK r 2 fun c =>
 (cellK c 0 fun U =>
 (intK .i64 U fun X =>
 (cellK c 1 fun V =>
 (intK .i64 V fun Y =>
 (F178b_58 call L C n O K z M (Ow.own 1 [D.int .i64 X, D.int .i64 Y]) J (IntKind.wrap .i64 (h + 1))))))))))))))
 (some (D.slc true 0 []))) := by kernel_rfl
theorem F178b_58_eqo (call : CL) (L : Nat) (C : Nat → Nat) (n : Nat) (V : Bool) (O : Nat) (J : List D) (S : Int) (z : Nat) (M : List D) (K h : Int) : F178b_58 call L C  (n + 1) V O J S (Ow.own z M) K h =
 (ifK (decide (h < K))
 (chkK (decide (0 ≤ h ∧ h < (O : Int)))
 (cellK J (Int.toNat h * 2 + 0) fun W =>
 (intK .i64 W fun a1 =>
 (cellK J (Int.toNat h * 2 + 1) fun X =>
 (intK .i64 X fun a2 =>
 (optK (call 118 [D.agg [D.int .i64 a1, D.int .i64 a2], D.snap [D.int .i64 S] 0]) fun a0 =>
 (aggK a0 2 fun U =>
 (cellK U 0 fun Y =>
 (intK .i64 Y fun a3 =>
 (cellK U 1 fun Z =>
 (intK .i64 Z fun a4 =>
 (chkK (decide ((z + 1) * 16 ≤ limit ∧ z + 1 ≤ 9223372036854775807))
 (F178b_58 call L C n V O J S (Ow.own (z + 1) (M ++ [D.int .i64 a3, D.int .i64 a4])) K (IntKind.wrap .i64 (h + 1)))))))))))))))
 (some (D.slc false z M))) := by kernel_rfl
theorem F178b_eq (call : CL) (L : Nat) (C : Nat → Nat) (K : Int) (J : Bool) (h : Nat) (z : List D) : evFnT (TEf call L C) O0 N178 FinM.canon Tryz.f178 [D.agg [D.fn (Fn.func 118) [] [D.snap [D.int .i64 K] 0]], D.slc J h z] =
 (F178b_58 call L C L J h z K (Ow.nil) ((h : Int)) 0) := by kernel_rfl
noncomputable def F178c_58 (call : CL) (L : Nat) (C : Nat → Nat) (n : Nat) (O : Bool) (S : Nat) (M : List D) (h : Ow) (K z : Int) : Option D :=
 loopAt (TEf call L C) O0 N178 FinM.canon Tryz.f178 [true, true, false, true, false] []  n (St.mk (J :: J :: D.loc 2 0 0 :: J :: J :: ownD 20 h :: J :: J :: D.slc O S M :: D.int .i64 K :: D.int .i64 z :: jn 12 []) (Z :: Z :: (1, some (Ob.box [D.fn (Fn.func 119) [] []] false)) :: zn 17 [ownO 23 2 h, Z, Z]))
theorem F178c_58_eqn (call : CL) (L : Nat) (C : Nat → Nat) (n : Nat) (M : Bool) (K : Nat) (z : List D) (J h : Int) : F178c_58 call L C  (n + 1) M K z (Ow.nil) J h =
 (ifK (decide (h < J))
 (chkK (decide (0 ≤ h ∧ h < (K : Int)))
 (cellK z (Int.toNat h * 2 + 0) fun d =>
 (intK .i64 d fun x =>
 (cellK z (Int.toNat h * 2 + 1) fun O =>
 (intK .i64 O fun V =>
 (optK (call 119 [D.agg [D.int .i64 x, D.int .i64 V]]) fun r =>
 (aggK r 2 fun c =>
 (cellK c 0 fun S =>
 (intK .i64 S fun W =>
 (cellK c 1 fun U =>
 (intK .i64 U fun X =>
 (F178c_58 call L C n M K z (Ow.own 1 [D.int .i64 W, D.int .i64 X]) J (IntKind.wrap .i64 (h + 1))))))))))))))
 (some (D.slc true 0 []))) := by kernel_rfl
theorem F178c_58_eqo (call : CL) (L : Nat) (C : Nat → Nat) (n : Nat) (U : Bool) (O : Nat) (J : List D) (z : Nat) (M : List D) (K h : Int) : F178c_58 call L C  (n + 1) U O J (Ow.own z M) K h =
 (ifK (decide (h < K))
 (chkK (decide (0 ≤ h ∧ h < (O : Int)))
 (cellK J (Int.toNat h * 2 + 0) fun V =>
 (intK .i64 V fun a0 =>
 (cellK J (Int.toNat h * 2 + 1) fun W =>
 (intK .i64 W fun a1 =>
 (optK (call 119 [D.agg [D.int .i64 a0, D.int .i64 a1]]) fun Z =>
 (aggK Z 2 fun S =>
 (cellK S 0 fun X =>
 (intK .i64 X fun a2 =>
 (cellK S 1 fun Y =>
 (intK .i64 Y fun a3 =>
 (chkK (decide ((z + 1) * 16 ≤ limit ∧ z + 1 ≤ 9223372036854775807))
 (F178c_58 call L C n U O J (Ow.own (z + 1) (M ++ [D.int .i64 a2, D.int .i64 a3])) K (IntKind.wrap .i64 (h + 1)))))))))))))))
 (some (D.slc false z M))) := by kernel_rfl
theorem F178c_eq (call : CL) (L : Nat) (C : Nat → Nat) (J : Bool) (h : Nat) (z : List D) : evFnT (TEf call L C) O0 N178 FinM.canon Tryz.f178 [D.agg [D.fn (Fn.func 119) [] []], D.slc J h z] =
 (F178c_58 call L C L J h z (Ow.nil) ((h : Int)) 0) := by kernel_rfl
def N117 : NTab := fun p => match p with
  | 58 => some { keep := [2, 4, 5, 26, 27, 28], kl := [3, 7], ren := [(2, 2), (3, 3), (4, 4), (5, 5), (7, 7), (42, 42)] }
  | _ => none
def O117 : Ord := fun id => match id with
  | 1 => some { l := some [0, 1, 2, 3, 4, 5, 6, 7, 8, 9, 10, 11, 12, 13, 14, 15, 16, 17, 18], ks := [5] }
  | _ => none
noncomputable def F117a_58 (call : CL) (L : Nat) (C : Nat → Nat) (z : Nat) (U : Bool) (V : Nat) (S : List D) (W X : Int) (O : ByteArray) (K M Y a0 a1 a2 : Int) (a4 : Bool) (a5 : Nat) (a3 : List D) (h : Ow) : Option D :=
 loopAt (TEf call L C) O117 N117 FinM.canon Tryz.f117 [true, true, false, true, false] []  z (St.mk (J :: J :: D.loc 2 0 0 :: J :: D.loc 4 0 0 :: D.loc 5 0 0 :: jn 20 (D.slc U V S :: D.int .i64 K :: D.int .i64 M :: jn 17 [])) (Z :: Z :: (1, some (Ob.box [D.fn (Fn.func 116) [] [D.snap [D.int .i64 W, D.int .i64 X] 0]] false)) :: Z :: (1, some (Ob.box [D.str (ByteArray.mk #[]), D.int .i64 0, D.int .i64 0, D.int .i64 0, D.int .i64 0, D.nils, D.nils] false)) :: (1, some (Ob.box [D.str O, D.int .i64 Y, D.int .i64 a0, D.int .i64 a1, D.int .i64 a2, D.slc a4 a5 a3, ownD 42 h] false)) :: zn 36 [ownO 84 2 h, Z, Z, Z]))
theorem F117a_58_eqn (call : CL) (L : Nat) (C : Nat → Nat) (a1 : Nat) (a2 : Bool) (M : Nat) (z : List D) (O S : Int) (K : ByteArray) (J h U V W X : Int) (Z : Bool) (a0 : Nat) (Y : List D) : F117a_58 call L C  (a1 + 1) a2 M z O S K J h U V W X Z a0 Y (Ow.nil) =
 (ifK (decide (h < J))
 (chkK (decide (0 ≤ h ∧ h < (M : Int)))
 (cellK z (Int.toNat h * 2 + 0) fun a5 =>
 (strK a5 fun s =>
 (cellK z (Int.toNat h * 2 + 1) fun a6 =>
 (slcK a6 fun a7 a9 a3 =>
 (optK (call 178 [D.agg [D.fn (Fn.func 116) [] [D.snap [D.int .i64 O, D.int .i64 S] 0]], D.slc a7 a9 a3]) fun ab =>
 (slcK ab fun a8 aa a4 =>
 (F117a_58 call L C a1 a2 M z O S K J (IntKind.wrap .i64 (h + 1)) U V W X Z a0 Y (Ow.own 1 [D.str s, D.slc a8 aa a4])))))))))
 (some (D.agg [D.str K, D.int .i64 U, D.int .i64 V, D.int .i64 W, D.int .i64 X, D.slc Z a0 Y, D.slc true 0 []]))) := by kernel_rfl
theorem F117a_58_eqo (call : CL) (L : Nat) (C : Nat → Nat) (a3 : Nat) (a4 : Bool) (O : Nat) (J : List D) (S U : Int) (M : ByteArray) (K h V W X Y : Int) (a0 : Bool) (a1 : Nat) (Z : List D) (z : Nat) (a2 : List D) : F117a_58 call L C  (a3 + 1) a4 O J S U M K h V W X Y a0 a1 Z (Ow.own z a2) =
 (ifK (decide (h < K))
 (chkK (decide (0 ≤ h ∧ h < (O : Int)))
 (cellK J (Int.toNat h * 2 + 0) fun a7 =>
 (strK a7 fun ae =>
 (cellK J (Int.toNat h * 2 + 1) fun a8 =>
 (slcK a8 fun a9 ab a5 =>
 (optK (call 178 [D.agg [D.fn (Fn.func 116) [] [D.snap [D.int .i64 S, D.int .i64 U] 0]], D.slc a9 ab a5]) fun ad =>
 (slcK ad fun aa ac a6 =>
 (chkK (decide ((z + 1) * 40 ≤ limit ∧ z + 1 ≤ 9223372036854775807))
 (F117a_58 call L C a3 a4 O J S U M K (IntKind.wrap .i64 (h + 1)) V W X Y a0 a1 Z (Ow.own (z + 1) (a2 ++ [D.str ae, D.slc aa ac a6])))))))))))
 (some (D.agg [D.str M, D.int .i64 V, D.int .i64 W, D.int .i64 X, D.int .i64 Y, D.slc a0 a1 Z, D.slc false z a2]))) := by kernel_rfl
theorem F117a_eq (call : CL) (L : Nat) (C : Nat → Nat) (h z : Int) (M : ByteArray) (O S U V : Int) (X : Bool) (Y : Nat) (W : List D) (a0 : Bool) (J : Nat) (Z : List D) : evFnT (TEf call L C) O117 N117 FinM.canon Tryz.f117 [D.agg [D.fn (Fn.func 116) [] [D.snap [D.int .i64 h, D.int .i64 z] 0]], D.agg [D.str M, D.int .i64 O, D.int .i64 S, D.int .i64 U, D.int .i64 V, D.slc X Y W, D.slc a0 J Z]] =
 (optK (call 116 [D.agg [D.int .i64 O, D.int .i64 S], D.snap [D.int .i64 h, D.int .i64 z] 0]) fun r =>
 (aggK r 2 fun c =>
 (cellK c 0 fun d =>
 (intK .i64 d fun x =>
 (cellK c 1 fun a2 =>
 (intK .i64 a2 fun a7 =>
 (optK (call 116 [D.agg [D.int .i64 U, D.int .i64 V], D.snap [D.int .i64 h, D.int .i64 z] 0]) fun a5 =>
 (aggK a5 2 fun K =>
 (cellK K 0 fun a3 =>
 (intK .i64 a3 fun a8 =>
 (cellK K 1 fun a4 =>
 (intK .i64 a4 fun a9 =>
 (optK (call 178 [D.agg [D.fn (Fn.func 116) [] [D.snap [D.int .i64 h, D.int .i64 z] 0]], D.slc X Y W]) fun a6 =>
 (slcK a6 fun f n a1 =>
 (F117a_58 call L C L a0 J Z h z M ((J : Int)) 0 x a7 a8 a9 f n a1 (Ow.nil)))))))))))))))) := by kernel_rfl
noncomputable def F117b_58 (call : CL) (L : Nat) (C : Nat → Nat) (z : Nat) (U : Bool) (V : Nat) (S : List D) (W : Int) (O : ByteArray) (K M X Y a0 a1 : Int) (a3 : Bool) (a4 : Nat) (a2 : List D) (h : Ow) : Option D :=
 loopAt (TEf call L C) O117 N117 FinM.canon Tryz.f117 [true, true, false, true, false] []  z (St.mk (J :: J :: D.loc 2 0 0 :: J :: D.loc 4 0 0 :: D.loc 5 0 0 :: jn 20 (D.slc U V S :: D.int .i64 K :: D.int .i64 M :: jn 17 [])) (Z :: Z :: (1, some (Ob.box [D.fn (Fn.func 118) [] [D.snap [D.int .i64 W] 0]] false)) :: Z :: (1, some (Ob.box [D.str (ByteArray.mk #[]), D.int .i64 0, D.int .i64 0, D.int .i64 0, D.int .i64 0, D.nils, D.nils] false)) :: (1, some (Ob.box [D.str O, D.int .i64 X, D.int .i64 Y, D.int .i64 a0, D.int .i64 a1, D.slc a3 a4 a2, ownD 42 h] false)) :: zn 36 [ownO 84 2 h, Z, Z, Z]))
theorem F117b_58_eqn (call : CL) (L : Nat) (C : Nat → Nat) (a0 : Nat) (a1 : Bool) (M : Nat) (z : List D) (O : Int) (K : ByteArray) (J h S U V W : Int) (Y : Bool) (Z : Nat) (X : List D) : F117b_58 call L C  (a0 + 1) a1 M z O K J h S U V W Y Z X (Ow.nil) =
 (ifK (decide (h < J))
 (chkK (decide (0 ≤ h ∧ h < (M : Int)))
 (cellK z (Int.toNat h * 2 + 0) fun a4 =>
 (strK a4 fun s =>
 (cellK z (Int.toNat h * 2 + 1) fun a5 =>
 (slcK a5 fun a6 a8 a2 =>
 (optK (call 178 [D.agg [D.fn (Fn.func 118) [] [D.snap [D.int .i64 O] 0]], D.slc a6 a8 a2]) fun aa =>
 (slcK aa fun a7 a9 a3 =>
 (F117b_58 call L C a0 a1 M z O K J (IntKind.wrap .i64 (h + 1)) S U V W Y Z X (Ow.own 1 [D.str s, D.slc a7 a9 a3])))))))))
 (some (D.agg [D.str K, D.int .i64 S, D.int .i64 U, D.int .i64 V, D.int .i64 W, D.slc Y Z X, D.slc true 0 []]))) := by kernel_rfl
theorem F117b_58_eqo (call : CL) (L : Nat) (C : Nat → Nat) (a2 : Nat) (a3 : Bool) (O : Nat) (J : List D) (S : Int) (M : ByteArray) (K h U V W X : Int) (Z : Bool) (a0 : Nat) (Y : List D) (z : Nat) (a1 : List D) : F117b_58 call L C  (a2 + 1) a3 O J S M K h U V W X Z a0 Y (Ow.own z a1) =
 (ifK (decide (h < K))
 (chkK (decide (0 ≤ h ∧ h < (O : Int)))
 (cellK J (Int.toNat h * 2 + 0) fun a6 =>
 (strK a6 fun ad =>
 (cellK J (Int.toNat h * 2 + 1) fun a7 =>
 (slcK a7 fun a8 aa a4 =>
 (optK (call 178 [D.agg [D.fn (Fn.func 118) [] [D.snap [D.int .i64 S] 0]], D.slc a8 aa a4]) fun ac =>
 (slcK ac fun a9 ab a5 =>
 (chkK (decide ((z + 1) * 40 ≤ limit ∧ z + 1 ≤ 9223372036854775807))
 (F117b_58 call L C a2 a3 O J S M K (IntKind.wrap .i64 (h + 1)) U V W X Z a0 Y (Ow.own (z + 1) (a1 ++ [D.str ad, D.slc a9 ab a5])))))))))))
 (some (D.agg [D.str M, D.int .i64 U, D.int .i64 V, D.int .i64 W, D.int .i64 X, D.slc Z a0 Y, D.slc false z a1]))) := by kernel_rfl
theorem F117b_eq (call : CL) (L : Nat) (C : Nat → Nat) (h : Int) (K : ByteArray) (M O S U : Int) (W : Bool) (X : Nat) (V : List D) (Z : Bool) (z : Nat) (Y : List D) : evFnT (TEf call L C) O117 N117 FinM.canon Tryz.f117 [D.agg [D.fn (Fn.func 118) [] [D.snap [D.int .i64 h] 0]], D.agg [D.str K, D.int .i64 M, D.int .i64 O, D.int .i64 S, D.int .i64 U, D.slc W X V, D.slc Z z Y]] =
 (optK (call 118 [D.agg [D.int .i64 M, D.int .i64 O], D.snap [D.int .i64 h] 0]) fun r =>
 (aggK r 2 fun c =>
 (cellK c 0 fun d =>
 (intK .i64 d fun x =>
 (cellK c 1 fun a1 =>
 (intK .i64 a1 fun a6 =>
 (optK (call 118 [D.agg [D.int .i64 S, D.int .i64 U], D.snap [D.int .i64 h] 0]) fun a4 =>
 (aggK a4 2 fun J =>
 (cellK J 0 fun a2 =>
 (intK .i64 a2 fun a7 =>
 (cellK J 1 fun a3 =>
 (intK .i64 a3 fun a8 =>
 (optK (call 178 [D.agg [D.fn (Fn.func 118) [] [D.snap [D.int .i64 h] 0]], D.slc W X V]) fun a5 =>
 (slcK a5 fun f n a0 =>
 (F117b_58 call L C L Z z Y h K ((z : Int)) 0 x a6 a7 a8 f n a0 (Ow.nil)))))))))))))))) := by kernel_rfl
noncomputable def F117c_58 (call : CL) (L : Nat) (C : Nat → Nat) (z : Nat) (U : Bool) (V : Nat) (S : List D) (O : ByteArray) (K M W X Y a0 : Int) (a2 : Bool) (a3 : Nat) (a1 : List D) (h : Ow) : Option D :=
 loopAt (TEf call L C) O117 N117 FinM.canon Tryz.f117 [true, true, false, true, false] []  z (St.mk (J :: J :: D.loc 2 0 0 :: J :: D.loc 4 0 0 :: D.loc 5 0 0 :: jn 20 (D.slc U V S :: D.int .i64 K :: D.int .i64 M :: jn 17 [])) (Z :: Z :: (1, some (Ob.box [D.fn (Fn.func 119) [] []] false)) :: Z :: (1, some (Ob.box [D.str (ByteArray.mk #[]), D.int .i64 0, D.int .i64 0, D.int .i64 0, D.int .i64 0, D.nils, D.nils] false)) :: (1, some (Ob.box [D.str O, D.int .i64 W, D.int .i64 X, D.int .i64 Y, D.int .i64 a0, D.slc a2 a3 a1, ownD 42 h] false)) :: zn 36 [ownO 84 2 h, Z, Z, Z]))
theorem F117c_58_eqn (call : CL) (L : Nat) (C : Nat → Nat) (Z : Nat) (a0 : Bool) (M : Nat) (z : List D) (K : ByteArray) (J h O S U V : Int) (X : Bool) (Y : Nat) (W : List D) : F117c_58 call L C  (Z + 1) a0 M z K J h O S U V X Y W (Ow.nil) =
 (ifK (decide (h < J))
 (chkK (decide (0 ≤ h ∧ h < (M : Int)))
 (cellK z (Int.toNat h * 2 + 0) fun a3 =>
 (strK a3 fun s =>
 (cellK z (Int.toNat h * 2 + 1) fun a4 =>
 (slcK a4 fun a5 a7 a1 =>
 (optK (call 178 [D.agg [D.fn (Fn.func 119) [] []], D.slc a5 a7 a1]) fun a9 =>
 (slcK a9 fun a6 a8 a2 =>
 (F117c_58 call L C Z a0 M z K J (IntKind.wrap .i64 (h + 1)) O S U V X Y W (Ow.own 1 [D.str s, D.slc a6 a8 a2])))))))))
 (some (D.agg [D.str K, D.int .i64 O, D.int .i64 S, D.int .i64 U, D.int .i64 V, D.slc X Y W, D.slc true 0 []]))) := by kernel_rfl
theorem F117c_58_eqo (call : CL) (L : Nat) (C : Nat → Nat) (a1 : Nat) (a2 : Bool) (O : Nat) (J : List D) (M : ByteArray) (K h S U V W : Int) (Y : Bool) (Z : Nat) (X : List D) (z : Nat) (a0 : List D) : F117c_58 call L C  (a1 + 1) a2 O J M K h S U V W Y Z X (Ow.own z a0) =
 (ifK (decide (h < K))
 (chkK (decide (0 ≤ h ∧ h < (O : Int)))
 (cellK J (Int.toNat h * 2 + 0) fun a5 =>
 (strK a5 fun ac =>
 (cellK J (Int.toNat h * 2 + 1) fun a6 =>
 (slcK a6 fun a7 a9 a3 =>
 (optK (call 178 [D.agg [D.fn (Fn.func 119) [] []], D.slc a7 a9 a3]) fun ab =>
 (slcK ab fun a8 aa a4 =>
 (chkK (decide ((z + 1) * 40 ≤ limit ∧ z + 1 ≤ 9223372036854775807))
 (F117c_58 call L C a1 a2 O J M K (IntKind.wrap .i64 (h + 1)) S U V W Y Z X (Ow.own (z + 1) (a0 ++ [D.str ac, D.slc a8 aa a4])))))))))))
 (some (D.agg [D.str M, D.int .i64 S, D.int .i64 U, D.int .i64 V, D.int .i64 W, D.slc Y Z X, D.slc false z a0]))) := by kernel_rfl
theorem F117c_eq (call : CL) (L : Nat) (C : Nat → Nat) (J : ByteArray) (K M O S : Int) (V : Bool) (W : Nat) (U : List D) (Y : Bool) (h : Nat) (X : List D) : evFnT (TEf call L C) O117 N117 FinM.canon Tryz.f117 [D.agg [D.fn (Fn.func 119) [] []], D.agg [D.str J, D.int .i64 K, D.int .i64 M, D.int .i64 O, D.int .i64 S, D.slc V W U, D.slc Y h X]] =
 (optK (call 119 [D.agg [D.int .i64 K, D.int .i64 M]]) fun r =>
 (aggK r 2 fun c =>
 (cellK c 0 fun d =>
 (intK .i64 d fun x =>
 (cellK c 1 fun a0 =>
 (intK .i64 a0 fun a5 =>
 (optK (call 119 [D.agg [D.int .i64 O, D.int .i64 S]]) fun a3 =>
 (aggK a3 2 fun z =>
 (cellK z 0 fun a1 =>
 (intK .i64 a1 fun a6 =>
 (cellK z 1 fun a2 =>
 (intK .i64 a2 fun a7 =>
 (optK (call 178 [D.agg [D.fn (Fn.func 119) [] []], D.slc V W U]) fun a4 =>
 (slcK a4 fun f n Z =>
 (F117c_58 call L C L Y h X J ((h : Int)) 0 x a5 a6 a7 f n Z (Ow.nil)))))))))))))))) := by kernel_rfl
def N69 : NTab := fun p => match p with
  | 26 => some { keep := [2, 3, 4, 5], kl := [], ren := [(2, 2), (3, 3), (4, 4)] }
  | _ => none
noncomputable def F69_26 (call : CL) (L : Nat) (C : Nat → Nat) (n : Nat) (h : Int) (z : Bool) (K M O S U : Int) : Option D :=
 loopAt (TEf call L C) O0 N69 FinM.canon Tryz.f69 [true, false, true, false] []  n (St.mk (J :: J :: D.loc 2 0 0 :: D.loc 3 0 0 :: D.loc 4 0 0 :: D.int .i64 O :: jn 34 []) (Z :: Z :: (1, some (Ob.box [D.int .i64 h, D.bool z, D.int .i64 K, D.int .i64 M] false)) :: (1, some (Ob.box [D.int .i64 S, D.int .i64 U] false)) :: (1, some (Ob.box [D.int .i64 0, D.int .i64 0] false)) :: zn 35 []))
theorem F69_26_eq (call : CL) (L : Nat) (C : Nat → Nat) (n : Nat) (M : Int) (O : Bool) (h z S J K : Int) : F69_26 call L C  (n + 1) M O h z S J K =
 (ifK (decide (S < Int.tmod (IntKind.wrap .i64 (Int.tmod M 4 + 4)) 4))
 (F69_26 call L C n M O h z (IntKind.wrap .i64 (S + 1)) (IntKind.wrap .i64 (0 - K)) J)
 (ifK O
 (some (D.agg [D.int .i64 (IntKind.wrap .i64 (IntKind.wrap .i64 (0 - J) + h)), D.int .i64 (IntKind.wrap .i64 (K + z))]))
 (some (D.agg [D.int .i64 (IntKind.wrap .i64 (J + h)), D.int .i64 (IntKind.wrap .i64 (K + z))])))) := by kernel_rfl
theorem F69_eq (call : CL) (L : Nat) (C : Nat → Nat) (h : Int) (z : Bool) (J K M O : Int) : evFnT (TEf call L C) O0 N69 FinM.canon Tryz.f69 [D.agg [D.int .i64 h, D.bool z, D.int .i64 J, D.int .i64 K], D.agg [D.int .i64 M, D.int .i64 O]] =
 (F69_26 call L C L h z J K 0 M O) := by kernel_rfl
def N120 : NTab := fun p => match p with
  | 58 => some { keep := [1, 2, 5, 6], kl := [], ren := [(2, 2), (21, 21)] }
  | _ => none
noncomputable def F120_58 (call : CL) (L : Nat) (C : Nat → Nat) (n : Nat) (V : Bool) (W : Nat) (U : List D) (z : Int) (K : Bool) (M O : Int) (h : Ow) (S : Int) : Option D :=
 loopAt (TEf call L C) O0 N120 FinM.canon Tryz.f120 [true, true, false, true, false] []  n (St.mk (J :: D.slc V W U :: D.loc 2 0 0 :: J :: J :: ownD 21 h :: D.int .i64 S :: jn 16 []) (Z :: Z :: (1, some (Ob.box [D.int .i64 z, D.bool K, D.int .i64 M, D.int .i64 O] false)) :: zn 18 [ownO 23 2 h, Z]))
theorem F120_58_eqn (call : CL) (L : Nat) (C : Nat → Nat) (n : Nat) (U : Bool) (J : Nat) (z : List D) (K : Int) (M : Bool) (O S h : Int) : F120_58 call L C  (n + 1) U J z K M O S (Ow.nil) h =
 (ifK (decide (h < (J : Int)))
 (chkK (decide (0 ≤ h ∧ h < (J : Int)))
 (cellK z (Int.toNat h * 2 + 0) fun d =>
 (intK .i64 d fun x =>
 (cellK z (Int.toNat h * 2 + 1) fun V =>
 (intK .i64 V fun Y =>
 (optK (call 69 [D.agg [D.int .i64 K, D.bool M, D.int .i64 O, D.int .i64 S], D.agg [D.int .i64 x, D.int .i64 Y]]) fun r =>
 (aggK r 2 fun c =>
 (cellK c 0 fun W =>
 (intK .i64 W fun Z =>
 (cellK c 1 fun X =>
 (intK .i64 X fun a0 =>
 (F120_58 call L C n U J z K M O S (Ow.own 1 [D.int .i64 Z, D.int .i64 a0]) (IntKind.wrap .i64 (h + 1))))))))))))))
 (some (D.slc true 0 []))) := by kernel_rfl
theorem F120_58_eqo (call : CL) (L : Nat) (C : Nat → Nat) (n : Nat) (X : Bool) (K : Nat) (J : List D) (M : Int) (O : Bool) (S U : Int) (z : Nat) (V : List D) (h : Int) : F120_58 call L C  (n + 1) X K J M O S U (Ow.own z V) h =
 (ifK (decide (h < (K : Int)))
 (chkK (decide (0 ≤ h ∧ h < (K : Int)))
 (cellK J (Int.toNat h * 2 + 0) fun Y =>
 (intK .i64 Y fun a3 =>
 (cellK J (Int.toNat h * 2 + 1) fun Z =>
 (intK .i64 Z fun a4 =>
 (optK (call 69 [D.agg [D.int .i64 M, D.bool O, D.int .i64 S, D.int .i64 U], D.agg [D.int .i64 a3, D.int .i64 a4]]) fun a2 =>
 (aggK a2 2 fun W =>
 (cellK W 0 fun a0 =>
 (intK .i64 a0 fun a5 =>
 (cellK W 1 fun a1 =>
 (intK .i64 a1 fun a6 =>
 (chkK (decide ((z + 1) * 16 ≤ limit ∧ z + 1 ≤ 9223372036854775807))
 (F120_58 call L C n X K J M O S U (Ow.own (z + 1) (V ++ [D.int .i64 a5, D.int .i64 a6])) (IntKind.wrap .i64 (h + 1)))))))))))))))
 (some (D.slc false z V))) := by kernel_rfl
theorem F120_eq (call : CL) (L : Nat) (C : Nat → Nat) (h : Int) (z : Bool) (J K : Int) (O : Bool) (S : Nat) (M : List D) : evFnT (TEf call L C) O0 N120 FinM.canon Tryz.f120 [D.agg [D.int .i64 h, D.bool z, D.int .i64 J, D.int .i64 K], D.slc O S M] =
 (F120_58 call L C L O S M h z J K (Ow.nil) 0) := by kernel_rfl
def N66 : NTab := fun p => match p with
  | 58 => some { keep := [2, 3, 4, 5, 6], kl := [], ren := [(2, 2), (3, 3), (4, 4), (5, 5), (47, 47)] }
  | _ => none
def O66 : Ord := fun id => match id with
  | 1 => some { l := some [0, 1, 2, 3, 4, 5, 6, 7, 8, 9, 10, 11, 12, 13, 14, 15, 16], ks := [5] }
  | _ => none
noncomputable def F66_58 (call : CL) (L : Nat) (C : Nat → Nat) (K : Nat) (M : Int) (O : Bool) (S U : Int) (h : ByteArray) (V W X Y : Int) (a1 : Bool) (a2 : Nat) (a0 : List D) (a4 : Bool) (a5 : Nat) (a3 : List D) (vi a7 a8 a9 aa : Int) (ac : Bool) (ad : Nat) (ab : List D) (z : Ow) : Option D :=
 loopAt (TEf call L C) O66 N66 FinM.canon Tryz.f66 [true, true, false, true, false] []  K (St.mk (J :: J :: D.loc 2 0 0 :: D.loc 3 0 0 :: D.loc 4 0 0 :: D.loc 5 0 0 :: D.int .i64 vi :: jn 43 []) (Z :: Z :: (1, some (Ob.box [D.int .i64 M, D.bool O, D.int .i64 S, D.int .i64 U] false)) :: (1, some (Ob.box [D.str h, D.int .i64 V, D.int .i64 W, D.int .i64 X, D.int .i64 Y, D.slc a1 a2 a0, D.slc a4 a5 a3] false)) :: (1, some (Ob.box [D.str (ByteArray.mk #[]), D.int .i64 0, D.int .i64 0, D.int .i64 0, D.int .i64 0, D.nils, D.nils] false)) :: (1, some (Ob.box [D.str h, D.int .i64 a7, D.int .i64 a8, D.int .i64 a9, D.int .i64 aa, D.slc ac ad ab, ownD 47 z] false)) :: zn 41 [ownO 133 2 z, Z, Z]))
theorem F66_58_eqn (call : CL) (L : Nat) (C : Nat → Nat) (a2 : Nat) (K : Int) (M : Bool) (O S : Int) (U : ByteArray) (a3 a4 a5 a6 : Int) (a8 : Bool) (a9 : Nat) (a7 : List D) (aa : Bool) (z : Nat) (J : List D) (h V W X Y : Int) (a0 : Bool) (a1 : Nat) (Z : List D) : F66_58 call L C  (a2 + 1) K M O S U a3 a4 a5 a6 a8 a9 a7 aa z J h V W X Y a0 a1 Z (Ow.nil) =
 (ifK (decide (h < (z : Int)))
 (chkK (decide (0 ≤ h ∧ h < (z : Int)))
 (cellK J (Int.toNat h * 2 + 0) fun ad =>
 (strK ad fun s =>
 (chkK (decide (0 ≤ h ∧ h < (z : Int)))
 (cellK J (Int.toNat h * 2 + 1) fun ae =>
 (slcK ae fun af ah ab =>
 (optK (call 120 [D.agg [D.int .i64 K, D.bool M, D.int .i64 O, D.int .i64 S], D.slc af ah ab]) fun aj =>
 (slcK aj fun ag ai ac =>
 (F66_58 call L C a2 K M O S U a3 a4 a5 a6 a8 a9 a7 aa z J (IntKind.wrap .i64 (h + 1)) V W X Y a0 a1 Z (Ow.own 1 [D.str s, D.slc ag ai ac]))))))))))
 (some (D.agg [D.str U, D.int .i64 V, D.int .i64 W, D.int .i64 X, D.int .i64 Y, D.slc a0 a1 Z, D.slc true 0 []]))) := by kernel_rfl
theorem F66_58_eqo (call : CL) (L : Nat) (C : Nat → Nat) (a4 : Nat) (M : Int) (O : Bool) (S U : Int) (V : ByteArray) (a5 a6 a7 a8 : Int) (aa : Bool) (ab : Nat) (a9 : List D) (ac : Bool) (z : Nat) (K : List D) (h W X Y Z : Int) (a1 : Bool) (a2 : Nat) (a0 : List D) (J : Nat) (a3 : List D) : F66_58 call L C  (a4 + 1) M O S U V a5 a6 a7 a8 aa ab a9 ac z K h W X Y Z a1 a2 a0 (Ow.own J a3) =
 (ifK (decide (h < (z : Int)))
 (chkK (decide (0 ≤ h ∧ h < (z : Int)))
 (cellK K (Int.toNat h * 2 + 0) fun af =>
 (strK af fun am =>
 (chkK (decide (0 ≤ h ∧ h < (z : Int)))
 (cellK K (Int.toNat h * 2 + 1) fun ag =>
 (slcK ag fun ah aj ad =>
 (optK (call 120 [D.agg [D.int .i64 M, D.bool O, D.int .i64 S, D.int .i64 U], D.slc ah aj ad]) fun al =>
 (slcK al fun ai ak ae =>
 (chkK (decide ((J + 1) * 40 ≤ limit ∧ J + 1 ≤ 9223372036854775807))
 (F66_58 call L C a4 M O S U V a5 a6 a7 a8 aa ab a9 ac z K (IntKind.wrap .i64 (h + 1)) W X Y Z a1 a2 a0 (Ow.own (J + 1) (a3 ++ [D.str am, D.slc ai ak ae]))))))))))))
 (some (D.agg [D.str V, D.int .i64 W, D.int .i64 X, D.int .i64 Y, D.int .i64 Z, D.slc a1 a2 a0, D.slc false J a3]))) := by kernel_rfl
theorem F66_eq (call : CL) (L : Nat) (C : Nat → Nat) (h : Int) (z : Bool) (J K : Int) (Z : ByteArray) (M O S U : Int) (W : Bool) (X : Nat) (V : List D) (a1 : Bool) (a2 : Nat) (a0 : List D) : evFnT (TEf call L C) O66 N66 FinM.canon Tryz.f66 [D.agg [D.int .i64 h, D.bool z, D.int .i64 J, D.int .i64 K], D.agg [D.str Z, D.int .i64 M, D.int .i64 O, D.int .i64 S, D.int .i64 U, D.slc W X V, D.slc a1 a2 a0]] =
 (optK (call 69 [D.agg [D.int .i64 h, D.bool z, D.int .i64 J, D.int .i64 K], D.agg [D.int .i64 M, D.int .i64 O]]) fun r =>
 (aggK r 2 fun c =>
 (cellK c 0 fun d =>
 (intK .i64 d fun x =>
 (cellK c 1 fun a4 =>
 (intK .i64 a4 fun a9 =>
 (optK (call 69 [D.agg [D.int .i64 h, D.bool z, D.int .i64 J, D.int .i64 K], D.agg [D.int .i64 S, D.int .i64 U]]) fun a7 =>
 (aggK a7 2 fun Y =>
 (cellK Y 0 fun a5 =>
 (intK .i64 a5 fun aa =>
 (cellK Y 1 fun a6 =>
 (intK .i64 a6 fun ab =>
 (optK (call 120 [D.agg [D.int .i64 h, D.bool z, D.int .i64 J, D.int .i64 K], D.slc W X V]) fun a8 =>
 (slcK a8 fun f n a3 =>
 (F66_58 call L C L h z J K Z M O S U W X V a1 a2 a0 0 x a9 aa ab f n a3 (Ow.nil)))))))))))))))) := by kernel_rfl
end Go.Pd
end
section
namespace Go.Pd
open Go Go.Proofs Go.RowKit
set_option maxRecDepth 100000
def owP (l : List Pt) : Ow := match l with
  | [] => .nil
  | _ => .own l.length (ptsC l)
def plD (l : List Pt) : D := .slc l.isEmpty l.length (ptsC l)
theorem pts_one (l : List Pt) (p : Pt) : ptsC l ++ [D.int .i64 p.1, .int .i64 p.2] = ptsC (l ++ [p]) := by simp [ptsC, ptC]
theorem rd_pt2 {γ : Type} (p : Pt) (k : Int → Int → Option γ) : (aggK (ptD p) 2 fun c => cellK c 0 fun d => intK .i64 d fun x => cellK c 1 fun d' => intK .i64 d' fun y => k x y) = k p.1 p.2 := rfl
def arM (G : Pt → Pt) (a : Ar) : Ar := (a.1, (a.2.2.map G).isEmpty, a.2.2.map G)
def hlM (G : Pt → Pt) (h : Hl) : Hl := { name := h.name, tee := G h.tee, cup := G h.cup, lf := (h.line.map G).isEmpty, line := h.line.map G, af := (h.areas.map (arM G)).isEmpty, areas := h.areas.map (arM G) }
/-! ### a -/
section
variable {call : CL} {f : Bool} {l : List Pt} {bx by_ : Int} {G : Pt → Pt}
theorem pl_a_go (hG : ∀ p : Pt, call 116 [.agg [.int .i64 p.1, .int .i64 p.2], .snap [.int .i64 bx, .int .i64 by_] 0] = some (ptD (G p))) (hl : l.length ≤ 1000) : ∀ (r pre : List Pt) (fuel : Nat), pre ++ r = l → r.length < fuel →
    F178a_58 call LL C1 fuel f l.length (ptsC l) bx by_ (owP (pre.map G)) (l.length : Int) (pre.length : Int) = some (plD (l.map G)) := by
  intro r
  induction r with
  | nil =>
    intro pre fuel hp hf
    obtain ⟨fuel, rfl⟩ : ∃ n, fuel = n + 1 := ⟨fuel - 1, by omega⟩
    rw [List.append_nil] at hp
    subst hp
    cases pre with
    | nil => rw [show owP (([] : List Pt).map G) = .nil from rfl, F178a_58_eqn]; rfl
    | cons y pre =>
      rw [show owP ((y :: pre).map G) = .own ((y :: pre).map G).length (ptsC ((y :: pre).map G)) from rfl, F178a_58_eqo, show decide ((((y :: pre).length : Nat) : Int) < (((y :: pre).length : Nat) : Int)) = false by simp, ifK_false]
      rfl
  | cons x r ih =>
    intro pre fuel hp hf
    obtain ⟨fuel, rfl⟩ : ∃ n, fuel = n + 1 := ⟨fuel - 1, by omega⟩
    have ih := ih (pre ++ [x]) fuel (by rw [← hp]; simp) (by simp at hf; omega)
    have hlen : pre.length < l.length := by rw [← hp]; simp
    have c0 : ∀ {γ : Type} (k : D → Option γ), cellK (ptsC l) (Int.toNat (pre.length : Int) * 2 + 0) k = k (.int .i64 x.1) := fun k => by rw [← hp]; exact q0 pre x r
    have c1 : ∀ {γ : Type} (k : D → Option γ), cellK (ptsC l) (Int.toNat (pre.length : Int) * 2 + 1) k = k (.int .i64 x.2) := fun k => by rw [← hp]; exact q1 pre x r
    have e0 : decide ((pre.length : Int) < (l.length : Int)) = true := by simp; omega
    have e1 : decide ((0 : Int) ≤ (pre.length : Int) ∧ (pre.length : Int) < (l.length : Int)) = true := decide_eq_true ⟨by omega, by omega⟩
    have e3 : IntKind.wrap .i64 ((pre.length : Int) + 1) = ((pre ++ [x]).length : Int) := (wrap_in (by omega)).trans (by simp)
    cases pre with
    | nil =>
      rw [show owP (([] : List Pt).map G) = .nil from rfl, F178a_58_eqn, e0, ifK_true, e1, chkK_true, c0, intK_int, c1, intK_int]
      refine opt_step (hG x) ?_
      rw [rd_pt2, e3]
      exact ih
    | cons y pre =>
      rw [show owP ((y :: pre).map G) = .own ((y :: pre).map G).length (ptsC ((y :: pre).map G)) from rfl, F178a_58_eqo, e0, ifK_true, e1, chkK_true, c0, intK_int, c1, intK_int]
      refine opt_step (hG x) ?_
      rw [rd_pt2, e3, pts_one, List.length_map, decide_eq_true (show ((y :: pre).length + 1) * 16 ≤ limit ∧ (y :: pre).length + 1 ≤ 9223372036854775807 from ⟨by unfold limit; omega, by omega⟩), chkK_true]
      rw [show owP ((y :: pre ++ [x]).map G) = .own ((y :: pre ++ [x]).map G).length (ptsC ((y :: pre ++ [x]).map G)) from rfl, List.map_append, List.length_append, List.length_map] at ih
      exact ih
end
theorem okfp_a : okFn Tryz.prog O0 Tryz.f178 = true := by kernel_rfl
theorem pl_a {f : Bool} {bx by_ : Int} {G : Pt → Pt} (hG : ∀ p : Pt, OK2 116 [.agg [.int .i64 p.1, .int .i64 p.2], .snap [.int .i64 bx, .int .i64 by_] 0] (ptD (G p))) (l : List Pt) (hl : l.length ≤ 1000) : OK2 178 [.agg [.fn (.func 116) [] [.snap [.int .i64 bx, .int .i64 by_] 0]], .slc f l.length (ptsC l)] (plD (l.map G)) := by
  obtain ⟨B, hb, e, _⟩ := exF [⟨116, Pt, fun p => [.agg [.int .i64 p.1, .int .i64 p.2], .snap [.int .i64 bx, .int .i64 by_] 0], fun p => ptD (G p)⟩] ⟨⟨hG, fun (x y : Pt) e => by
    obtain ⟨x1, x2⟩ := x
    obtain ⟨y1, y2⟩ := y
    have e : ([.agg [.int .i64 (x1, x2).1, .int .i64 (x1, x2).2], .snap [.int .i64 bx, .int .i64 by_] 0] : List D) = [.agg [.int .i64 (y1, y2).1, .int .i64 (y1, y2).2], .snap [.int .i64 bx, .int .i64 by_] 0] := e
    simp only [List.cons.injEq, D.agg.injEq, D.int.injEq, true_and, and_true] at e
    rw [e.1, e.2], fun _ => rfl⟩, trivial⟩ rfl
  exact fnT hb Tryz.func178 (ord := O0) (N := N178) okfp_a ((F178a_eq _ _ _ _ _ _ _ _ ).trans (pl_a_go (G := G) (fun p => e p) hl l [] LL rfl (by unfold LL; omega)))
section
variable {call : CL} {h : Hl} {bx by_ : Int} {G : Pt → Pt}
theorem hl_a_go (hG : ∀ (f : Bool) (l : List Pt), l.length ≤ 1000 → call 178 [.agg [.fn (.func 116) [] [.snap [.int .i64 bx, .int .i64 by_] 0]], .slc f l.length (ptsC l)] = some (plD (l.map G))) (hk : h.Ok) : ∀ (r pre : List Ar) (fuel : Nat), pre ++ r = h.areas → r.length < fuel →
    F117a_58 call LL C1 fuel h.af h.areas.length (arsC h.areas) bx by_ h.name (h.areas.length : Int) (pre.length : Int) (G h.tee).1 (G h.tee).2 (G h.cup).1 (G h.cup).2 (h.line.map G).isEmpty (h.line.map G).length (ptsC (h.line.map G)) (ownOw (pre.map (arM G))) = some (holeD (hlM G h)) := by
  intro r
  induction r with
  | nil =>
    intro pre fuel hp hf
    obtain ⟨fuel, rfl⟩ : ∃ n, fuel = n + 1 := ⟨fuel - 1, by omega⟩
    rw [List.append_nil] at hp
    have e0 : decide ((pre.length : Int) < (h.areas.length : Int)) = false := by rw [hp]; simp
    have hM : holeD (hlM G h) = .agg [.str h.name, .int .i64 (G h.tee).1, .int .i64 (G h.tee).2, .int .i64 (G h.cup).1, .int .i64 (G h.cup).2, .slc (h.line.map G).isEmpty (h.line.map G).length (ptsC (h.line.map G)), .slc (pre.map (arM G)).isEmpty (pre.map (arM G)).length (arsC (pre.map (arM G)))] := by rw [hp]; rfl
    rw [hM]
    cases pre with
    | nil =>
      rw [show ownOw (([] : List Ar).map (arM G)) = .nil from rfl, F117a_58_eqn, e0, ifK_false]
      rfl
    | cons y pre =>
      rw [show ownOw ((y :: pre).map (arM G)) = .own ((y :: pre).map (arM G)).length (arsC ((y :: pre).map (arM G))) from rfl, F117a_58_eqo, e0, ifK_false]
      rfl
  | cons x r ih =>
    intro pre fuel hp hf
    obtain ⟨fuel, rfl⟩ : ∃ n, fuel = n + 1 := ⟨fuel - 1, by omega⟩
    have ih := ih (pre ++ [x]) fuel (by rw [← hp]; simp) (by simp at hf; omega)
    have hlen : pre.length < h.areas.length := by rw [← hp]; simp
    have hxl : x.2.2.length ≤ 1000 := hk.c x (by rw [← hp]; simp)
    have hal := hk.a
    have e0 : decide ((pre.length : Int) < (h.areas.length : Int)) = true := by simp; omega
    have e1 : decide ((0 : Int) ≤ (pre.length : Int) ∧ (pre.length : Int) < (h.areas.length : Int)) = true := decide_eq_true ⟨by omega, by omega⟩
    have e3 : IntKind.wrap .i64 ((pre.length : Int) + 1) = ((pre ++ [x]).length : Int) := (wrap_in (by omega)).trans (by simp)
    have q0 : ∀ {γ : Type} (k : D → Option γ), cellK (arsC h.areas) (Int.toNat (pre.length : Int) * 2 + 0) k = k (.str x.1) := fun k => by rw [← hp]; exact a0 pre x r
    have q1 : ∀ {γ : Type} (k : D → Option γ), cellK (arsC h.areas) (Int.toNat (pre.length : Int) * 2 + 1) k = k (.slc x.2.1 x.2.2.length (ptsC x.2.2)) := fun k => by rw [← hp]; exact a1 pre x r
    cases pre with
    | nil =>
      rw [show ownOw (([] : List Ar).map (arM G)) = .nil from rfl, F117a_58_eqn, e0, ifK_true, e1, chkK_true, q0, strK_str, q1, slcK_slc]
      refine opt_step (hG x.2.1 x.2.2 hxl) ?_
      rw [show plD (x.2.2.map G) = .slc (x.2.2.map G).isEmpty (x.2.2.map G).length (ptsC (x.2.2.map G)) from rfl, slcK_slc, e3]
      exact ih
    | cons y pre =>
      rw [show ownOw ((y :: pre).map (arM G)) = .own ((y :: pre).map (arM G)).length (arsC ((y :: pre).map (arM G))) from rfl, F117a_58_eqo, e0, ifK_true, e1, chkK_true, q0, strK_str, q1, slcK_slc]
      refine opt_step (hG x.2.1 x.2.2 hxl) ?_
      have e4 : arsC ((y :: pre).map (arM G)) ++ [D.str x.1, D.slc (x.2.2.map G).isEmpty (x.2.2.map G).length (ptsC (x.2.2.map G))] = arsC ((y :: pre ++ [x]).map (arM G)) := by rw [List.map_append, arsC_app]; rfl
      rw [show plD (x.2.2.map G) = .slc (x.2.2.map G).isEmpty (x.2.2.map G).length (ptsC (x.2.2.map G)) from rfl, slcK_slc, e3, e4, List.length_map, decide_eq_true (show ((y :: pre).length + 1) * 40 ≤ limit ∧ (y :: pre).length + 1 ≤ 9223372036854775807 from ⟨by unfold limit; omega, by omega⟩), chkK_true]
      have e5 : ownOw ((y :: pre ++ [x]).map (arM G)) = .own ((y :: pre).length + 1) (arsC ((y :: pre ++ [x]).map (arM G))) := by
        show Ow.own ((y :: pre ++ [x]).map (arM G)).length _ = _
        rw [List.length_map, List.length_append]
        rfl
      rw [e5] at ih
      exact ih
end
theorem okfh_a : okFn Tryz.prog O117 Tryz.f117 = true := by kernel_rfl
theorem hl_a {bx by_ : Int} {G : Pt → Pt} (hG : ∀ p : Pt, OK2 116 [.agg [.int .i64 p.1, .int .i64 p.2], .snap [.int .i64 bx, .int .i64 by_] 0] (ptD (G p))) (h : Hl) (hk : h.Ok) : OK2 117 [.agg [.fn (.func 116) [] [.snap [.int .i64 bx, .int .i64 by_] 0]], holeD h] (holeD (hlM G h)) := by
  obtain ⟨B, hb, e, e2, _⟩ := exF [⟨116, Pt, fun p => [.agg [.int .i64 p.1, .int .i64 p.2], .snap [.int .i64 bx, .int .i64 by_] 0], fun p => ptD (G p)⟩, ⟨178, {x : Bool × List Pt // x.2.length ≤ 1000}, fun x => [.agg [.fn (.func 116) [] [.snap [.int .i64 bx, .int .i64 by_] 0]], .slc x.1.1 x.1.2.length (ptsC x.1.2)], fun x => plD (x.1.2.map G)⟩] ⟨⟨hG, fun (x y : Pt) e => by
    obtain ⟨x1, x2⟩ := x
    obtain ⟨y1, y2⟩ := y
    have e : ([.agg [.int .i64 (x1, x2).1, .int .i64 (x1, x2).2], .snap [.int .i64 bx, .int .i64 by_] 0] : List D) = [.agg [.int .i64 (y1, y2).1, .int .i64 (y1, y2).2], .snap [.int .i64 bx, .int .i64 by_] 0] := e
    simp only [List.cons.injEq, D.agg.injEq, D.int.injEq, true_and, and_true] at e
    rw [e.1, e.2], fun _ => rfl⟩, ⟨fun x => pl_a hG x.1.2 x.2, fun (x y : {x : Bool × List Pt // x.2.length ≤ 1000}) e => by
    have e : ([.agg [.fn (.func 116) [] [.snap [.int .i64 bx, .int .i64 by_] 0]], .slc x.1.1 x.1.2.length (ptsC x.1.2)] : List D) = [.agg [.fn (.func 116) [] [.snap [.int .i64 bx, .int .i64 by_] 0]], .slc y.1.1 y.1.2.length (ptsC y.1.2)] := e
    simp only [List.cons.injEq, D.slc.injEq, true_and, and_true] at e
    show plD (x.1.2.map G) = plD (y.1.2.map G)
    rw [ptsC_inj e.2.2], fun _ => rfl⟩, trivial⟩ rfl
  have f1 : ∀ p : Pt, callOf B 116 [.agg [.int .i64 p.1, .int .i64 p.2], .snap [.int .i64 bx, .int .i64 by_] 0] = some (ptD (G p)) := fun p => e p
  have f2 : ∀ (f : Bool) (l : List Pt), l.length ≤ 1000 → callOf B 178 [.agg [.fn (.func 116) [] [.snap [.int .i64 bx, .int .i64 by_] 0]], .slc f l.length (ptsC l)] = some (plD (l.map G)) := fun f l hl => e2 ⟨(f, l), hl⟩
  refine fnT hb Tryz.func117 (ord := O117) (N := N117) okfh_a ((F117a_eq _ _ _ _ _ _ _ _ _ _ _ _ _ _ _ _ ).trans ?_)
  refine opt_step (f1 h.tee) ?_
  rw [rd_pt2]
  refine opt_step (f1 h.cup) ?_
  rw [rd_pt2]
  refine opt_step (f2 h.lf h.line hk.l) ?_
  rw [show plD (h.line.map G) = .slc (h.line.map G).isEmpty (h.line.map G).length (ptsC (h.line.map G)) from rfl, slcK_slc]
  have hal := hk.a
  have hgo := hl_a_go (G := G) f2 hk h.areas [] LL rfl (by unfold LL; omega)
  rw [show ownOw (([] : List Ar).map (arM G)) = .nil from rfl] at hgo
  exact hgo
/-! ### b -/
section
variable {call : CL} {f : Bool} {l : List Pt} {qn : Int} {G : Pt → Pt}
theorem pl_b_go (hG : ∀ p : Pt, call 118 [.agg [.int .i64 p.1, .int .i64 p.2], .snap [.int .i64 qn] 0] = some (ptD (G p))) (hl : l.length ≤ 1000) : ∀ (r pre : List Pt) (fuel : Nat), pre ++ r = l → r.length < fuel →
    F178b_58 call LL C1 fuel f l.length (ptsC l) qn (owP (pre.map G)) (l.length : Int) (pre.length : Int) = some (plD (l.map G)) := by
  intro r
  induction r with
  | nil =>
    intro pre fuel hp hf
    obtain ⟨fuel, rfl⟩ : ∃ n, fuel = n + 1 := ⟨fuel - 1, by omega⟩
    rw [List.append_nil] at hp
    subst hp
    cases pre with
    | nil => rw [show owP (([] : List Pt).map G) = .nil from rfl, F178b_58_eqn]; rfl
    | cons y pre =>
      rw [show owP ((y :: pre).map G) = .own ((y :: pre).map G).length (ptsC ((y :: pre).map G)) from rfl, F178b_58_eqo, show decide ((((y :: pre).length : Nat) : Int) < (((y :: pre).length : Nat) : Int)) = false by simp, ifK_false]
      rfl
  | cons x r ih =>
    intro pre fuel hp hf
    obtain ⟨fuel, rfl⟩ : ∃ n, fuel = n + 1 := ⟨fuel - 1, by omega⟩
    have ih := ih (pre ++ [x]) fuel (by rw [← hp]; simp) (by simp at hf; omega)
    have hlen : pre.length < l.length := by rw [← hp]; simp
    have c0 : ∀ {γ : Type} (k : D → Option γ), cellK (ptsC l) (Int.toNat (pre.length : Int) * 2 + 0) k = k (.int .i64 x.1) := fun k => by rw [← hp]; exact q0 pre x r
    have c1 : ∀ {γ : Type} (k : D → Option γ), cellK (ptsC l) (Int.toNat (pre.length : Int) * 2 + 1) k = k (.int .i64 x.2) := fun k => by rw [← hp]; exact q1 pre x r
    have e0 : decide ((pre.length : Int) < (l.length : Int)) = true := by simp; omega
    have e1 : decide ((0 : Int) ≤ (pre.length : Int) ∧ (pre.length : Int) < (l.length : Int)) = true := decide_eq_true ⟨by omega, by omega⟩
    have e3 : IntKind.wrap .i64 ((pre.length : Int) + 1) = ((pre ++ [x]).length : Int) := (wrap_in (by omega)).trans (by simp)
    cases pre with
    | nil =>
      rw [show owP (([] : List Pt).map G) = .nil from rfl, F178b_58_eqn, e0, ifK_true, e1, chkK_true, c0, intK_int, c1, intK_int]
      refine opt_step (hG x) ?_
      rw [rd_pt2, e3]
      exact ih
    | cons y pre =>
      rw [show owP ((y :: pre).map G) = .own ((y :: pre).map G).length (ptsC ((y :: pre).map G)) from rfl, F178b_58_eqo, e0, ifK_true, e1, chkK_true, c0, intK_int, c1, intK_int]
      refine opt_step (hG x) ?_
      rw [rd_pt2, e3, pts_one, List.length_map, decide_eq_true (show ((y :: pre).length + 1) * 16 ≤ limit ∧ (y :: pre).length + 1 ≤ 9223372036854775807 from ⟨by unfold limit; omega, by omega⟩), chkK_true]
      rw [show owP ((y :: pre ++ [x]).map G) = .own ((y :: pre ++ [x]).map G).length (ptsC ((y :: pre ++ [x]).map G)) from rfl, List.map_append, List.length_append, List.length_map] at ih
      exact ih
end
theorem okfp_b : okFn Tryz.prog O0 Tryz.f178 = true := by kernel_rfl
theorem pl_b {f : Bool} {qn : Int} {G : Pt → Pt} (hG : ∀ p : Pt, OK2 118 [.agg [.int .i64 p.1, .int .i64 p.2], .snap [.int .i64 qn] 0] (ptD (G p))) (l : List Pt) (hl : l.length ≤ 1000) : OK2 178 [.agg [.fn (.func 118) [] [.snap [.int .i64 qn] 0]], .slc f l.length (ptsC l)] (plD (l.map G)) := by
  obtain ⟨B, hb, e, _⟩ := exF [⟨118, Pt, fun p => [.agg [.int .i64 p.1, .int .i64 p.2], .snap [.int .i64 qn] 0], fun p => ptD (G p)⟩] ⟨⟨hG, fun (x y : Pt) e => by
    obtain ⟨x1, x2⟩ := x
    obtain ⟨y1, y2⟩ := y
    have e : ([.agg [.int .i64 (x1, x2).1, .int .i64 (x1, x2).2], .snap [.int .i64 qn] 0] : List D) = [.agg [.int .i64 (y1, y2).1, .int .i64 (y1, y2).2], .snap [.int .i64 qn] 0] := e
    simp only [List.cons.injEq, D.agg.injEq, D.int.injEq, true_and, and_true] at e
    rw [e.1, e.2], fun _ => rfl⟩, trivial⟩ rfl
  exact fnT hb Tryz.func178 (ord := O0) (N := N178) okfp_b ((F178b_eq _ _ _ _ _ _ _ ).trans (pl_b_go (G := G) (fun p => e p) hl l [] LL rfl (by unfold LL; omega)))
section
variable {call : CL} {h : Hl} {qn : Int} {G : Pt → Pt}
theorem hl_b_go (hG : ∀ (f : Bool) (l : List Pt), l.length ≤ 1000 → call 178 [.agg [.fn (.func 118) [] [.snap [.int .i64 qn] 0]], .slc f l.length (ptsC l)] = some (plD (l.map G))) (hk : h.Ok) : ∀ (r pre : List Ar) (fuel : Nat), pre ++ r = h.areas → r.length < fuel →
    F117b_58 call LL C1 fuel h.af h.areas.length (arsC h.areas) qn h.name (h.areas.length : Int) (pre.length : Int) (G h.tee).1 (G h.tee).2 (G h.cup).1 (G h.cup).2 (h.line.map G).isEmpty (h.line.map G).length (ptsC (h.line.map G)) (ownOw (pre.map (arM G))) = some (holeD (hlM G h)) := by
  intro r
  induction r with
  | nil =>
    intro pre fuel hp hf
    obtain ⟨fuel, rfl⟩ : ∃ n, fuel = n + 1 := ⟨fuel - 1, by omega⟩
    rw [List.append_nil] at hp
    have e0 : decide ((pre.length : Int) < (h.areas.length : Int)) = false := by rw [hp]; simp
    have hM : holeD (hlM G h) = .agg [.str h.name, .int .i64 (G h.tee).1, .int .i64 (G h.tee).2, .int .i64 (G h.cup).1, .int .i64 (G h.cup).2, .slc (h.line.map G).isEmpty (h.line.map G).length (ptsC (h.line.map G)), .slc (pre.map (arM G)).isEmpty (pre.map (arM G)).length (arsC (pre.map (arM G)))] := by rw [hp]; rfl
    rw [hM]
    cases pre with
    | nil =>
      rw [show ownOw (([] : List Ar).map (arM G)) = .nil from rfl, F117b_58_eqn, e0, ifK_false]
      rfl
    | cons y pre =>
      rw [show ownOw ((y :: pre).map (arM G)) = .own ((y :: pre).map (arM G)).length (arsC ((y :: pre).map (arM G))) from rfl, F117b_58_eqo, e0, ifK_false]
      rfl
  | cons x r ih =>
    intro pre fuel hp hf
    obtain ⟨fuel, rfl⟩ : ∃ n, fuel = n + 1 := ⟨fuel - 1, by omega⟩
    have ih := ih (pre ++ [x]) fuel (by rw [← hp]; simp) (by simp at hf; omega)
    have hlen : pre.length < h.areas.length := by rw [← hp]; simp
    have hxl : x.2.2.length ≤ 1000 := hk.c x (by rw [← hp]; simp)
    have hal := hk.a
    have e0 : decide ((pre.length : Int) < (h.areas.length : Int)) = true := by simp; omega
    have e1 : decide ((0 : Int) ≤ (pre.length : Int) ∧ (pre.length : Int) < (h.areas.length : Int)) = true := decide_eq_true ⟨by omega, by omega⟩
    have e3 : IntKind.wrap .i64 ((pre.length : Int) + 1) = ((pre ++ [x]).length : Int) := (wrap_in (by omega)).trans (by simp)
    have q0 : ∀ {γ : Type} (k : D → Option γ), cellK (arsC h.areas) (Int.toNat (pre.length : Int) * 2 + 0) k = k (.str x.1) := fun k => by rw [← hp]; exact a0 pre x r
    have q1 : ∀ {γ : Type} (k : D → Option γ), cellK (arsC h.areas) (Int.toNat (pre.length : Int) * 2 + 1) k = k (.slc x.2.1 x.2.2.length (ptsC x.2.2)) := fun k => by rw [← hp]; exact a1 pre x r
    cases pre with
    | nil =>
      rw [show ownOw (([] : List Ar).map (arM G)) = .nil from rfl, F117b_58_eqn, e0, ifK_true, e1, chkK_true, q0, strK_str, q1, slcK_slc]
      refine opt_step (hG x.2.1 x.2.2 hxl) ?_
      rw [show plD (x.2.2.map G) = .slc (x.2.2.map G).isEmpty (x.2.2.map G).length (ptsC (x.2.2.map G)) from rfl, slcK_slc, e3]
      exact ih
    | cons y pre =>
      rw [show ownOw ((y :: pre).map (arM G)) = .own ((y :: pre).map (arM G)).length (arsC ((y :: pre).map (arM G))) from rfl, F117b_58_eqo, e0, ifK_true, e1, chkK_true, q0, strK_str, q1, slcK_slc]
      refine opt_step (hG x.2.1 x.2.2 hxl) ?_
      have e4 : arsC ((y :: pre).map (arM G)) ++ [D.str x.1, D.slc (x.2.2.map G).isEmpty (x.2.2.map G).length (ptsC (x.2.2.map G))] = arsC ((y :: pre ++ [x]).map (arM G)) := by rw [List.map_append, arsC_app]; rfl
      rw [show plD (x.2.2.map G) = .slc (x.2.2.map G).isEmpty (x.2.2.map G).length (ptsC (x.2.2.map G)) from rfl, slcK_slc, e3, e4, List.length_map, decide_eq_true (show ((y :: pre).length + 1) * 40 ≤ limit ∧ (y :: pre).length + 1 ≤ 9223372036854775807 from ⟨by unfold limit; omega, by omega⟩), chkK_true]
      have e5 : ownOw ((y :: pre ++ [x]).map (arM G)) = .own ((y :: pre).length + 1) (arsC ((y :: pre ++ [x]).map (arM G))) := by
        show Ow.own ((y :: pre ++ [x]).map (arM G)).length _ = _
        rw [List.length_map, List.length_append]
        rfl
      rw [e5] at ih
      exact ih
end
theorem okfh_b : okFn Tryz.prog O117 Tryz.f117 = true := by kernel_rfl
theorem hl_b {qn : Int} {G : Pt → Pt} (hG : ∀ p : Pt, OK2 118 [.agg [.int .i64 p.1, .int .i64 p.2], .snap [.int .i64 qn] 0] (ptD (G p))) (h : Hl) (hk : h.Ok) : OK2 117 [.agg [.fn (.func 118) [] [.snap [.int .i64 qn] 0]], holeD h] (holeD (hlM G h)) := by
  obtain ⟨B, hb, e, e2, _⟩ := exF [⟨118, Pt, fun p => [.agg [.int .i64 p.1, .int .i64 p.2], .snap [.int .i64 qn] 0], fun p => ptD (G p)⟩, ⟨178, {x : Bool × List Pt // x.2.length ≤ 1000}, fun x => [.agg [.fn (.func 118) [] [.snap [.int .i64 qn] 0]], .slc x.1.1 x.1.2.length (ptsC x.1.2)], fun x => plD (x.1.2.map G)⟩] ⟨⟨hG, fun (x y : Pt) e => by
    obtain ⟨x1, x2⟩ := x
    obtain ⟨y1, y2⟩ := y
    have e : ([.agg [.int .i64 (x1, x2).1, .int .i64 (x1, x2).2], .snap [.int .i64 qn] 0] : List D) = [.agg [.int .i64 (y1, y2).1, .int .i64 (y1, y2).2], .snap [.int .i64 qn] 0] := e
    simp only [List.cons.injEq, D.agg.injEq, D.int.injEq, true_and, and_true] at e
    rw [e.1, e.2], fun _ => rfl⟩, ⟨fun x => pl_b hG x.1.2 x.2, fun (x y : {x : Bool × List Pt // x.2.length ≤ 1000}) e => by
    have e : ([.agg [.fn (.func 118) [] [.snap [.int .i64 qn] 0]], .slc x.1.1 x.1.2.length (ptsC x.1.2)] : List D) = [.agg [.fn (.func 118) [] [.snap [.int .i64 qn] 0]], .slc y.1.1 y.1.2.length (ptsC y.1.2)] := e
    simp only [List.cons.injEq, D.slc.injEq, true_and, and_true] at e
    show plD (x.1.2.map G) = plD (y.1.2.map G)
    rw [ptsC_inj e.2.2], fun _ => rfl⟩, trivial⟩ rfl
  have f1 : ∀ p : Pt, callOf B 118 [.agg [.int .i64 p.1, .int .i64 p.2], .snap [.int .i64 qn] 0] = some (ptD (G p)) := fun p => e p
  have f2 : ∀ (f : Bool) (l : List Pt), l.length ≤ 1000 → callOf B 178 [.agg [.fn (.func 118) [] [.snap [.int .i64 qn] 0]], .slc f l.length (ptsC l)] = some (plD (l.map G)) := fun f l hl => e2 ⟨(f, l), hl⟩
  refine fnT hb Tryz.func117 (ord := O117) (N := N117) okfh_b ((F117b_eq _ _ _ _ _ _ _ _ _ _ _ _ _ _ _ ).trans ?_)
  refine opt_step (f1 h.tee) ?_
  rw [rd_pt2]
  refine opt_step (f1 h.cup) ?_
  rw [rd_pt2]
  refine opt_step (f2 h.lf h.line hk.l) ?_
  rw [show plD (h.line.map G) = .slc (h.line.map G).isEmpty (h.line.map G).length (ptsC (h.line.map G)) from rfl, slcK_slc]
  have hal := hk.a
  have hgo := hl_b_go (G := G) f2 hk h.areas [] LL rfl (by unfold LL; omega)
  rw [show ownOw (([] : List Ar).map (arM G)) = .nil from rfl] at hgo
  exact hgo
/-! ### c -/
section
variable {call : CL} {f : Bool} {l : List Pt}  {G : Pt → Pt}
theorem pl_c_go (hG : ∀ p : Pt, call 119 [.agg [.int .i64 p.1, .int .i64 p.2]] = some (ptD (G p))) (hl : l.length ≤ 1000) : ∀ (r pre : List Pt) (fuel : Nat), pre ++ r = l → r.length < fuel →
    F178c_58 call LL C1 fuel f l.length (ptsC l) (owP (pre.map G)) (l.length : Int) (pre.length : Int) = some (plD (l.map G)) := by
  intro r
  induction r with
  | nil =>
    intro pre fuel hp hf
    obtain ⟨fuel, rfl⟩ : ∃ n, fuel = n + 1 := ⟨fuel - 1, by omega⟩
    rw [List.append_nil] at hp
    subst hp
    cases pre with
    | nil => rw [show owP (([] : List Pt).map G) = .nil from rfl, F178c_58_eqn]; rfl
    | cons y pre =>
      rw [show owP ((y :: pre).map G) = .own ((y :: pre).map G).length (ptsC ((y :: pre).map G)) from rfl, F178c_58_eqo, show decide ((((y :: pre).length : Nat) : Int) < (((y :: pre).length : Nat) : Int)) = false by simp, ifK_false]
      rfl
  | cons x r ih =>
    intro pre fuel hp hf
    obtain ⟨fuel, rfl⟩ : ∃ n, fuel = n + 1 := ⟨fuel - 1, by omega⟩
    have ih := ih (pre ++ [x]) fuel (by rw [← hp]; simp) (by simp at hf; omega)
    have hlen : pre.length < l.length := by rw [← hp]; simp
    have c0 : ∀ {γ : Type} (k : D → Option γ), cellK (ptsC l) (Int.toNat (pre.length : Int) * 2 + 0) k = k (.int .i64 x.1) := fun k => by rw [← hp]; exact q0 pre x r
    have c1 : ∀ {γ : Type} (k : D → Option γ), cellK (ptsC l) (Int.toNat (pre.length : Int) * 2 + 1) k = k (.int .i64 x.2) := fun k => by rw [← hp]; exact q1 pre x r
    have e0 : decide ((pre.length : Int) < (l.length : Int)) = true := by simp; omega
    have e1 : decide ((0 : Int) ≤ (pre.length : Int) ∧ (pre.length : Int) < (l.length : Int)) = true := decide_eq_true ⟨by omega, by omega⟩
    have e3 : IntKind.wrap .i64 ((pre.length : Int) + 1) = ((pre ++ [x]).length : Int) := (wrap_in (by omega)).trans (by simp)
    cases pre with
    | nil =>
      rw [show owP (([] : List Pt).map G) = .nil from rfl, F178c_58_eqn, e0, ifK_true, e1, chkK_true, c0, intK_int, c1, intK_int]
      refine opt_step (hG x) ?_
      rw [rd_pt2, e3]
      exact ih
    | cons y pre =>
      rw [show owP ((y :: pre).map G) = .own ((y :: pre).map G).length (ptsC ((y :: pre).map G)) from rfl, F178c_58_eqo, e0, ifK_true, e1, chkK_true, c0, intK_int, c1, intK_int]
      refine opt_step (hG x) ?_
      rw [rd_pt2, e3, pts_one, List.length_map, decide_eq_true (show ((y :: pre).length + 1) * 16 ≤ limit ∧ (y :: pre).length + 1 ≤ 9223372036854775807 from ⟨by unfold limit; omega, by omega⟩), chkK_true]
      rw [show owP ((y :: pre ++ [x]).map G) = .own ((y :: pre ++ [x]).map G).length (ptsC ((y :: pre ++ [x]).map G)) from rfl, List.map_append, List.length_append, List.length_map] at ih
      exact ih
end
theorem okfp_c : okFn Tryz.prog O0 Tryz.f178 = true := by kernel_rfl
theorem pl_c {f : Bool}  {G : Pt → Pt} (hG : ∀ p : Pt, OK2 119 [.agg [.int .i64 p.1, .int .i64 p.2]] (ptD (G p))) (l : List Pt) (hl : l.length ≤ 1000) : OK2 178 [.agg [.fn (.func 119) [] []], .slc f l.length (ptsC l)] (plD (l.map G)) := by
  obtain ⟨B, hb, e, _⟩ := exF [⟨119, Pt, fun p => [.agg [.int .i64 p.1, .int .i64 p.2]], fun p => ptD (G p)⟩] ⟨⟨hG, fun (x y : Pt) e => by
    obtain ⟨x1, x2⟩ := x
    obtain ⟨y1, y2⟩ := y
    have e : ([.agg [.int .i64 (x1, x2).1, .int .i64 (x1, x2).2]] : List D) = [.agg [.int .i64 (y1, y2).1, .int .i64 (y1, y2).2]] := e
    simp only [List.cons.injEq, D.agg.injEq, D.int.injEq, true_and, and_true] at e
    rw [e.1, e.2], fun _ => rfl⟩, trivial⟩ rfl
  exact fnT hb Tryz.func178 (ord := O0) (N := N178) okfp_c ((F178c_eq _ _ _ _ _ _ ).trans (pl_c_go (G := G) (fun p => e p) hl l [] LL rfl (by unfold LL; omega)))
section
variable {call : CL} {h : Hl}  {G : Pt → Pt}
theorem hl_c_go (hG : ∀ (f : Bool) (l : List Pt), l.length ≤ 1000 → call 178 [.agg [.fn (.func 119) [] []], .slc f l.length (ptsC l)] = some (plD (l.map G))) (hk : h.Ok) : ∀ (r pre : List Ar) (fuel : Nat), pre ++ r = h.areas → r.length < fuel →
    F117c_58 call LL C1 fuel h.af h.areas.length (arsC h.areas) h.name (h.areas.length : Int) (pre.length : Int) (G h.tee).1 (G h.tee).2 (G h.cup).1 (G h.cup).2 (h.line.map G).isEmpty (h.line.map G).length (ptsC (h.line.map G)) (ownOw (pre.map (arM G))) = some (holeD (hlM G h)) := by
  intro r
  induction r with
  | nil =>
    intro pre fuel hp hf
    obtain ⟨fuel, rfl⟩ : ∃ n, fuel = n + 1 := ⟨fuel - 1, by omega⟩
    rw [List.append_nil] at hp
    have e0 : decide ((pre.length : Int) < (h.areas.length : Int)) = false := by rw [hp]; simp
    have hM : holeD (hlM G h) = .agg [.str h.name, .int .i64 (G h.tee).1, .int .i64 (G h.tee).2, .int .i64 (G h.cup).1, .int .i64 (G h.cup).2, .slc (h.line.map G).isEmpty (h.line.map G).length (ptsC (h.line.map G)), .slc (pre.map (arM G)).isEmpty (pre.map (arM G)).length (arsC (pre.map (arM G)))] := by rw [hp]; rfl
    rw [hM]
    cases pre with
    | nil =>
      rw [show ownOw (([] : List Ar).map (arM G)) = .nil from rfl, F117c_58_eqn, e0, ifK_false]
      rfl
    | cons y pre =>
      rw [show ownOw ((y :: pre).map (arM G)) = .own ((y :: pre).map (arM G)).length (arsC ((y :: pre).map (arM G))) from rfl, F117c_58_eqo, e0, ifK_false]
      rfl
  | cons x r ih =>
    intro pre fuel hp hf
    obtain ⟨fuel, rfl⟩ : ∃ n, fuel = n + 1 := ⟨fuel - 1, by omega⟩
    have ih := ih (pre ++ [x]) fuel (by rw [← hp]; simp) (by simp at hf; omega)
    have hlen : pre.length < h.areas.length := by rw [← hp]; simp
    have hxl : x.2.2.length ≤ 1000 := hk.c x (by rw [← hp]; simp)
    have hal := hk.a
    have e0 : decide ((pre.length : Int) < (h.areas.length : Int)) = true := by simp; omega
    have e1 : decide ((0 : Int) ≤ (pre.length : Int) ∧ (pre.length : Int) < (h.areas.length : Int)) = true := decide_eq_true ⟨by omega, by omega⟩
    have e3 : IntKind.wrap .i64 ((pre.length : Int) + 1) = ((pre ++ [x]).length : Int) := (wrap_in (by omega)).trans (by simp)
    have q0 : ∀ {γ : Type} (k : D → Option γ), cellK (arsC h.areas) (Int.toNat (pre.length : Int) * 2 + 0) k = k (.str x.1) := fun k => by rw [← hp]; exact a0 pre x r
    have q1 : ∀ {γ : Type} (k : D → Option γ), cellK (arsC h.areas) (Int.toNat (pre.length : Int) * 2 + 1) k = k (.slc x.2.1 x.2.2.length (ptsC x.2.2)) := fun k => by rw [← hp]; exact a1 pre x r
    cases pre with
    | nil =>
      rw [show ownOw (([] : List Ar).map (arM G)) = .nil from rfl, F117c_58_eqn, e0, ifK_true, e1, chkK_true, q0, strK_str, q1, slcK_slc]
      refine opt_step (hG x.2.1 x.2.2 hxl) ?_
      rw [show plD (x.2.2.map G) = .slc (x.2.2.map G).isEmpty (x.2.2.map G).length (ptsC (x.2.2.map G)) from rfl, slcK_slc, e3]
      exact ih
    | cons y pre =>
      rw [show ownOw ((y :: pre).map (arM G)) = .own ((y :: pre).map (arM G)).length (arsC ((y :: pre).map (arM G))) from rfl, F117c_58_eqo, e0, ifK_true, e1, chkK_true, q0, strK_str, q1, slcK_slc]
      refine opt_step (hG x.2.1 x.2.2 hxl) ?_
      have e4 : arsC ((y :: pre).map (arM G)) ++ [D.str x.1, D.slc (x.2.2.map G).isEmpty (x.2.2.map G).length (ptsC (x.2.2.map G))] = arsC ((y :: pre ++ [x]).map (arM G)) := by rw [List.map_append, arsC_app]; rfl
      rw [show plD (x.2.2.map G) = .slc (x.2.2.map G).isEmpty (x.2.2.map G).length (ptsC (x.2.2.map G)) from rfl, slcK_slc, e3, e4, List.length_map, decide_eq_true (show ((y :: pre).length + 1) * 40 ≤ limit ∧ (y :: pre).length + 1 ≤ 9223372036854775807 from ⟨by unfold limit; omega, by omega⟩), chkK_true]
      have e5 : ownOw ((y :: pre ++ [x]).map (arM G)) = .own ((y :: pre).length + 1) (arsC ((y :: pre ++ [x]).map (arM G))) := by
        show Ow.own ((y :: pre ++ [x]).map (arM G)).length _ = _
        rw [List.length_map, List.length_append]
        rfl
      rw [e5] at ih
      exact ih
end
theorem okfh_c : okFn Tryz.prog O117 Tryz.f117 = true := by kernel_rfl
theorem hl_c  {G : Pt → Pt} (hG : ∀ p : Pt, OK2 119 [.agg [.int .i64 p.1, .int .i64 p.2]] (ptD (G p))) (h : Hl) (hk : h.Ok) : OK2 117 [.agg [.fn (.func 119) [] []], holeD h] (holeD (hlM G h)) := by
  obtain ⟨B, hb, e, e2, _⟩ := exF [⟨119, Pt, fun p => [.agg [.int .i64 p.1, .int .i64 p.2]], fun p => ptD (G p)⟩, ⟨178, {x : Bool × List Pt // x.2.length ≤ 1000}, fun x => [.agg [.fn (.func 119) [] []], .slc x.1.1 x.1.2.length (ptsC x.1.2)], fun x => plD (x.1.2.map G)⟩] ⟨⟨hG, fun (x y : Pt) e => by
    obtain ⟨x1, x2⟩ := x
    obtain ⟨y1, y2⟩ := y
    have e : ([.agg [.int .i64 (x1, x2).1, .int .i64 (x1, x2).2]] : List D) = [.agg [.int .i64 (y1, y2).1, .int .i64 (y1, y2).2]] := e
    simp only [List.cons.injEq, D.agg.injEq, D.int.injEq, true_and, and_true] at e
    rw [e.1, e.2], fun _ => rfl⟩, ⟨fun x => pl_c hG x.1.2 x.2, fun (x y : {x : Bool × List Pt // x.2.length ≤ 1000}) e => by
    have e : ([.agg [.fn (.func 119) [] []], .slc x.1.1 x.1.2.length (ptsC x.1.2)] : List D) = [.agg [.fn (.func 119) [] []], .slc y.1.1 y.1.2.length (ptsC y.1.2)] := e
    simp only [List.cons.injEq, D.slc.injEq, true_and, and_true] at e
    show plD (x.1.2.map G) = plD (y.1.2.map G)
    rw [ptsC_inj e.2.2], fun _ => rfl⟩, trivial⟩ rfl
  have f1 : ∀ p : Pt, callOf B 119 [.agg [.int .i64 p.1, .int .i64 p.2]] = some (ptD (G p)) := fun p => e p
  have f2 : ∀ (f : Bool) (l : List Pt), l.length ≤ 1000 → callOf B 178 [.agg [.fn (.func 119) [] []], .slc f l.length (ptsC l)] = some (plD (l.map G)) := fun f l hl => e2 ⟨(f, l), hl⟩
  refine fnT hb Tryz.func117 (ord := O117) (N := N117) okfh_c ((F117c_eq _ _ _ _ _ _ _ _ _ _ _ _ _ _ ).trans ?_)
  refine opt_step (f1 h.tee) ?_
  rw [rd_pt2]
  refine opt_step (f1 h.cup) ?_
  rw [rd_pt2]
  refine opt_step (f2 h.lf h.line hk.l) ?_
  rw [show plD (h.line.map G) = .slc (h.line.map G).isEmpty (h.line.map G).length (ptsC (h.line.map G)) from rfl, slcK_slc]
  have hal := hk.a
  have hgo := hl_c_go (G := G) f2 hk h.areas [] LL rfl (by unfold LL; omega)
  rw [show ownOw (([] : List Ar).map (arM G)) = .nil from rfl] at hgo
  exact hgo
/-! ### r -/
section
variable {call : CL} {f : Bool} {l : List Pt} {cq : Int} {cm : Bool} {cx cy : Int} {G : Pt → Pt}
theorem pl_r_go (hG : ∀ p : Pt, call 69 [.agg [.int .i64 cq, .bool cm, .int .i64 cx, .int .i64 cy], .agg [.int .i64 p.1, .int .i64 p.2]] = some (ptD (G p))) (hl : l.length ≤ 1000) : ∀ (r pre : List Pt) (fuel : Nat), pre ++ r = l → r.length < fuel →
    F120_58 call LL C1 fuel f l.length (ptsC l) cq cm cx cy (owP (pre.map G)) (pre.length : Int) = some (plD (l.map G)) := by
  intro r
  induction r with
  | nil =>
    intro pre fuel hp hf
    obtain ⟨fuel, rfl⟩ : ∃ n, fuel = n + 1 := ⟨fuel - 1, by omega⟩
    rw [List.append_nil] at hp
    subst hp
    cases pre with
    | nil => rw [show owP (([] : List Pt).map G) = .nil from rfl, F120_58_eqn]; rfl
    | cons y pre =>
      rw [show owP ((y :: pre).map G) = .own ((y :: pre).map G).length (ptsC ((y :: pre).map G)) from rfl, F120_58_eqo, show decide ((((y :: pre).length : Nat) : Int) < (((y :: pre).length : Nat) : Int)) = false by simp, ifK_false]
      rfl
  | cons x r ih =>
    intro pre fuel hp hf
    obtain ⟨fuel, rfl⟩ : ∃ n, fuel = n + 1 := ⟨fuel - 1, by omega⟩
    have ih := ih (pre ++ [x]) fuel (by rw [← hp]; simp) (by simp at hf; omega)
    have hlen : pre.length < l.length := by rw [← hp]; simp
    have c0 : ∀ {γ : Type} (k : D → Option γ), cellK (ptsC l) (Int.toNat (pre.length : Int) * 2 + 0) k = k (.int .i64 x.1) := fun k => by rw [← hp]; exact q0 pre x r
    have c1 : ∀ {γ : Type} (k : D → Option γ), cellK (ptsC l) (Int.toNat (pre.length : Int) * 2 + 1) k = k (.int .i64 x.2) := fun k => by rw [← hp]; exact q1 pre x r
    have e0 : decide ((pre.length : Int) < (l.length : Int)) = true := by simp; omega
    have e1 : decide ((0 : Int) ≤ (pre.length : Int) ∧ (pre.length : Int) < (l.length : Int)) = true := decide_eq_true ⟨by omega, by omega⟩
    have e3 : IntKind.wrap .i64 ((pre.length : Int) + 1) = ((pre ++ [x]).length : Int) := (wrap_in (by omega)).trans (by simp)
    cases pre with
    | nil =>
      rw [show owP (([] : List Pt).map G) = .nil from rfl, F120_58_eqn, e0, ifK_true, e1, chkK_true, c0, intK_int, c1, intK_int]
      refine opt_step (hG x) ?_
      rw [rd_pt2, e3]
      exact ih
    | cons y pre =>
      rw [show owP ((y :: pre).map G) = .own ((y :: pre).map G).length (ptsC ((y :: pre).map G)) from rfl, F120_58_eqo, e0, ifK_true, e1, chkK_true, c0, intK_int, c1, intK_int]
      refine opt_step (hG x) ?_
      rw [rd_pt2, e3, pts_one, List.length_map, decide_eq_true (show ((y :: pre).length + 1) * 16 ≤ limit ∧ (y :: pre).length + 1 ≤ 9223372036854775807 from ⟨by unfold limit; omega, by omega⟩), chkK_true]
      rw [show owP ((y :: pre ++ [x]).map G) = .own ((y :: pre ++ [x]).map G).length (ptsC ((y :: pre ++ [x]).map G)) from rfl, List.map_append, List.length_append, List.length_map] at ih
      exact ih
end
theorem okfp_r : okFn Tryz.prog O0 Tryz.f120 = true := by kernel_rfl
theorem pl_r {f : Bool} {cq : Int} {cm : Bool} {cx cy : Int} {G : Pt → Pt} (hG : ∀ p : Pt, OK2 69 [.agg [.int .i64 cq, .bool cm, .int .i64 cx, .int .i64 cy], .agg [.int .i64 p.1, .int .i64 p.2]] (ptD (G p))) (l : List Pt) (hl : l.length ≤ 1000) : OK2 120 [.agg [.int .i64 cq, .bool cm, .int .i64 cx, .int .i64 cy], .slc f l.length (ptsC l)] (plD (l.map G)) := by
  obtain ⟨B, hb, e, _⟩ := exF [⟨69, Pt, fun p => [.agg [.int .i64 cq, .bool cm, .int .i64 cx, .int .i64 cy], .agg [.int .i64 p.1, .int .i64 p.2]], fun p => ptD (G p)⟩] ⟨⟨hG, fun (x y : Pt) e => by
    obtain ⟨x1, x2⟩ := x
    obtain ⟨y1, y2⟩ := y
    have e : ([.agg [.int .i64 cq, .bool cm, .int .i64 cx, .int .i64 cy], .agg [.int .i64 (x1, x2).1, .int .i64 (x1, x2).2]] : List D) = [.agg [.int .i64 cq, .bool cm, .int .i64 cx, .int .i64 cy], .agg [.int .i64 (y1, y2).1, .int .i64 (y1, y2).2]] := e
    simp only [List.cons.injEq, D.agg.injEq, D.int.injEq, true_and, and_true] at e
    rw [e.1, e.2], fun _ => rfl⟩, trivial⟩ rfl
  exact fnT hb Tryz.func120 (ord := O0) (N := N120) okfp_r ((F120_eq _ _ _ _ _ _ _ _ _ _ ).trans (pl_r_go (G := G) (fun p => e p) hl l [] LL rfl (by unfold LL; omega)))
section
variable {call : CL} {h : Hl} {cq : Int} {cm : Bool} {cx cy : Int} {G : Pt → Pt}
theorem hl_r_go (hG : ∀ (f : Bool) (l : List Pt), l.length ≤ 1000 → call 120 [.agg [.int .i64 cq, .bool cm, .int .i64 cx, .int .i64 cy], .slc f l.length (ptsC l)] = some (plD (l.map G))) (hk : h.Ok) : ∀ (r pre : List Ar) (fuel : Nat), pre ++ r = h.areas → r.length < fuel →
    F66_58 call LL C1 fuel cq cm cx cy h.name h.tee.1 h.tee.2 h.cup.1 h.cup.2 h.lf h.line.length (ptsC h.line) h.af h.areas.length (arsC h.areas) (pre.length : Int) (G h.tee).1 (G h.tee).2 (G h.cup).1 (G h.cup).2 (h.line.map G).isEmpty (h.line.map G).length (ptsC (h.line.map G)) (ownOw (pre.map (arM G))) = some (holeD (hlM G h)) := by
  intro r
  induction r with
  | nil =>
    intro pre fuel hp hf
    obtain ⟨fuel, rfl⟩ : ∃ n, fuel = n + 1 := ⟨fuel - 1, by omega⟩
    rw [List.append_nil] at hp
    have e0 : decide ((pre.length : Int) < (h.areas.length : Int)) = false := by rw [hp]; simp
    have hM : holeD (hlM G h) = .agg [.str h.name, .int .i64 (G h.tee).1, .int .i64 (G h.tee).2, .int .i64 (G h.cup).1, .int .i64 (G h.cup).2, .slc (h.line.map G).isEmpty (h.line.map G).length (ptsC (h.line.map G)), .slc (pre.map (arM G)).isEmpty (pre.map (arM G)).length (arsC (pre.map (arM G)))] := by rw [hp]; rfl
    rw [hM]
    cases pre with
    | nil =>
      rw [show ownOw (([] : List Ar).map (arM G)) = .nil from rfl, F66_58_eqn, e0, ifK_false]
      rfl
    | cons y pre =>
      rw [show ownOw ((y :: pre).map (arM G)) = .own ((y :: pre).map (arM G)).length (arsC ((y :: pre).map (arM G))) from rfl, F66_58_eqo, e0, ifK_false]
      rfl
  | cons x r ih =>
    intro pre fuel hp hf
    obtain ⟨fuel, rfl⟩ : ∃ n, fuel = n + 1 := ⟨fuel - 1, by omega⟩
    have ih := ih (pre ++ [x]) fuel (by rw [← hp]; simp) (by simp at hf; omega)
    have hlen : pre.length < h.areas.length := by rw [← hp]; simp
    have hxl : x.2.2.length ≤ 1000 := hk.c x (by rw [← hp]; simp)
    have hal := hk.a
    have e0 : decide ((pre.length : Int) < (h.areas.length : Int)) = true := by simp; omega
    have e1 : decide ((0 : Int) ≤ (pre.length : Int) ∧ (pre.length : Int) < (h.areas.length : Int)) = true := decide_eq_true ⟨by omega, by omega⟩
    have e3 : IntKind.wrap .i64 ((pre.length : Int) + 1) = ((pre ++ [x]).length : Int) := (wrap_in (by omega)).trans (by simp)
    have q0 : ∀ {γ : Type} (k : D → Option γ), cellK (arsC h.areas) (Int.toNat (pre.length : Int) * 2 + 0) k = k (.str x.1) := fun k => by rw [← hp]; exact a0 pre x r
    have q1 : ∀ {γ : Type} (k : D → Option γ), cellK (arsC h.areas) (Int.toNat (pre.length : Int) * 2 + 1) k = k (.slc x.2.1 x.2.2.length (ptsC x.2.2)) := fun k => by rw [← hp]; exact a1 pre x r
    cases pre with
    | nil =>
      rw [show ownOw (([] : List Ar).map (arM G)) = .nil from rfl, F66_58_eqn, e0, ifK_true, e1, chkK_true, q0, strK_str, chkK_true, q1, slcK_slc]
      refine opt_step (hG x.2.1 x.2.2 hxl) ?_
      rw [show plD (x.2.2.map G) = .slc (x.2.2.map G).isEmpty (x.2.2.map G).length (ptsC (x.2.2.map G)) from rfl, slcK_slc, e3]
      exact ih
    | cons y pre =>
      rw [show ownOw ((y :: pre).map (arM G)) = .own ((y :: pre).map (arM G)).length (arsC ((y :: pre).map (arM G))) from rfl, F66_58_eqo, e0, ifK_true, e1, chkK_true, q0, strK_str, chkK_true, q1, slcK_slc]
      refine opt_step (hG x.2.1 x.2.2 hxl) ?_
      have e4 : arsC ((y :: pre).map (arM G)) ++ [D.str x.1, D.slc (x.2.2.map G).isEmpty (x.2.2.map G).length (ptsC (x.2.2.map G))] = arsC ((y :: pre ++ [x]).map (arM G)) := by rw [List.map_append, arsC_app]; rfl
      rw [show plD (x.2.2.map G) = .slc (x.2.2.map G).isEmpty (x.2.2.map G).length (ptsC (x.2.2.map G)) from rfl, slcK_slc, e3, e4, List.length_map, decide_eq_true (show ((y :: pre).length + 1) * 40 ≤ limit ∧ (y :: pre).length + 1 ≤ 9223372036854775807 from ⟨by unfold limit; omega, by omega⟩), chkK_true]
      have e5 : ownOw ((y :: pre ++ [x]).map (arM G)) = .own ((y :: pre).length + 1) (arsC ((y :: pre ++ [x]).map (arM G))) := by
        show Ow.own ((y :: pre ++ [x]).map (arM G)).length _ = _
        rw [List.length_map, List.length_append]
        rfl
      rw [e5] at ih
      exact ih
end
theorem okfh_r : okFn Tryz.prog O66 Tryz.f66 = true := by kernel_rfl
theorem hl_r {cq : Int} {cm : Bool} {cx cy : Int} {G : Pt → Pt} (hG : ∀ p : Pt, OK2 69 [.agg [.int .i64 cq, .bool cm, .int .i64 cx, .int .i64 cy], .agg [.int .i64 p.1, .int .i64 p.2]] (ptD (G p))) (h : Hl) (hk : h.Ok) : OK2 66 [.agg [.int .i64 cq, .bool cm, .int .i64 cx, .int .i64 cy], holeD h] (holeD (hlM G h)) := by
  obtain ⟨B, hb, e, e2, _⟩ := exF [⟨69, Pt, fun p => [.agg [.int .i64 cq, .bool cm, .int .i64 cx, .int .i64 cy], .agg [.int .i64 p.1, .int .i64 p.2]], fun p => ptD (G p)⟩, ⟨120, {x : Bool × List Pt // x.2.length ≤ 1000}, fun x => [.agg [.int .i64 cq, .bool cm, .int .i64 cx, .int .i64 cy], .slc x.1.1 x.1.2.length (ptsC x.1.2)], fun x => plD (x.1.2.map G)⟩] ⟨⟨hG, fun (x y : Pt) e => by
    obtain ⟨x1, x2⟩ := x
    obtain ⟨y1, y2⟩ := y
    have e : ([.agg [.int .i64 cq, .bool cm, .int .i64 cx, .int .i64 cy], .agg [.int .i64 (x1, x2).1, .int .i64 (x1, x2).2]] : List D) = [.agg [.int .i64 cq, .bool cm, .int .i64 cx, .int .i64 cy], .agg [.int .i64 (y1, y2).1, .int .i64 (y1, y2).2]] := e
    simp only [List.cons.injEq, D.agg.injEq, D.int.injEq, true_and, and_true] at e
    rw [e.1, e.2], fun _ => rfl⟩, ⟨fun x => pl_r hG x.1.2 x.2, fun (x y : {x : Bool × List Pt // x.2.length ≤ 1000}) e => by
    have e : ([.agg [.int .i64 cq, .bool cm, .int .i64 cx, .int .i64 cy], .slc x.1.1 x.1.2.length (ptsC x.1.2)] : List D) = [.agg [.int .i64 cq, .bool cm, .int .i64 cx, .int .i64 cy], .slc y.1.1 y.1.2.length (ptsC y.1.2)] := e
    simp only [List.cons.injEq, D.slc.injEq, true_and, and_true] at e
    show plD (x.1.2.map G) = plD (y.1.2.map G)
    rw [ptsC_inj e.2.2], fun _ => rfl⟩, trivial⟩ rfl
  have f1 : ∀ p : Pt, callOf B 69 [.agg [.int .i64 cq, .bool cm, .int .i64 cx, .int .i64 cy], .agg [.int .i64 p.1, .int .i64 p.2]] = some (ptD (G p)) := fun p => e p
  have f2 : ∀ (f : Bool) (l : List Pt), l.length ≤ 1000 → callOf B 120 [.agg [.int .i64 cq, .bool cm, .int .i64 cx, .int .i64 cy], .slc f l.length (ptsC l)] = some (plD (l.map G)) := fun f l hl => e2 ⟨(f, l), hl⟩
  refine fnT hb Tryz.func66 (ord := O66) (N := N66) okfh_r ((F66_eq _ _ _ _ _ _ _ _ _ _ _ _ _ _ _ _ _ _ ).trans ?_)
  refine opt_step (f1 h.tee) ?_
  rw [rd_pt2]
  refine opt_step (f1 h.cup) ?_
  rw [rd_pt2]
  refine opt_step (f2 h.lf h.line hk.l) ?_
  rw [show plD (h.line.map G) = .slc (h.line.map G).isEmpty (h.line.map G).length (ptsC (h.line.map G)) from rfl, slcK_slc]
  have hal := hk.a
  have hgo := hl_r_go (G := G) f2 hk h.areas [] LL rfl (by unfold LL; omega)
  rw [show ownOw (([] : List Ar).map (arM G)) = .nil from rfl] at hgo
  exact hgo
end Go.Pd
end
section
namespace Go.Pd
open Go Go.Proofs
set_option maxRecDepth 100000
def N63 : NTab := fun p => match p with
  | 250 => some { keep := [4, 7, 41, 42, 43], kl := [2, 3, 10, 34], ren := [(2, 2), (3, 3), (4, 4), (7, 7), (10, 10), (34, 34)] }
  | _ => none
noncomputable def F63_250 (call : CL) (L : Nat) (C : Nat → Nat) (h : Nat) (K : Bool) (M : Nat) (z : List D) (O S : Int) (vx : ByteArray) (U V W X : Int) (a0 : Bool) (a1 : Nat) (Y : List D) (a3 : Bool) (a4 : Nat) (a2 : List D) : Option D :=
 loopAt (TEf call L C) O0 N63 FinM.canon Tryz.f63 [true, true, true, true, false, true, false] []  h (St.mk (J :: J :: J :: J :: D.loc 4 0 0 :: J :: J :: D.loc 7 0 0 :: jn 33 (D.slc K M z :: D.int .i64 O :: D.int .i64 S :: jn 12 [])) (Z :: Z :: Z :: Z :: (1, some (Ob.box [D.str (ByteArray.mk #[]), D.int .i64 0, D.int .i64 0, D.int .i64 0, D.int .i64 0, D.nils, D.nils] false)) :: Z :: Z :: (1, some (Ob.box [D.str vx, D.int .i64 U, D.int .i64 V, D.int .i64 W, D.int .i64 X, D.slc a0 a1 Y, D.slc a3 a4 a2] false)) :: zn 48 []))
theorem F63_250_eq (call : CL) (L : Nat) (C : Nat → Nat) (a1 : Nat) (a2 : Bool) (J : Nat) (z : List D) (K h : Int) (vx : ByteArray) (M O S U : Int) (W : Bool) (X : Nat) (V : List D) (Z : Bool) (a0 : Nat) (Y : List D) : F63_250 call L C  (a1 + 1)  a2 J z K h vx M O S U W X V Z a0 Y =
 (ifK (decide (h < K))
 (chkK (decide (0 ≤ h ∧ h < (J : Int)))
 (cellK z (Int.toNat h * 2 + 0) fun a5 =>
 (strK a5 fun _s_1 =>
 (cellK z (Int.toNat h * 2 + 1) fun a6 =>
 (slcK a6 fun a7 a8 a4 =>
 (optK (call 77 [D.slc a7 a8 a4]) fun a9 =>
 (intK .i64 a9 fun a3 =>
 (ifK (a3 != 0)
 (some (D.tup [D.agg [D.str (ByteArray.mk #[]), D.int .i64 0, D.int .i64 0, D.int .i64 0, D.int .i64 0, D.slc true 0 [], D.slc true 0 []], D.int .i64 a3]))
 (F63_250 call L C a1 a2 J z K (IntKind.wrap .i64 (h + 1)) vx M O S U W X V Z a0 Y)))))))))
 (some (D.tup [D.agg [D.str vx, D.int .i64 M, D.int .i64 O, D.int .i64 S, D.int .i64 U, D.slc W X V, D.slc Z a0 Y], D.int .i64 0]))) := by kernel_rfl
theorem F63_eq (call : CL) (L : Nat) (C : Nat → Nat) (X : ByteArray) (Y Z a0 a1 : Int) (a3 : Bool) (a4 : Nat) (a2 : List D) (a6 : Bool) (a7 : Nat) (a5 : List D) (V W : Int) : evFnT (TEf call L C) O0 N63 FinM.canon Tryz.f63 [D.agg [D.str X, D.int .i64 Y, D.int .i64 Z, D.int .i64 a0, D.int .i64 a1, D.slc a3 a4 a2, D.slc a6 a7 a5], D.agg [D.int .i64 V, D.int .i64 W]] =
 (optK (call 21 [D.agg [D.str X, D.int .i64 Y, D.int .i64 Z, D.int .i64 a0, D.int .i64 a1, D.slc a3 a4 a2, D.slc a6 a7 a5]]) fun r =>
 (intK .i64 r fun x =>
 (optK (call 77 [D.slc true 1 [D.int .i64 V, D.int .i64 W]]) fun ah =>
 (intK .i64 ah fun am =>
 (optK (call 76 [D.slc true 2 [D.int .i64 x, D.int .i64 am]]) fun ai =>
 (intK .i64 ai fun a8 =>
 (ifK (a8 != 0)
 (some (D.tup [D.agg [D.str (ByteArray.mk #[]), D.int .i64 0, D.int .i64 0, D.int .i64 0, D.int .i64 0, D.slc true 0 [], D.slc true 0 []], D.int .i64 a8]))
 (optK (call 117 [D.agg [D.fn (Fn.func 116) [] [D.snap [D.int .i64 V, D.int .i64 W] 0]], D.agg [D.str X, D.int .i64 Y, D.int .i64 Z, D.int .i64 a0, D.int .i64 a1, D.slc a3 a4 a2, D.slc a6 a7 a5]]) fun aj =>
 (aggK aj 7 fun c =>
 (cellK c 0 fun d =>
 (strK d fun s =>
 (cellK c 1 fun ab =>
 (intK .i64 ab fun M =>
 (cellK c 2 fun ac =>
 (intK .i64 ac fun O =>
 (cellK c 3 fun ad =>
 (intK .i64 ad fun S =>
 (cellK c 4 fun ae =>
 (intK .i64 ae fun U =>
 (cellK c 5 fun af =>
 (slcK af fun f n z =>
 (cellK c 6 fun ag =>
 (slcK ag fun K h J =>
 (chkK (decide (List.length z = n * 2))
 (chkK (List.all z D.one)
 (ifK (decide (n = 0))
 (optK (call 77 [D.slc true 2 [D.int .i64 M, D.int .i64 O, D.int .i64 S, D.int .i64 U]]) fun ak =>
 (intK .i64 ak fun a9 =>
 (ifK (a9 != 0)
 (some (D.tup [D.agg [D.str (ByteArray.mk #[]), D.int .i64 0, D.int .i64 0, D.int .i64 0, D.int .i64 0, D.slc true 0 [], D.slc true 0 []], D.int .i64 a9]))
 (F63_250 call L C L K h J ((h : Int)) 0 s M O S U f n z K h J))))
 (chkK (decide (0 < n ∧ 4 = 4 ∧ (2 + n) * 16 ≤ limit ∧ 2 + n ≤ 4611686018427387903))
 (optK (call 77 [D.slc false (2 + n) ([D.int .i64 M, D.int .i64 O, D.int .i64 S, D.int .i64 U] ++ z)]) fun al =>
 (intK .i64 al fun aa =>
 (ifK (aa != 0)
 (some (D.tup [D.agg [D.str (ByteArray.mk #[]), D.int .i64 0, D.int .i64 0, D.int .i64 0, D.int .i64 0, D.slc true 0 [], D.slc true 0 []], D.int .i64 aa]))
 (F63_250 call L C L K h J ((h : Int)) 0 s M O S U f n z K h J))))))))))))))))))))))))))))))) := by kernel_rfl
theorem F64_eq (call : CL) (L : Nat) (C : Nat → Nat) (h : ByteArray) (z J K M : Int) (S : Bool) (U : Nat) (O : List D) (W : Bool) (X : Nat) (V : List D) (Y : Int) : evFnT (TEf call L C) O0 N0 FinM.canon Tryz.f64 [D.agg [D.str h, D.int .i64 z, D.int .i64 J, D.int .i64 K, D.int .i64 M, D.slc S U O, D.slc W X V], D.int .i64 Y] =
 (optK (call 21 [D.agg [D.str h, D.int .i64 z, D.int .i64 J, D.int .i64 K, D.int .i64 M, D.slc S U O, D.slc W X V]]) fun r =>
 (intK .i64 r fun x =>
 (ifK (x != 0)
 (some (D.tup [D.agg [D.str (ByteArray.mk #[]), D.int .i64 0, D.int .i64 0, D.int .i64 0, D.int .i64 0, D.slc true 0 [], D.slc true 0 []], D.int .i64 x]))
 (optK (call 117 [D.agg [D.fn (Fn.func 118) [] [D.snap [D.int .i64 (Int.tmod (IntKind.wrap .i64 (Int.tmod Y 4 + 4)) 4)] 0]], D.agg [D.str h, D.int .i64 z, D.int .i64 J, D.int .i64 K, D.int .i64 M, D.slc S U O, D.slc W X V]]) fun a9 =>
 (aggK a9 7 fun c =>
 (cellK c 0 fun d =>
 (strK d fun s =>
 (cellK c 1 fun a1 =>
 (intK .i64 a1 fun aa =>
 (cellK c 2 fun a2 =>
 (intK .i64 a2 fun ab =>
 (cellK c 3 fun a3 =>
 (intK .i64 a3 fun ac =>
 (cellK c 4 fun a4 =>
 (intK .i64 a4 fun ad =>
 (cellK c 5 fun a5 =>
 (slcK a5 fun f n Z =>
 (cellK c 6 fun a6 =>
 (slcK a6 fun a7 a8 a0 =>
 (some (D.tup [D.agg [D.str s, D.int .i64 aa, D.int .i64 ab, D.int .i64 ac, D.int .i64 ad, D.slc f n Z, D.slc a7 a8 a0], D.int .i64 0]))))))))))))))))))))) := by kernel_rfl
theorem F65_eq (call : CL) (L : Nat) (C : Nat → Nat) (h : ByteArray) (z J K M : Int) (S : Bool) (U : Nat) (O : List D) (W : Bool) (X : Nat) (V : List D) : evFnT (TEf call L C) O0 N0 FinM.canon Tryz.f65 [D.agg [D.str h, D.int .i64 z, D.int .i64 J, D.int .i64 K, D.int .i64 M, D.slc S U O, D.slc W X V]] =
 (optK (call 21 [D.agg [D.str h, D.int .i64 z, D.int .i64 J, D.int .i64 K, D.int .i64 M, D.slc S U O, D.slc W X V]]) fun r =>
 (intK .i64 r fun x =>
 (ifK (x != 0)
 (some (D.tup [D.agg [D.str (ByteArray.mk #[]), D.int .i64 0, D.int .i64 0, D.int .i64 0, D.int .i64 0, D.slc true 0 [], D.slc true 0 []], D.int .i64 x]))
 (optK (call 117 [D.agg [D.fn (Fn.func 119) [] []], D.agg [D.str h, D.int .i64 z, D.int .i64 J, D.int .i64 K, D.int .i64 M, D.slc S U O, D.slc W X V]]) fun a8 =>
 (aggK a8 7 fun c =>
 (cellK c 0 fun d =>
 (strK d fun s =>
 (cellK c 1 fun a0 =>
 (intK .i64 a0 fun a9 =>
 (cellK c 2 fun a1 =>
 (intK .i64 a1 fun aa =>
 (cellK c 3 fun a2 =>
 (intK .i64 a2 fun ab =>
 (cellK c 4 fun a3 =>
 (intK .i64 a3 fun ac =>
 (cellK c 5 fun a4 =>
 (slcK a4 fun f n Y =>
 (cellK c 6 fun a5 =>
 (slcK a5 fun a6 a7 Z =>
 (some (D.tup [D.agg [D.str s, D.int .i64 a9, D.int .i64 aa, D.int .i64 ab, D.int .i64 ac, D.slc f n Y, D.slc a6 a7 Z], D.int .i64 0]))))))))))))))))))))) := by kernel_rfl
def N67 : NTab := fun p => match p with
  | 58 => some { keep := [1, 3, 4], kl := [], ren := [(1, 1), (13, 13), (28, 13)] }
  | 122 => some { keep := [3, 5], kl := [1], ren := [(1, 1), (13, 13), (28, 13)] }
  | _ => none
noncomputable def F67_122 (call : CL) (L : Nat) (C : Nat → Nat) (z : Nat) (h : Ow) (K : Int) : Option D :=
 loopAt (TEf call L C) O0 N67 FinM.canon Tryz.f67 [true, true, true, false, true, false] []  z (St.mk (J :: J :: J :: ownD 13 h :: J :: D.int .i64 K :: jn 35 []) (zn 13 (ownO 23 2 h :: zn 27 [])))
noncomputable def F67_58 (call : CL) (L : Nat) (C : Nat → Nat) (n : Nat) (z : ByteArray) (K M O S : Int) (V : Bool) (W : Nat) (U : List D) (Y : Bool) (a0 : Nat) (X : List D) (h : Ow) (vi : Int) : Option D :=
 loopAt (TEf call L C) O0 N67 FinM.canon Tryz.f67 [true, true, false, true, false] []  n (St.mk (J :: D.loc 1 0 0 :: J :: ownD 13 h :: D.int .i64 vi :: jn 36 []) (Z :: (1, some (Ob.box [D.str z, D.int .i64 K, D.int .i64 M, D.int .i64 O, D.int .i64 S, D.slc V W U, D.slc Y a0 X] false)) :: zn 11 (ownO 23 2 h :: zn 27 [])))
theorem F67_122_eqo (call : CL) (L : Nat) (C : Nat → Nat) (K J : Nat) (z : List D) (h : Int) : F67_122 call L C  (K + 1)  (Ow.own J z) h =
 (ifK (decide (h < (J : Int)))
 (chkK (decide (0 ≤ h ∧ h < (J : Int)))
 (cellK z (Int.toNat h * 2 + 0) fun M =>
 (intK .i64 M fun x =>
 (cellK z (Int.toNat h * 2 + 1) fun O =>
 (intK .i64 O fun S =>
 (optK (call 24 [D.agg [D.int .i64 x, D.int .i64 S]]) fun r =>
 (intK .i64 r fun U =>
 (ifK (U != 0)
 (some (D.bool false))
 (F67_122 call L C K (Ow.own J z) (IntKind.wrap .i64 (h + 1)))))))))))
 (some (D.bool true))) := by kernel_rfl
theorem F67_122_eqs (call : CL) (L : Nat) (C : Nat → Nat) (K : Nat) (M : Bool) (J : Nat) (z : List D) (h : Int) : F67_122 call L C  (K + 1)  (Ow.slc M J z) h =
 (ifK (decide (h < (J : Int)))
 (chkK (decide (0 ≤ h ∧ h < (J : Int)))
 (cellK z (Int.toNat h * 2 + 0) fun O =>
 (intK .i64 O fun V =>
 (cellK z (Int.toNat h * 2 + 1) fun S =>
 (intK .i64 S fun W =>
 (optK (call 24 [D.agg [D.int .i64 V, D.int .i64 W]]) fun U =>
 (intK .i64 U fun X =>
 (ifK (X != 0)
 (some (D.bool false))
 (F67_122 call L C K (Ow.slc M J z) (IntKind.wrap .i64 (h + 1)))))))))))
 (some (D.bool true))) := by kernel_rfl
theorem F67_58_eqo (call : CL) (L : Nat) (C : Nat → Nat) (n : Nat) (U : ByteArray) (V W X Y : Int) (a0 : Bool) (a1 : Nat) (Z : List D) (a2 : Bool) (K : Nat) (S : List D) (z : Nat) (O : List D) (h : Int) : F67_58 call L C  (n + 1) U V W X Y a0 a1 Z a2 K S (Ow.own z O) h =
 (ifK (decide (h < (K : Int)))
 (chkK (decide (0 ≤ h ∧ h < (K : Int)))
 (cellK S (Int.toNat h * 2 + 1) fun a3 =>
 (slcK a3 fun _f_1 J M =>
 (chkK (decide (List.length M = J * 2))
 (chkK (List.all M D.one)
 (chkK (decide ((z + J) * 16 ≤ limit ∧ z + J ≤ 9223372036854775807))
 (F67_58 call L C n U V W X Y a0 a1 Z a2 K S (Ow.own (z + J) (O ++ M)) (IntKind.wrap .i64 (h + 1)))))))))
 (F67_122 call L C L (Ow.own z O) 0)) := by kernel_rfl
theorem F67_58_eqs (call : CL) (L : Nat) (C : Nat → Nat) (n : Nat) (V : ByteArray) (W X Y Z : Int) (a1 : Bool) (a2 : Nat) (a0 : List D) (a3 : Bool) (M : Nat) (S : List D) (O : Bool) (h : Nat) (K : List D) (z : Int) : F67_58 call L C  (n + 1) V W X Y Z a1 a2 a0 a3 M S (Ow.slc O h K) z =
 (ifK (decide (z < (M : Int)))
 (chkK (decide (0 ≤ z ∧ z < (M : Int)))
 (cellK S (Int.toNat z * 2 + 1) fun a4 =>
 (slcK a4 fun _f_2 J U =>
 (chkK (decide (List.length U = J * 2))
 (chkK (List.all U D.one)
 (ifK (decide (J = 0))
 (F67_58 call L C n V W X Y Z a1 a2 a0 a3 M S (Ow.slc O h K) (IntKind.wrap .i64 (z + 1)))
 (chkK O
 (chkK (decide (0 < J ∧ List.length K = h * 2 ∧ (h + J) * 16 ≤ limit ∧ h + J ≤ 4611686018427387903))
 (F67_58 call L C n V W X Y Z a1 a2 a0 a3 M S (Ow.own (h + J) (K ++ U)) (IntKind.wrap .i64 (z + 1)))))))))))
 (F67_122 call L C L (Ow.slc O h K) 0)) := by kernel_rfl
theorem F67_eq (call : CL) (L : Nat) (C : Nat → Nat) (S : ByteArray) (J K M O : Int) (U : Bool) (h : Nat) (z : List D) (W : Bool) (X : Nat) (V : List D) : evFnT (TEf call L C) O0 N67 FinM.canon Tryz.f67 [D.agg [D.str S, D.int .i64 J, D.int .i64 K, D.int .i64 M, D.int .i64 O, D.slc U h z, D.slc W X V]] =
 (chkK (decide (List.length z = h * 2))
 (chkK (List.all z D.one)
 (ifK (decide (h = 0))
 (F67_58 call L C L S J K M O U h z W X V (Ow.slc true 2 [D.int .i64 J, D.int .i64 K, D.int .i64 M, D.int .i64 O]) 0)
 (chkK (decide (0 < h ∧ 4 = 4 ∧ (2 + h) * 16 ≤ limit ∧ 2 + h ≤ 4611686018427387903))
 (F67_58 call L C L S J K M O U h z W X V (Ow.own (2 + h) ([D.int .i64 J, D.int .i64 K, D.int .i64 M, D.int .i64 O] ++ z)) 0))))) := by kernel_rfl
def N68 : NTab := fun p => match p with
  | 7 => some { keep := [2, 3], kl := [], ren := [(2, 2), (3, 3)] }
  | 58 => some { keep := [2, 3, 5], kl := [], ren := [(2, 2), (3, 3)] }
  | _ => none
noncomputable def F68_58 (call : CL) (L : Nat) (C : Nat → Nat) (h : Nat) (z : ByteArray) (K M O S : Int) (V : Bool) (W : Nat) (U : List D) (Y : Bool) (a0 : Nat) (X : List D) (a1 : ByteArray) (a2 a3 a4 a5 : Int) (a7 : Bool) (a8 : Nat) (a6 : List D) (aa : Bool) (ab : Nat) (a9 : List D) (vi : Int) : Option D :=
 loopAt (TEf call L C) O0 N68 FinM.canon Tryz.f68 [true, true, false, true, false] []  h (St.mk (J :: J :: D.loc 2 0 0 :: D.loc 3 0 0 :: J :: D.int .i64 vi :: jn 72 []) (Z :: Z :: (1, some (Ob.box [D.str z, D.int .i64 K, D.int .i64 M, D.int .i64 O, D.int .i64 S, D.slc V W U, D.slc Y a0 X] false)) :: (1, some (Ob.box [D.str a1, D.int .i64 a2, D.int .i64 a3, D.int .i64 a4, D.int .i64 a5, D.slc a7 a8 a6, D.slc aa ab a9] false)) :: zn 74 []))
noncomputable def F68_7 (call : CL) (L : Nat) (C : Nat → Nat) (h : ByteArray) (z K M O : Int) (U : Bool) (V : Nat) (S : List D) (X : Bool) (Y : Nat) (W : List D) (a0 : ByteArray) (a1 a2 a3 a4 : Int) (a6 : Bool) (a7 : Nat) (a5 : List D) (a9 : Bool) (aa : Nat) (a8 : List D) : Option D :=
 cutAt (TEf call L C) O0 N68 FinM.canon Tryz.f68 [true, true] []  (C 7) (St.mk (J :: J :: D.loc 2 0 0 :: D.loc 3 0 0 :: jn 74 []) (Z :: Z :: (1, some (Ob.box [D.str h, D.int .i64 z, D.int .i64 K, D.int .i64 M, D.int .i64 O, D.slc U V S, D.slc X Y W] false)) :: (1, some (Ob.box [D.str a0, D.int .i64 a1, D.int .i64 a2, D.int .i64 a3, D.int .i64 a4, D.slc a6 a7 a5, D.slc a9 aa a8] false)) :: zn 74 []))
theorem F68_58_eq (call : CL) (L : Nat) (C : Nat → Nat) (O : Nat) (S : ByteArray) (U V W X : Int) (Z : Bool) (a0 : Nat) (Y : List D) (a1 : Bool) (z : Nat) (J : List D) (a2 : ByteArray) (a3 a4 a5 a6 : Int) (a8 : Bool) (a9 : Nat) (a7 : List D) (aa : Bool) (M : Nat) (K : List D) (h : Int) : F68_58 call L C  (O + 1) S U V W X Z a0 Y a1 z J a2 a3 a4 a5 a6 a8 a9 a7 aa M K h =
 (ifK (decide (h < (z : Int)))
 (chkK (decide (0 ≤ h ∧ h < (z : Int)))
 (cellK J (Int.toNat h * 2 + 0) fun d =>
 (strK d fun s =>
 (chkK (decide (0 ≤ h ∧ h < (M : Int)))
 (cellK K (Int.toNat h * 2 + 0) fun ad =>
 (strK ad fun ak =>
 (ifK (!ByteArray.toList s == ByteArray.toList ak)
 (some (D.bool false))
 (chkK (decide (0 ≤ h ∧ h < (z : Int)))
 (cellK J (Int.toNat h * 2 + 1) fun ae =>
 (slcK ae fun f ah c =>
 (chkK (decide (0 ≤ h ∧ h < (M : Int)))
 (cellK K (Int.toNat h * 2 + 1) fun af =>
 (slcK af fun ag ai ac =>
 (optK (call 121 [D.slc f ah c, D.slc ag ai ac]) fun aj =>
 (boolK aj fun ab =>
 (ifK (!ab)
 (some (D.bool false))
 (F68_58 call L C O S U V W X Z a0 Y a1 z J a2 a3 a4 a5 a6 a8 a9 a7 aa M K (IntKind.wrap .i64 (h + 1)))))))))))))))))))
 (some (D.bool true))) := by kernel_rfl
theorem F68_7_eq (call : CL) (L : Nat) (C : Nat → Nat) (h : ByteArray) (z J K M : Int) (S : Bool) (U : Nat) (O : List D) (W : Bool) (X : Nat) (V : List D) (Y : ByteArray) (Z a0 a1 a2 : Int) (a4 : Bool) (a5 : Nat) (a3 : List D) (a7 : Bool) (a8 : Nat) (a6 : List D) (hC : ∀ t, C t = 1) : F68_7 call L C  h z J K M S U O W X V Y Z a0 a1 a2 a4 a5 a3 a7 a8 a6  =
 (F68_58 call L C L h z J K M S U O W X V Y Z a0 a1 a2 a4 a5 a3 a7 a8 a6 0) := by
  unfold F68_7
  rw [hC]
  kernel_rfl
theorem F68_eq (call : CL) (L : Nat) (C : Nat → Nat) (h : ByteArray) (z J K M : Int) (S : Bool) (U : Nat) (O : List D) (a6 : Bool) (V : Nat) (a5 : List D) (W : ByteArray) (X Y Z a0 : Int) (a2 : Bool) (a3 : Nat) (a1 : List D) (a8 : Bool) (a4 : Nat) (a7 : List D) : evFnT (TEf call L C) O0 N68 FinM.canon Tryz.f68 [D.agg [D.str h, D.int .i64 z, D.int .i64 J, D.int .i64 K, D.int .i64 M, D.slc S U O, D.slc a6 V a5], D.agg [D.str W, D.int .i64 X, D.int .i64 Y, D.int .i64 Z, D.int .i64 a0, D.slc a2 a3 a1, D.slc a8 a4 a7]] =
 (ifK (!ByteArray.toList h == ByteArray.toList W)
 (some (D.bool false))
 (ifK (!(z == X && (J == Y && true)))
 (some (D.bool false))
 (ifK (!(K == Z && (M == a0 && true)))
 (some (D.bool false))
 (optK (call 121 [D.slc S U O, D.slc a2 a3 a1]) fun r =>
 (boolK r fun b =>
 (ifK (!b)
 (some (D.bool false))
 (ifK ((V : Int) != (a4 : Int))
 (some (D.bool false))
 (F68_7 call L C h z J K M S U O a6 V a5 W X Y Z a0 a2 a3 a1 a8 a4 a7)))))))) := by kernel_rfl
def N121 : NTab := fun p => match p with
  | 58 => some { keep := [0, 1, 5], kl := [], ren := [] }
  | _ => none
noncomputable def F121_58 (call : CL) (L : Nat) (C : Nat → Nat) (n : Nat) (z : Bool) (K : Nat) (h : List D) (O : Bool) (S : Nat) (M : List D) (U : Int) : Option D :=
 loopAt (TEf call L C) O0 N121 FinM.canon Tryz.f121 [true, true, false, true, false] []  n (St.mk (D.slc z K h :: D.slc O S M :: J :: J :: J :: D.int .i64 U :: jn 20 []) (zn 26 []))
theorem F121_58_eq (call : CL) (L : Nat) (C : Nat → Nat) (n : Nat) (O : Bool) (J : Nat) (z : List D) (S : Bool) (M : Nat) (K : List D) (h : Int) : F121_58 call L C  (n + 1) O J z S M K h =
 (ifK (decide (h < (J : Int)))
 (chkK (decide (0 ≤ h ∧ h < (J : Int)))
 (cellK z (Int.toNat h * 2 + 0) fun d =>
 (intK .i64 d fun x =>
 (cellK z (Int.toNat h * 2 + 1) fun U =>
 (intK .i64 U fun X =>
 (chkK (decide (0 ≤ h ∧ h < (M : Int)))
 (cellK K (Int.toNat h * 2 + 0) fun V =>
 (intK .i64 V fun Y =>
 (cellK K (Int.toNat h * 2 + 1) fun W =>
 (intK .i64 W fun Z =>
 (ifK (!(x == Y && (X == Z && true)))
 (some (D.bool false))
 (F121_58 call L C n O J z S M K (IntKind.wrap .i64 (h + 1))))))))))))))
 (some (D.bool true))) := by kernel_rfl
theorem F121_eq (call : CL) (L : Nat) (C : Nat → Nat) (K : Bool) (h : Nat) (J : List D) (O : Bool) (z : Nat) (M : List D) : evFnT (TEf call L C) O0 N121 FinM.canon Tryz.f121 [D.slc K h J, D.slc O z M] =
 (ifK ((h : Int) != (z : Int))
 (some (D.bool false))
 (F121_58 call L C L K h J O z M 0)) := by kernel_rfl
end Go.Pd
end
section
namespace Go.Pd
open Go Go.Proofs Go.RowKit
set_option maxRecDepth 100000
/-! ### Places that are moved -/
def mvG (bx by_ : Int) (p : Pt) : Pt := (w64 (p.1 + bx), w64 (p.2 + by_))
def rotN : Nat → Pt → Pt
  | 0, p => p
  | n + 1, p => rotN n (w64 (0 - p.2), p.1)
def mirG (p : Pt) : Pt := (w64 (0 - p.1), p.2)
def qN (q : Int) : Nat := (Int.tmod (Int.tmod q 4 + 4) 4).toNat
theorem tmod4 (q : Int) : -3 ≤ Int.tmod q 4 ∧ Int.tmod q 4 ≤ 3 := by
  have h1 := Int.tmod_lt_of_pos q (show (0 : Int) < 4 by omega)
  have h2 := Int.lt_tmod_of_pos q (show (0 : Int) < 4 by omega)
  omega
theorem qN_eq (q : Int) : Int.tmod (IntKind.wrap .i64 (Int.tmod q 4 + 4)) 4 = (qN q : Int) ∧ qN q ≤ 3 := by
  have h := tmod4 q
  rw [show IntKind.wrap .i64 (Int.tmod q 4 + 4) = Int.tmod q 4 + 4 from wrap_in (by omega)]
  have h1 := Int.tmod_lt_of_pos (Int.tmod q 4 + 4) (show (0 : Int) < 4 by omega)
  have h2 := Int.tmod_nonneg 4 (show (0 : Int) ≤ Int.tmod q 4 + 4 by omega)
  unfold qN
  omega
theorem qN_mod (q : Int) : qN (Int.tmod q 4) = qN q := by
  unfold qN
  rw [Int.tmod_tmod]
def chG (q : Int) (m : Bool) (bx by_ : Int) (p : Pt) : Pt := (w64 (ifK m (w64 (0 - (rotN (qN q) p).1)) (rotN (qN q) p).1 + bx), w64 ((rotN (qN q) p).2 + by_))
theorem okf116 : okFn Tryz.prog O0 Tryz.f116 = true := by kernel_rfl
theorem okf118 : okFn Tryz.prog O0 Tryz.f118 = true := by kernel_rfl
theorem okf119 : okFn Tryz.prog O0 Tryz.f119 = true := by kernel_rfl
theorem okf69 : okFn Tryz.prog O0 Tryz.f69 = true := by kernel_rfl
theorem ok116 {bx by_ : Int} (p : Pt) : OK2 116 [.agg [.int .i64 p.1, .int .i64 p.2], .snap [.int .i64 bx, .int .i64 by_] 0] (ptD (mvG bx by_ p)) :=
  fnT none_ok Tryz.func116 (ord := O0) (N := N0) okf116 (F116_eq _ _ _ p.1 p.2 bx by_)
theorem ok119 (p : Pt) : OK2 119 [.agg [.int .i64 p.1, .int .i64 p.2]] (ptD (mirG p)) :=
  fnT none_ok Tryz.func119 (ord := O0) (N := N0) okf119 (F119_eq _ _ _ p.1 p.2)
theorem go118 {call : CL} {n : Nat} (hn : n ≤ 3) : ∀ (k t fuel : Nat) (p : Pt), t + k = n → k < fuel → F118_26 call LL C1 fuel (n : Int) (t : Int) p.1 p.2 = some (ptD (rotN k p))
  | 0, t, fuel, p, ht, hf => by
    obtain ⟨fuel, rfl⟩ : ∃ n, fuel = n + 1 := ⟨fuel - 1, by omega⟩
    rw [F118_26_eq, show decide ((t : Int) < (n : Int)) = false by simp; omega, ifK_false]
    rfl
  | k + 1, t, fuel, p, ht, hf => by
    obtain ⟨fuel, rfl⟩ : ∃ n, fuel = n + 1 := ⟨fuel - 1, by omega⟩
    rw [F118_26_eq, show decide ((t : Int) < (n : Int)) = true by simp; omega, ifK_true, show IntKind.wrap .i64 ((t : Int) + 1) = ((t + 1 : Nat) : Int) from (wrap_in (by omega)).trans (by omega)]
    exact go118 hn k (t + 1) fuel (w64 (0 - p.2), p.1) (by omega) (by omega)
theorem ok118 {q : Int} (p : Pt) : OK2 118 [.agg [.int .i64 p.1, .int .i64 p.2], .snap [.int .i64 (qN q : Int)] 0] (ptD (rotN (qN q) p)) := by
  have hq := (qN_eq q).2
  exact fnT none_ok Tryz.func118 (ord := O0) (N := N118) okf118 ((F118_eq _ _ _ p.1 p.2 _).trans (go118 hq (qN q) 0 LL p (Nat.zero_add _) (by unfold LL; omega)))
theorem go69 {call : CL} {q bx by_ : Int} {m : Bool} : ∀ (k t fuel : Nat) (p : Pt), t + k = qN q → k < fuel → F69_26 call LL C1 fuel q m bx by_ (t : Int) p.1 p.2 = some (ptD (w64 (ifK m (w64 (0 - (rotN k p).1)) (rotN k p).1 + bx), w64 ((rotN k p).2 + by_)))
  | 0, t, fuel, p, ht, hf => by
    obtain ⟨fuel, rfl⟩ : ∃ n, fuel = n + 1 := ⟨fuel - 1, by omega⟩
    rw [F69_26_eq, (qN_eq q).1, show decide ((t : Int) < (qN q : Int)) = false by simp; omega, ifK_false]
    cases m <;> rfl
  | k + 1, t, fuel, p, ht, hf => by
    obtain ⟨fuel, rfl⟩ : ∃ n, fuel = n + 1 := ⟨fuel - 1, by omega⟩
    have hq := (qN_eq q).2
    rw [F69_26_eq, (qN_eq q).1, show decide ((t : Int) < (qN q : Int)) = true by simp; omega, ifK_true, show IntKind.wrap .i64 ((t : Int) + 1) = ((t + 1 : Nat) : Int) from (wrap_in (by omega)).trans (by omega)]
    exact go69 k (t + 1) fuel (w64 (0 - p.2), p.1) (by omega) (by omega)
theorem ok69 {q : Int} {m : Bool} {bx by_ : Int} (p : Pt) : OK2 69 [.agg [.int .i64 q, .bool m, .int .i64 bx, .int .i64 by_], .agg [.int .i64 p.1, .int .i64 p.2]] (ptD (chG q m bx by_ p)) := by
  have hq := (qN_eq q).2
  exact fnT none_ok Tryz.func69 (ord := O0) (N := N69) okf69 ((F69_eq _ _ _ q m bx by_ p.1 p.2).trans (go69 (qN q) 0 LL p (Nat.zero_add _) (by unfold LL; omega)))
/-! ### The same -/
theorem go121 {call : CL} {f g : Bool} {l : List Pt} (hl : l.length ≤ 1000) : ∀ (r pre : List Pt) (fuel : Nat), pre ++ r = l → r.length < fuel → F121_58 call LL C1 fuel f l.length (ptsC l) g l.length (ptsC l) (pre.length : Int) = some (.bool true) := by
  intro r
  induction r with
  | nil =>
    intro pre fuel hp hf
    obtain ⟨fuel, rfl⟩ : ∃ n, fuel = n + 1 := ⟨fuel - 1, by omega⟩
    rw [List.append_nil] at hp
    rw [F121_58_eq, show decide ((pre.length : Int) < (l.length : Int)) = false by rw [hp]; simp, ifK_false]
  | cons x r ih =>
    intro pre fuel hp hf
    obtain ⟨fuel, rfl⟩ : ∃ n, fuel = n + 1 := ⟨fuel - 1, by omega⟩
    have ih := ih (pre ++ [x]) fuel (by rw [← hp]; simp) (by simp at hf; omega)
    have hlen : pre.length < l.length := by rw [← hp]; simp
    have c0 : ∀ {γ : Type} (k : D → Option γ), cellK (ptsC l) (Int.toNat (pre.length : Int) * 2 + 0) k = k (.int .i64 x.1) := fun k => by rw [← hp]; exact q0 pre x r
    have c1 : ∀ {γ : Type} (k : D → Option γ), cellK (ptsC l) (Int.toNat (pre.length : Int) * 2 + 1) k = k (.int .i64 x.2) := fun k => by rw [← hp]; exact q1 pre x r
    have e1 : decide ((0 : Int) ≤ (pre.length : Int) ∧ (pre.length : Int) < (l.length : Int)) = true := decide_eq_true ⟨by omega, by omega⟩
    have e3 : IntKind.wrap .i64 ((pre.length : Int) + 1) = ((pre ++ [x]).length : Int) := (wrap_in (by omega)).trans (by simp)
    rw [F121_58_eq, show decide ((pre.length : Int) < (l.length : Int)) = true by simp; omega, ifK_true, e1, chkK_true, c0, intK_int, c1, intK_int, chkK_true, c0, intK_int, c1, intK_int, show (!(x.1 == x.1 && (x.2 == x.2 && true))) = false by simp, ifK_false, e3]
    exact ih
theorem okf121 : okFn Tryz.prog O0 Tryz.f121 = true := by kernel_rfl
theorem ok121 {f g : Bool} (l : List Pt) (hl : l.length ≤ 1000) : OK2 121 [.slc f l.length (ptsC l), .slc g l.length (ptsC l)] (.bool true) := by
  refine fnT none_ok Tryz.func121 (ord := O0) (N := N121) okf121 ((F121_eq _ _ _ _ _ _ _ _ _).trans ?_)
  rw [show ((l.length : Int) != (l.length : Int)) = false by simp, ifK_false]
  exact go121 hl l [] LL rfl (by unfold LL; omega)
theorem go68 {call : CL} {h : Hl} (hk : h.Ok) (h121 : ∀ (f : Bool) (l : List Pt), l.length ≤ 1000 → call 121 [.slc f l.length (ptsC l), .slc f l.length (ptsC l)] = some (.bool true)) : ∀ (r pre : List Ar) (fuel : Nat), pre ++ r = h.areas → r.length < fuel →
    F68_58 call LL C1 fuel h.name h.tee.1 h.tee.2 h.cup.1 h.cup.2 h.lf h.line.length (ptsC h.line) h.af h.areas.length (arsC h.areas) h.name h.tee.1 h.tee.2 h.cup.1 h.cup.2 h.lf h.line.length (ptsC h.line) h.af h.areas.length (arsC h.areas) (pre.length : Int) = some (.bool true) := by
  have hal := hk.a
  intro r
  induction r with
  | nil =>
    intro pre fuel hp hf
    obtain ⟨fuel, rfl⟩ : ∃ n, fuel = n + 1 := ⟨fuel - 1, by omega⟩
    rw [List.append_nil] at hp
    rw [F68_58_eq, show decide ((pre.length : Int) < (h.areas.length : Int)) = false by rw [hp]; simp, ifK_false]
  | cons x r ih =>
    intro pre fuel hp hf
    obtain ⟨fuel, rfl⟩ : ∃ n, fuel = n + 1 := ⟨fuel - 1, by omega⟩
    have ih := ih (pre ++ [x]) fuel (by rw [← hp]; simp) (by simp at hf; omega)
    have hlen : pre.length < h.areas.length := by rw [← hp]; simp
    have hxl : x.2.2.length ≤ 1000 := hk.c x (by rw [← hp]; simp)
    have e1 : decide ((0 : Int) ≤ (pre.length : Int) ∧ (pre.length : Int) < (h.areas.length : Int)) = true := decide_eq_true ⟨by omega, by omega⟩
    have e3 : IntKind.wrap .i64 ((pre.length : Int) + 1) = ((pre ++ [x]).length : Int) := (wrap_in (by omega)).trans (by simp)
    have c0 : ∀ {γ : Type} (k : D → Option γ), cellK (arsC h.areas) (Int.toNat (pre.length : Int) * 2 + 0) k = k (.str x.1) := fun k => by rw [← hp]; exact a0 pre x r
    have c1 : ∀ {γ : Type} (k : D → Option γ), cellK (arsC h.areas) (Int.toNat (pre.length : Int) * 2 + 1) k = k (.slc x.2.1 x.2.2.length (ptsC x.2.2)) := fun k => by rw [← hp]; exact a1 pre x r
    rw [F68_58_eq, show decide ((pre.length : Int) < (h.areas.length : Int)) = true by simp; omega, ifK_true, e1, chkK_true, c0, strK_str, chkK_true, c0, strK_str, show (!ByteArray.toList x.1 == ByteArray.toList x.1) = false by simp, ifK_false, chkK_true, c1, slcK_slc, chkK_true, c1, slcK_slc]
    refine opt_step (h121 x.2.1 x.2.2 hxl) ?_
    rw [boolK_bool, Bool.not_true, ifK_false, e3]
    exact ih
theorem okf68 : okFn Tryz.prog O0 Tryz.f68 = true := by kernel_rfl
def fam121 : Fam := ⟨121, {x : Bool × List Pt // x.2.length ≤ 1000}, fun x => [.slc x.1.1 x.1.2.length (ptsC x.1.2), .slc x.1.1 x.1.2.length (ptsC x.1.2)], fun _ => .bool true⟩
theorem fam121_good : fam121.Good := ⟨fun x => ok121 x.1.2 x.2, fun _ _ _ => rfl, fun _ => rfl⟩
theorem ok68 (h : Hl) (hk : h.Ok) : OK2 68 [holeD h, holeD h] (.bool true) := by
  obtain ⟨B, hb, e121, _⟩ := exF [fam121] ⟨fam121_good, trivial⟩ rfl
  have f121 : ∀ (f : Bool) (l : List Pt), l.length ≤ 1000 → callOf B 121 [.slc f l.length (ptsC l), .slc f l.length (ptsC l)] = some (.bool true) := fun f l hl => e121 ⟨(f, l), hl⟩
  have hal := hk.a
  refine fnT hb Tryz.func68 (ord := O0) (N := N68) okf68 ((F68_eq _ _ _ h.name h.tee.1 h.tee.2 h.cup.1 h.cup.2 h.lf h.line.length (ptsC h.line) h.af h.areas.length (arsC h.areas) h.name h.tee.1 h.tee.2 h.cup.1 h.cup.2 h.lf h.line.length (ptsC h.line) h.af h.areas.length (arsC h.areas)).trans ?_)
  rw [show (!ByteArray.toList h.name == ByteArray.toList h.name) = false by simp, ifK_false, show (!(h.tee.1 == h.tee.1 && (h.tee.2 == h.tee.2 && true))) = false by simp, ifK_false, show (!(h.cup.1 == h.cup.1 && (h.cup.2 == h.cup.2 && true))) = false by simp, ifK_false]
  refine opt_step (f121 h.lf h.line hk.l) ?_
  rw [boolK_bool, Bool.not_true, ifK_false, show ((h.areas.length : Int) != (h.areas.length : Int)) = false by simp, ifK_false, F68_7_eq (C := C1) (hC := fun _ => rfl)]
  exact go68 hk f121 h.areas [] LL rfl (by unfold LL; omega)
/-! ### Inside -/
def outH (h : Hl) : Bool := ifK (([h.tee, h.cup] ++ h.line).any outP) true (h.areas.any fun a => a.2.2.any outP)
def ow67 (b : Bool) (all : List Pt) : Ow := match b with
  | true => .own all.length (ptsC all)
  | false => .slc true all.length (ptsC all)
theorem ptsC_ones : ∀ l : List Pt, (ptsC l).all D.one = true
  | [] => rfl
  | _ :: l => ptsC_ones l
section
variable {call : CL} {h : Hl}
theorem go67i (h24 : ∀ p : Pt, call 24 [ptD p] = some (.int .i64 (ifK (outP p) 3 0))) {b : Bool} {l : List Pt} (hl : l.length < 4611686018427387903) : ∀ (r pre : List Pt) (fuel : Nat), pre ++ r = l → r.length < fuel → F67_122 call LL C1 fuel (ow67 b l) (pre.length : Int) = some (.bool (!r.any outP)) := by
  intro r
  induction r with
  | nil =>
    intro pre fuel hp hf
    obtain ⟨fuel, rfl⟩ : ∃ n, fuel = n + 1 := ⟨fuel - 1, by omega⟩
    rw [List.append_nil] at hp
    have e0 : decide ((pre.length : Int) < (l.length : Int)) = false := by rw [hp]; simp
    cases b
    · rw [show ow67 false l = .slc true l.length (ptsC l) from rfl, F67_122_eqs, e0]; rfl
    · rw [show ow67 true l = .own l.length (ptsC l) from rfl, F67_122_eqo, e0]; rfl
  | cons x r ih =>
    intro pre fuel hp hf
    obtain ⟨fuel, rfl⟩ : ∃ n, fuel = n + 1 := ⟨fuel - 1, by omega⟩
    have ih := ih (pre ++ [x]) fuel (by rw [← hp]; simp) (by simp at hf; omega)
    have hlen : pre.length < l.length := by rw [← hp]; simp
    have c0 : ∀ {γ : Type} (k : D → Option γ), cellK (ptsC l) (Int.toNat (pre.length : Int) * 2 + 0) k = k (.int .i64 x.1) := fun k => by rw [← hp]; exact q0 pre x r
    have c1 : ∀ {γ : Type} (k : D → Option γ), cellK (ptsC l) (Int.toNat (pre.length : Int) * 2 + 1) k = k (.int .i64 x.2) := fun k => by rw [← hp]; exact q1 pre x r
    have e0 : decide ((pre.length : Int) < (l.length : Int)) = true := by simp; omega
    have e1 : decide ((0 : Int) ≤ (pre.length : Int) ∧ (pre.length : Int) < (l.length : Int)) = true := decide_eq_true ⟨by omega, by omega⟩
    have e3 : IntKind.wrap .i64 ((pre.length : Int) + 1) = ((pre ++ [x]).length : Int) := (wrap_in (by omega)).trans (by simp)
    have hx := h24 x
    cases b
    · rw [show ow67 false l = .slc true l.length (ptsC l) from rfl] at ih ⊢
      rw [F67_122_eqs, e0, ifK_true, e1, chkK_true, c0, intK_int, c1, intK_int]
      refine opt_step hx ?_
      rw [intK_int, e3, ih, List.any_cons]
      cases outP x <;> rfl
    · rw [show ow67 true l = .own l.length (ptsC l) from rfl] at ih ⊢
      rw [F67_122_eqo, e0, ifK_true, e1, chkK_true, c0, intK_int, c1, intK_int]
      refine opt_step hx ?_
      rw [intK_int, e3, ih, List.any_cons]
      cases outP x <;> rfl
theorem go67 (hk : h.Ok) (h24 : ∀ p : Pt, call 24 [ptD p] = some (.int .i64 (ifK (outP p) 3 0))) : ∀ (r pre : List Ar) (b : Bool) (all : List Pt) (fuel : Nat), pre ++ r = h.areas → all.length + 1000 * r.length ≤ 2000000 → r.length < fuel →
    F67_58 call LL C1 fuel h.name h.tee.1 h.tee.2 h.cup.1 h.cup.2 h.lf h.line.length (ptsC h.line) h.af h.areas.length (arsC h.areas) (ow67 b all) (pre.length : Int) = some (.bool (!(ifK (all.any outP) true (r.any fun a => a.2.2.any outP)))) := by
  have hal := hk.a
  intro r
  induction r with
  | nil =>
    intro pre b all fuel hp ha hf
    obtain ⟨fuel, rfl⟩ : ∃ n, fuel = n + 1 := ⟨fuel - 1, by omega⟩
    rw [List.append_nil] at hp
    have e0 : decide ((pre.length : Int) < (h.areas.length : Int)) = false := by rw [hp]; simp
    have hi := go67i (b := b) h24 (l := all) (by simp at ha; omega) all [] LL rfl (by unfold LL; simp at ha; omega)
    rw [show ifK (all.any outP) true (([] : List Ar).any fun a => a.2.2.any outP) = all.any outP by cases all.any outP <;> rfl]
    cases b
    · rw [show ow67 false all = .slc true all.length (ptsC all) from rfl] at hi ⊢
      rw [F67_58_eqs, e0, ifK_false]
      exact hi
    · rw [show ow67 true all = .own all.length (ptsC all) from rfl] at hi ⊢
      rw [F67_58_eqo, e0, ifK_false]
      exact hi
  | cons x r ih =>
    intro pre b all fuel hp ha hf
    obtain ⟨fuel, rfl⟩ : ∃ n, fuel = n + 1 := ⟨fuel - 1, by omega⟩
    have hxl : x.2.2.length ≤ 1000 := hk.c x (by rw [← hp]; simp)
    simp only [List.length_cons] at ha hf
    have ih := fun b => ih (pre ++ [x]) b (all ++ x.2.2) fuel (by rw [← hp]; simp) (by rw [List.length_append]; omega) (by omega)
    have hlen : pre.length < h.areas.length := by rw [← hp]; simp
    have e0 : decide ((pre.length : Int) < (h.areas.length : Int)) = true := by simp; omega
    have e1 : decide ((0 : Int) ≤ (pre.length : Int) ∧ (pre.length : Int) < (h.areas.length : Int)) = true := decide_eq_true ⟨by omega, by omega⟩
    have e3 : IntKind.wrap .i64 ((pre.length : Int) + 1) = ((pre ++ [x]).length : Int) := (wrap_in (by omega)).trans (by simp)
    have c1 : ∀ {γ : Type} (k : D → Option γ), cellK (arsC h.areas) (Int.toNat (pre.length : Int) * 2 + 1) k = k (.slc x.2.1 x.2.2.length (ptsC x.2.2)) := fun k => by rw [← hp]; exact a1 pre x r
    have e4 : decide ((ptsC x.2.2).length = x.2.2.length * 2) = true := decide_eq_true (ptsC_len _)
    have hres : ifK ((all ++ x.2.2).any outP) true (r.any fun a => a.2.2.any outP) = ifK (all.any outP) true ((x :: r).any fun a => a.2.2.any outP) := by
      rw [List.any_append, List.any_cons]
      cases all.any outP <;> cases x.2.2.any outP <;> rfl
    rw [hres] at ih
    have ihT := ih true
    rw [show ow67 true (all ++ x.2.2) = .own (all.length + x.2.2.length) (ptsC all ++ ptsC x.2.2) by rw [← ptsC_app, ← List.length_append]; rfl] at ihT
    cases b
    · rw [show ow67 false all = .slc true all.length (ptsC all) from rfl]
      rw [F67_58_eqs, e0, ifK_true, e1, chkK_true, c1, slcK_slc, e4, chkK_true, ptsC_ones, chkK_true, e3]
      by_cases hz : x.2.2.length = 0
      · rw [decide_eq_true hz, ifK_true]
        have hz' : x.2.2 = [] := List.length_eq_zero_iff.1 hz
        have := ih false
        rw [hz', List.append_nil] at this
        exact this
      · rw [decide_eq_false hz, ifK_false, chkK_true, decide_eq_true (show 0 < x.2.2.length ∧ (ptsC all).length = all.length * 2 ∧ (all.length + x.2.2.length) * 16 ≤ limit ∧ all.length + x.2.2.length ≤ 4611686018427387903 from ⟨by omega, ptsC_len _, by unfold limit; omega, by omega⟩), chkK_true]
        exact ihT
    · rw [show ow67 true all = .own all.length (ptsC all) from rfl]
      rw [F67_58_eqo, e0, ifK_true, e1, chkK_true, c1, slcK_slc, e4, chkK_true, ptsC_ones, chkK_true, e3, decide_eq_true (show (all.length + x.2.2.length) * 16 ≤ limit ∧ all.length + x.2.2.length ≤ 9223372036854775807 from ⟨by unfold limit; omega, by omega⟩), chkK_true]
      exact ihT
end
theorem okf67 : okFn Tryz.prog O0 Tryz.f67 = true := by kernel_rfl
theorem ok67 (h : Hl) (hk : h.Ok) : OK2 67 [holeD h] (.bool (!outH h)) := by
  obtain ⟨B, hb, e24, _⟩ := exF [famP 24 fun p => .int .i64 (ifK (outP p) 3 0)] ⟨famP_good ok24 (fun _ => rfl), trivial⟩ rfl
  have hl := hk.l
  have hal := hk.a
  refine fnT hb Tryz.func67 (ord := O0) (N := N67) okf67 ((F67_eq _ _ _ h.name h.tee.1 h.tee.2 h.cup.1 h.cup.2 h.lf h.line.length (ptsC h.line) h.af h.areas.length (arsC h.areas)).trans ?_)
  refine chk_step (decide_eq_true (ptsC_len _)) (chk_step (ptsC_ones _) ?_)
  have hgo := fun b => go67 (call := callOf B) hk (fun p => e24 p) h.areas [] b ([h.tee, h.cup] ++ h.line) LL rfl (by simp; omega) (by unfold LL; omega)
  by_cases hz : h.line.length = 0
  · rw [decide_eq_true hz, ifK_true]
    have := hgo false
    rw [show ow67 false ([h.tee, h.cup] ++ h.line) = .slc true 2 [.int .i64 h.tee.1, .int .i64 h.tee.2, .int .i64 h.cup.1, .int .i64 h.cup.2] by rw [List.length_eq_zero_iff.1 hz]; rfl] at this
    exact this
  · rw [decide_eq_false hz, ifK_false]
    refine chk_step (decide_eq_true ⟨by omega, rfl, by unfold limit; omega, by omega⟩) ?_
    have := hgo true
    rw [show ow67 true ([h.tee, h.cup] ++ h.line) = .own (2 + h.line.length) ([.int .i64 h.tee.1, .int .i64 h.tee.2, .int .i64 h.cup.1, .int .i64 h.cup.2] ++ ptsC h.line) by
      show Ow.own ([h.tee, h.cup] ++ h.line).length (ptsC ([h.tee, h.cup] ++ h.line)) = _
      rw [List.length_append, ptsC_app]
      rfl] at this
    exact this
/-! ### Moved, Turned, Mirrored -/
def zeroH : Hl := { name := ByteArray.mk #[], tee := (0, 0), cup := (0, 0), lf := true, line := [], af := true, areas := [] }
theorem hlM_ok {G : Pt → Pt} {h : Hl} (hk : h.Ok) : (hlM G h).Ok := ⟨hk.n, by show (h.line.map G).length ≤ 1000; rw [List.length_map]; exact hk.l, by show (h.areas.map (arM G)).length ≤ 1000; rw [List.length_map]; exact hk.a, fun a ha => by
  obtain ⟨x, hx, rfl⟩ := List.mem_map.1 ha
  show (x.2.2.map G).length ≤ 1000
  rw [List.length_map]
  exact hk.c x hx⟩
theorem okf64 : okFn Tryz.prog O0 Tryz.f64 = true := by kernel_rfl
theorem okf65 : okFn Tryz.prog O0 Tryz.f65 = true := by kernel_rfl
theorem okf63 : okFn Tryz.prog O0 Tryz.f63 = true := by kernel_rfl
def ansH (e : Int) (h : Hl) : D := ifK (e != 0) (.tup [holeD zeroH, .int .i64 e]) (.tup [holeD h, .int .i64 0])
theorem ok64 (h : Hl) (hk : h.Ok) (q : Int) : OK2 64 [holeD h, .int .i64 q] (ansH (holeE h) (hlM (rotN (qN q)) h)) := by
  obtain ⟨B, hb, e21, e117, _⟩ := exF [one 21 [holeD h] (.int .i64 (holeE h)), one 117 [.agg [.fn (.func 118) [] [.snap [.int .i64 (qN q : Int)] 0]], holeD h] (holeD (hlM (rotN (qN q)) h))] ⟨one_good (ok21 h hk) rfl, one_good (hl_b (fun p => ok118 (q := q) p) h hk) rfl, trivial⟩ rfl
  refine fnT hb Tryz.func64 (ord := O0) (N := N0) okf64 ((F64_eq _ _ _ h.name h.tee.1 h.tee.2 h.cup.1 h.cup.2 h.lf h.line.length (ptsC h.line) h.af h.areas.length (arsC h.areas) q).trans ?_)
  refine opt_step (x := D.int .i64 (holeE h)) (e21 ()) (int_step ?_)
  unfold ansH
  rw [(qN_eq q).1]
  cases holeE h != 0
  · rw [ifK_false, ifK_false]
    refine opt_step (x := holeD (hlM (rotN (qN q)) h)) (e117 ()) ?_
    rw [rd_hole]
  · rfl
theorem ok65 (h : Hl) (hk : h.Ok) : OK2 65 [holeD h] (ansH (holeE h) (hlM mirG h)) := by
  obtain ⟨B, hb, e21, e117, _⟩ := exF [one 21 [holeD h] (.int .i64 (holeE h)), one 117 [.agg [.fn (.func 119) [] []], holeD h] (holeD (hlM mirG h))] ⟨one_good (ok21 h hk) rfl, one_good (hl_c ok119 h hk) rfl, trivial⟩ rfl
  refine fnT hb Tryz.func65 (ord := O0) (N := N0) okf65 ((F65_eq _ _ _ h.name h.tee.1 h.tee.2 h.cup.1 h.cup.2 h.lf h.line.length (ptsC h.line) h.af h.areas.length (arsC h.areas)).trans ?_)
  refine opt_step (x := D.int .i64 (holeE h)) (e21 ()) (int_step ?_)
  unfold ansH
  cases holeE h != 0
  · rw [ifK_false, ifK_false]
    refine opt_step (x := holeD (hlM mirG h)) (e117 ()) ?_
    rw [rd_hole]
  · rfl
theorem go63 {call : CL} {h : Hl} (hk : h.Ok) (h77 : ∀ (f : Bool) (l : List Pt), l.length ≤ 1000 → call 77 [.slc f l.length (ptsC l)] = some (.int .i64 (ifK (l.any outP) 3 0))) : ∀ (r pre : List Ar) (fuel : Nat), pre ++ r = h.areas → r.length < fuel →
    F63_250 call LL C1 fuel h.af h.areas.length (arsC h.areas) (h.areas.length : Int) (pre.length : Int) h.name h.tee.1 h.tee.2 h.cup.1 h.cup.2 h.lf h.line.length (ptsC h.line) h.af h.areas.length (arsC h.areas) = some (ansH (ifK (r.any fun a => a.2.2.any outP) 3 0) h) := by
  have hal := hk.a
  intro r
  induction r with
  | nil =>
    intro pre fuel hp hf
    obtain ⟨fuel, rfl⟩ : ∃ n, fuel = n + 1 := ⟨fuel - 1, by omega⟩
    rw [List.append_nil] at hp
    rw [F63_250_eq, show decide ((pre.length : Int) < (h.areas.length : Int)) = false by rw [hp]; simp, ifK_false]
    rfl
  | cons x r ih =>
    intro pre fuel hp hf
    obtain ⟨fuel, rfl⟩ : ∃ n, fuel = n + 1 := ⟨fuel - 1, by omega⟩
    have ih := ih (pre ++ [x]) fuel (by rw [← hp]; simp) (by simp at hf; omega)
    have hlen : pre.length < h.areas.length := by rw [← hp]; simp
    have hxl : x.2.2.length ≤ 1000 := hk.c x (by rw [← hp]; simp)
    have e1 : decide ((0 : Int) ≤ (pre.length : Int) ∧ (pre.length : Int) < (h.areas.length : Int)) = true := decide_eq_true ⟨by omega, by omega⟩
    have e3 : IntKind.wrap .i64 ((pre.length : Int) + 1) = ((pre ++ [x]).length : Int) := (wrap_in (by omega)).trans (by simp)
    have c0 : ∀ {γ : Type} (k : D → Option γ), cellK (arsC h.areas) (Int.toNat (pre.length : Int) * 2 + 0) k = k (.str x.1) := fun k => by rw [← hp]; exact a0 pre x r
    have c1 : ∀ {γ : Type} (k : D → Option γ), cellK (arsC h.areas) (Int.toNat (pre.length : Int) * 2 + 1) k = k (.slc x.2.1 x.2.2.length (ptsC x.2.2)) := fun k => by rw [← hp]; exact a1 pre x r
    rw [F63_250_eq, show decide ((pre.length : Int) < (h.areas.length : Int)) = true by simp; omega, ifK_true, e1, chkK_true, c0, strK_str, c1, slcK_slc]
    refine opt_step (h77 x.2.1 x.2.2 hxl) ?_
    rw [intK_int, e3, ih, List.any_cons]
    cases x.2.2.any outP <;> rfl
def mvE (h : Hl) (by_ : Pt) : Int := firstZ [holeE h, ifK (outP by_) 3 0]
def mvA (h : Hl) (by_ : Pt) : Int := ifK (mvE h by_ != 0) (mvE h by_) (ifK (outH (hlM (mvG by_.1 by_.2) h)) 3 0)
theorem ok63 (h : Hl) (hk : h.Ok) (by_ : Pt) : OK2 63 [holeD h, ptD by_] (ansH (mvA h by_) (hlM (mvG by_.1 by_.2) h)) := by
  obtain ⟨B, hb, e21, e117, e77, e76, _⟩ := exF [one 21 [holeD h] (.int .i64 (holeE h)), one 117 [.agg [.fn (.func 116) [] [.snap [.int .i64 by_.1, .int .i64 by_.2] 0]], holeD h] (holeD (hlM (mvG by_.1 by_.2) h)),
      ⟨77, {x : Bool × List Pt // x.2.length ≤ 1000}, fun x => [.slc x.1.1 x.1.2.length (ptsC x.1.2)], fun x => .int .i64 (ifK (x.1.2.any outP) 3 0)⟩, famFi 76]
    ⟨one_good (ok21 h hk) rfl, one_good (hl_a (fun p => ok116 p) h hk) rfl, ⟨fun x => ok77 x.1.2 x.2, fun (x y : {x : Bool × List Pt // x.2.length ≤ 1000}) e => by
      have e : ([.slc x.1.1 x.1.2.length (ptsC x.1.2)] : List D) = [.slc y.1.1 y.1.2.length (ptsC y.1.2)] := e
      simp only [List.cons.injEq, D.slc.injEq, and_true] at e
      show D.int .i64 (ifK (x.1.2.any outP) 3 0) = .int .i64 (ifK (y.1.2.any outP) 3 0)
      rw [ptsC_inj e.2.2], fun _ => rfl⟩, famFi_good (fun l hl => ok76 l hl) (fun _ _ => rfl), trivial⟩ rfl
  have f77 : ∀ (f : Bool) (l : List Pt), l.length ≤ 1000 → callOf B 77 [.slc f l.length (ptsC l)] = some (.int .i64 (ifK (l.any outP) 3 0)) := fun f l hl => e77 ⟨(f, l), hl⟩
  have f76 : ∀ a b : Int, callOf B 76 [.slc true 2 [.int .i64 a, .int .i64 b]] = some (.int .i64 (firstZ [a, b])) := fun a b => e76 ⟨[a, b], by simp⟩
  refine fnT hb Tryz.func63 (ord := O0) (N := N63) okf63 ((F63_eq _ _ _ h.name h.tee.1 h.tee.2 h.cup.1 h.cup.2 h.lf h.line.length (ptsC h.line) h.af h.areas.length (arsC h.areas) by_.1 by_.2).trans ?_)
  refine opt_step (x := D.int .i64 (holeE h)) (e21 ()) (int_step ?_)
  have hby := f77 true [by_] (by simp)
  rw [show ([by_] : List Pt).any outP = outP by_ by simp] at hby
  refine opt_step hby (int_step (opt_step (f76 _ _) (int_step ?_)))
  unfold mvA
  rw [show firstZ [holeE h, ifK (outP by_) 3 0] = mvE h by_ from rfl]
  by_cases hz : mvE h by_ = 0
  · have hz0 : holeE h = 0 := firstZ_zero hz (holeE h) (by simp)
    have hl16 := (hole_in hz0).2.2.2
    rw [show (mvE h by_ != 0) = false by simpa using hz, ifK_false, ifK_false]
    refine opt_step (x := holeD (hlM (mvG by_.1 by_.2) h)) (e117 ()) ?_
    rw [rd_hole]
    generalize hH : hlM (mvG by_.1 by_.2) h = H
    have hHk : H.Ok := hH ▸ hlM_ok hk
    have hHl : H.line.length ≤ 16 := by rw [← hH]; show (h.line.map _).length ≤ 16; rw [List.length_map]; exact hl16
    refine chk_step (decide_eq_true (ptsC_len _)) (chk_step (ptsC_ones _) ?_)
    have hgo : F63_250 (callOf B) LL C1 LL H.af H.areas.length (arsC H.areas) (H.areas.length : Int) (0 : Int) H.name H.tee.1 H.tee.2 H.cup.1 H.cup.2 H.lf H.line.length (ptsC H.line) H.af H.areas.length (arsC H.areas) = some (ansH (ifK (H.areas.any fun a => a.2.2.any outP) 3 0) H) := go63 hHk f77 H.areas [] LL rfl (by have := hHk.a; unfold LL; omega)
    have fin : ∀ e : Int, e = ifK (([H.tee, H.cup] ++ H.line).any outP) 3 0 → ifK (e != 0) (some (D.tup [holeD zeroH, .int .i64 e])) (F63_250 (callOf B) LL C1 LL H.af H.areas.length (arsC H.areas) (H.areas.length : Int) (0 : Int) H.name H.tee.1 H.tee.2 H.cup.1 H.cup.2 H.lf H.line.length (ptsC H.line) H.af H.areas.length (arsC H.areas)) = some (ansH (ifK (outH H) 3 0) H) := fun e he => by
      rw [he, hgo]
      unfold outH
      cases ([H.tee, H.cup] ++ H.line).any outP <;> rfl
    by_cases hl0 : H.line.length = 0
    · rw [decide_eq_true hl0, ifK_true]
      have hl0' : H.line = [] := List.length_eq_zero_iff.1 hl0
      refine opt_step (f77 true [H.tee, H.cup] (by simp)) (int_step ?_)
      exact fin _ (by rw [hl0']; rfl)
    · rw [decide_eq_false hl0, ifK_false]
      refine chk_step (decide_eq_true ⟨by omega, rfl, by unfold limit; omega, by omega⟩) ?_
      have h77 := f77 false ([H.tee, H.cup] ++ H.line) (by simp; omega)
      rw [List.length_append, ptsC_app] at h77
      refine opt_step h77 (int_step ?_)
      exact fin _ rfl
  · rw [show (mvE h by_ != 0) = true by simpa using hz, ifK_true, ifK_true]
    unfold ansH
    rw [show (mvE h by_ != 0) = true by simpa using hz]
    rfl
end Go.Pd
end
section
namespace Go.Pd
open Go Go.Proofs
set_option maxRecDepth 100000
def N12 : NTab := fun p => match p with
  | 2047 => some { keep := [2, 7, 8, 9, 10, 11, 12, 13, 14, 15, 16, 17, 18], kl := [3, 4], ren := [(3, 3), (4, 4), (7, 7), (8, 8), (10, 10), (12, 12), (16, 16), (17, 17), (18, 18)], cn := true }
  | 4095 => some { keep := [8, 9, 10, 11, 12, 13, 14, 15, 16, 17, 18], kl := [3, 4, 7], ren := [(3, 3), (4, 4), (7, 7), (8, 8), (10, 10), (12, 12), (16, 16), (17, 17), (18, 18)], cn := true }
  | _ => none
noncomputable def F12_4095 (call : CL) (L : Nat) (C : Nat → Nat) (am an ao aa aN : Int) (h : ByteArray) (z J K M : Int) (S : Bool) (U : Nat) (O : List D) (W : Bool) (X : Nat) (V : List D) (Y : ByteArray) (a0 a1 a2 a3 : Int) (a5 : Bool) (a6 : Nat) (a4 : List D) (a8 : Bool) (a9 : Nat) (a7 : List D) (vc : ByteArray) (ac ad ae af : Int) (ah : Bool) (ai : Nat) (ag : List D) (ak : Bool) (al : Nat) (aj : List D) (aC : ByteArray) (aD aE aF aG : Int) (aI : Bool) (aJ : Nat) (aH : List D) (aL : Bool) (aM : Nat) (aK : List D) (aO : ByteArray) (aP aQ aR aS : Int) (aU : Bool) (aV : Nat) (aT : List D) (aX : Bool) (aY : Nat) (aW : List D) (ap : ByteArray) (aq ar au av : Int) (ax : Bool) (ay : Nat) (aw : List D) (aA : Bool) (aB : Nat) (az : List D) : Option D :=
 cutAt (TEf call L C) O0 N12 FinM.canon Tryz.f12 [true, true, true, true, true, true, true, true, true, true, true] []  (C 4095) (St.mk (jn 8 (D.loc 8 0 0 :: D.int .i64 am :: D.loc 10 0 0 :: D.int .i64 an :: D.loc 12 0 0 :: D.int .i64 ao :: D.int .i64 aa :: D.int .i64 aN :: D.loc 16 0 0 :: D.loc 17 0 0 :: D.loc 18 0 0 :: jn 84 [])) (zn 8 ((1, some (Ob.box [D.str h, D.int .i64 z, D.int .i64 J, D.int .i64 K, D.int .i64 M, D.slc S U O, D.slc W X V] false)) :: Z :: (1, some (Ob.box [D.str Y, D.int .i64 a0, D.int .i64 a1, D.int .i64 a2, D.int .i64 a3, D.slc a5 a6 a4, D.slc a8 a9 a7] false)) :: Z :: (1, some (Ob.box [D.str vc, D.int .i64 ac, D.int .i64 ad, D.int .i64 ae, D.int .i64 af, D.slc ah ai ag, D.slc ak al aj] false)) :: Z :: Z :: Z :: (1, some (Ob.box [D.str aC, D.int .i64 aD, D.int .i64 aE, D.int .i64 aF, D.int .i64 aG, D.slc aI aJ aH, D.slc aL aM aK] false)) :: (1, some (Ob.box [D.str aO, D.int .i64 aP, D.int .i64 aQ, D.int .i64 aR, D.int .i64 aS, D.slc aU aV aT, D.slc aX aY aW] false)) :: (1, some (Ob.box [D.str ap, D.int .i64 aq, D.int .i64 ar, D.int .i64 au, D.int .i64 av, D.slc ax ay aw, D.slc aA aB az] false)) :: zn 84 [])))
noncomputable def F12_2047 (call : CL) (L : Nat) (C : Nat → Nat) (aE an ao ap ab aD : Int) (vx : ByteArray) (aF aG aH aI : Int) (aK : Bool) (aL : Nat) (aJ : List D) (aN : Bool) (aO : Nat) (aM : List D) (h : ByteArray) (z K M O : Int) (U : Bool) (V : Nat) (S : List D) (X : Bool) (Y : Nat) (W : List D) (vb : ByteArray) (a1 a2 a3 a4 : Int) (a6 : Bool) (a7 : Nat) (a5 : List D) (a9 : Bool) (aa : Nat) (a8 : List D) (vc : ByteArray) (ad ae af ag : Int) (ai : Bool) (aj : Nat) (ah : List D) (al : Bool) (am : Nat) (ak : List D) (aq : ByteArray) (ar au av aw : Int) (ay : Bool) (az : Nat) (ax : List D) (aB : Bool) (aC : Nat) (aA : List D) : Option D :=
 cutAt (TEf call L C) O0 N12 FinM.canon Tryz.f12 [true, true, true, true, true, true, true, true, true, true] []  (C 2047) (St.mk (J :: J :: D.int .i64 aE :: J :: J :: J :: J :: D.loc 7 0 0 :: D.loc 8 0 0 :: D.int .i64 an :: D.loc 10 0 0 :: D.int .i64 ao :: D.loc 12 0 0 :: D.int .i64 ap :: D.int .i64 ab :: D.int .i64 aD :: D.loc 16 0 0 :: D.loc 17 0 0 :: D.loc 18 0 0 :: jn 84 []) (zn 7 ((1, some (Ob.box [D.str vx, D.int .i64 aF, D.int .i64 aG, D.int .i64 aH, D.int .i64 aI, D.slc aK aL aJ, D.slc aN aO aM] false)) :: (1, some (Ob.box [D.str h, D.int .i64 z, D.int .i64 K, D.int .i64 M, D.int .i64 O, D.slc U V S, D.slc X Y W] false)) :: Z :: (1, some (Ob.box [D.str vb, D.int .i64 a1, D.int .i64 a2, D.int .i64 a3, D.int .i64 a4, D.slc a6 a7 a5, D.slc a9 aa a8] false)) :: Z :: (1, some (Ob.box [D.str vc, D.int .i64 ad, D.int .i64 ae, D.int .i64 af, D.int .i64 ag, D.slc ai aj ah, D.slc al am ak] false)) :: Z :: Z :: Z :: (1, some (Ob.box [D.str aq, D.int .i64 ar, D.int .i64 au, D.int .i64 av, D.int .i64 aw, D.slc ay az ax, D.slc aB aC aA] false)) :: (1, some (Ob.box [D.str (ByteArray.mk #[]), D.int .i64 0, D.int .i64 0, D.int .i64 0, D.int .i64 0, D.slc true 0 [], D.slc true 0 []] false)) :: (1, some (Ob.box [D.str (ByteArray.mk #[]), D.int .i64 0, D.int .i64 0, D.int .i64 0, D.int .i64 0, D.slc true 0 [], D.slc true 0 []] false)) :: zn 84 [])))
theorem F12_4095_eq (call : CL) (L : Nat) (C : Nat → Nat) (ao ap aq K aP : Int) (M : ByteArray) (O S U V : Int) (X : Bool) (Y : Nat) (W : List D) (a0 : Bool) (a1 : Nat) (Z : List D) (vb : ByteArray) (a3 a4 a5 a6 : Int) (a8 : Bool) (a9 : Nat) (a7 : List D) (ab : Bool) (ac : Nat) (aa : List D) (vc : ByteArray) (ae af ag ah : Int) (aj : Bool) (ak : Nat) (ai : List D) (am : Bool) (an : Nat) (al : List D) (aE : ByteArray) (aF aG aH aI : Int) (aK : Bool) (aL : Nat) (aJ : List D) (aN : Bool) (aO : Nat) (aM : List D) (aQ : ByteArray) (aR aS aT aU : Int) (aW : Bool) (aX : Nat) (aV : List D) (aZ : Bool) (b0 : Nat) (aY : List D) (ar : ByteArray) (au av aw ax : Int) (az : Bool) (aA : Nat) (ay : List D) (aC : Bool) (aD : Nat) (aB : List D) (hC : ∀ t, C t = 1) : F12_4095 call L C  ao ap aq K aP M O S U V X Y W a0 a1 Z vb a3 a4 a5 a6 a8 a9 a7 ab ac aa vc ae af ag ah aj ak ai am an al aE aF aG aH aI aK aL aJ aN aO aM aQ aR aS aT aU aW aX aV aZ b0 aY ar au av aw ax az aA ay aC aD aB =
 (ifK (ao == aP)
 (optK (call 15 [D.agg [D.str M, D.int .i64 O, D.int .i64 S, D.int .i64 U, D.int .i64 V, D.slc X Y W, D.slc a0 a1 Z]]) fun bJ =>
 (aggK bJ 7 fun h =>
 (cellK h 0 fun bb =>
 (strK bb fun bQ =>
 (cellK h 1 fun bc =>
 (intK .i64 bc fun bT =>
 (cellK h 2 fun bd =>
 (intK .i64 bd fun bU =>
 (cellK h 3 fun be =>
 (intK .i64 be fun bV =>
 (cellK h 4 fun bf =>
 (intK .i64 bf fun bW =>
 (cellK h 5 fun bg =>
 (slcK bg fun bw bD b5 =>
 (cellK h 6 fun bh =>
 (slcK bh fun bx bE b6 =>
 (optK (call 68 [D.agg [D.str bQ, D.int .i64 bT, D.int .i64 bU, D.int .i64 bV, D.int .i64 bW, D.slc bw bD b5, D.slc bx bE b6], D.agg [D.str aE, D.int .i64 aF, D.int .i64 aG, D.int .i64 aH, D.int .i64 aI, D.slc aK aL aJ, D.slc aN aO aM]]) fun bK =>
 (boolK bK fun b1 =>
 (ifK b1
 (ifK (ap == K)
 (optK (call 15 [D.agg [D.str vb, D.int .i64 a3, D.int .i64 a4, D.int .i64 a5, D.int .i64 a6, D.slc a8 a9 a7, D.slc ab ac aa]]) fun bL =>
 (aggK bL 7 fun z =>
 (cellK z 0 fun bi =>
 (strK bi fun bR =>
 (cellK z 1 fun bj =>
 (intK .i64 bj fun bX =>
 (cellK z 2 fun bk =>
 (intK .i64 bk fun bY =>
 (cellK z 3 fun bl =>
 (intK .i64 bl fun bZ =>
 (cellK z 4 fun bm =>
 (intK .i64 bm fun c0 =>
 (cellK z 5 fun bn =>
 (slcK bn fun bz bF b7 =>
 (cellK z 6 fun bo =>
 (slcK bo fun bA bG b8 =>
 (optK (call 68 [D.agg [D.str bR, D.int .i64 bX, D.int .i64 bY, D.int .i64 bZ, D.int .i64 c0, D.slc bz bF b7, D.slc bA bG b8], D.agg [D.str aQ, D.int .i64 aR, D.int .i64 aS, D.int .i64 aT, D.int .i64 aU, D.slc aW aX aV, D.slc aZ b0 aY]]) fun bM =>
 (boolK bM fun b2 =>
 (ifK b2
 (ifK (aq == K)
 (optK (call 15 [D.agg [D.str vc, D.int .i64 ae, D.int .i64 af, D.int .i64 ag, D.int .i64 ah, D.slc aj ak ai, D.slc am an al]]) fun bN =>
 (aggK bN 7 fun J =>
 (cellK J 0 fun bp =>
 (strK bp fun bS =>
 (cellK J 1 fun bq =>
 (intK .i64 bq fun c1 =>
 (cellK J 2 fun br =>
 (intK .i64 br fun c2 =>
 (cellK J 3 fun bs =>
 (intK .i64 bs fun c3 =>
 (cellK J 4 fun bt =>
 (intK .i64 bt fun c4 =>
 (cellK J 5 fun bu =>
 (slcK bu fun bB bH b9 =>
 (cellK J 6 fun bv =>
 (slcK bv fun bC bI ba =>
 (optK (call 68 [D.agg [D.str bS, D.int .i64 c1, D.int .i64 c2, D.int .i64 c3, D.int .i64 c4, D.slc bB bH b9, D.slc bC bI ba], D.agg [D.str ar, D.int .i64 au, D.int .i64 av, D.int .i64 aw, D.int .i64 ax, D.slc az aA ay, D.slc aC aD aB]]) fun bO =>
 (boolK bO fun b3 =>
 (ifK b3
 (optK (call 17 []) fun bP =>
 (boolK bP fun b4 =>
 (some (D.bool b4))))
 (some (D.bool false)))))))))))))))))))))
 (some (D.bool false)))
 (some (D.bool false)))))))))))))))))))))
 (some (D.bool false)))
 (some (D.bool false)))))))))))))))))))))
 (some (D.bool false))) := by
  unfold F12_4095
  rw [hC]
  kernel_rfl
theorem F12_2047_eq (call : CL) (L : Nat) (C : Nat → Nat) (aO an ao ap J aD : Int) (vx : ByteArray) (aE aF aG aH : Int) (aJ : Bool) (aK : Nat) (aI : List D) (aM : Bool) (aN : Nat) (aL : List D) (K : ByteArray) (M O S U : Int) (W : Bool) (X : Nat) (V : List D) (Z : Bool) (a0 : Nat) (Y : List D) (vb : ByteArray) (a2 a3 a4 a5 : Int) (a7 : Bool) (a8 : Nat) (a6 : List D) (aa : Bool) (ab : Nat) (a9 : List D) (vc : ByteArray) (ad ae af ag : Int) (ai : Bool) (aj : Nat) (ah : List D) (al : Bool) (am : Nat) (ak : List D) (aq : ByteArray) (ar au av aw : Int) (ay : Bool) (az : Nat) (ax : List D) (aB : Bool) (aC : Nat) (aA : List D) (hC : ∀ t, C t = 1) : F12_2047 call L C  aO an ao ap J aD vx aE aF aG aH aJ aK aI aM aN aL K M O S U W X V Z a0 Y vb a2 a3 a4 a5 a7 a8 a6 aa ab a9 vc ad ae af ag ai aj ah al am ak aq ar au av aw ay az ax aB aC aA =
 (ifK (J == 0)
 (optK (call 66 [D.agg [D.int .i64 (Int.tmod aO 4), D.bool false, D.int .i64 0, D.int .i64 0], D.agg [D.str vx, D.int .i64 aE, D.int .i64 aF, D.int .i64 aG, D.int .i64 aH, D.slc aJ aK aI, D.slc aM aN aL]]) fun bf =>
 (aggK bf 7 fun h =>
 (cellK h 0 fun aT =>
 (strK aT fun bh =>
 (cellK h 1 fun aU =>
 (intK .i64 aU fun bj =>
 (cellK h 2 fun aV =>
 (intK .i64 aV fun bk =>
 (cellK h 3 fun aW =>
 (intK .i64 aW fun bl =>
 (cellK h 4 fun aX =>
 (intK .i64 aX fun bm =>
 (cellK h 5 fun aY =>
 (slcK aY fun b7 bb aP =>
 (cellK h 6 fun aZ =>
 (slcK aZ fun b8 bc aQ =>
 (optK (call 66 [D.agg [D.int .i64 0, D.bool true, D.int .i64 0, D.int .i64 0], D.agg [D.str vx, D.int .i64 aE, D.int .i64 aF, D.int .i64 aG, D.int .i64 aH, D.slc aJ aK aI, D.slc aM aN aL]]) fun bg =>
 (aggK bg 7 fun z =>
 (cellK z 0 fun b0 =>
 (strK b0 fun bi =>
 (cellK z 1 fun b1 =>
 (intK .i64 b1 fun bn =>
 (cellK z 2 fun b2 =>
 (intK .i64 b2 fun bo =>
 (cellK z 3 fun b3 =>
 (intK .i64 b3 fun bp =>
 (cellK z 4 fun b4 =>
 (intK .i64 b4 fun bq =>
 (cellK z 5 fun b5 =>
 (slcK b5 fun b9 bd aR =>
 (cellK z 6 fun b6 =>
 (slcK b6 fun ba be aS =>
 (F12_4095 call L C an ao ap J aD K M O S U W X V Z a0 Y vb a2 a3 a4 a5 a7 a8 a6 aa ab a9 vc ad ae af ag ai aj ah al am ak aq ar au av aw ay az ax aB aC aA bh bj bk bl bm b7 bb aP b8 bc aQ bi bn bo bp bq b9 bd aR ba be aS)))))))))))))))))))))))))))))))))
 (F12_4095 call L C an ao ap J aD K M O S U W X V Z a0 Y vb a2 a3 a4 a5 a7 a8 a6 aa ab a9 vc ad ae af ag ai aj ah al am ak aq ar au av aw ay az ax aB aC aA (ByteArray.mk #[]) 0 0 0 0 true 0 ([]) true 0 ([]) (ByteArray.mk #[]) 0 0 0 0 true 0 ([]) true 0 ([]))) := by
  unfold F12_2047
  rw [hC]
  kernel_rfl
theorem F12_eq (call : CL) (L : Nat) (C : Nat → Nat) (Y : ByteArray) (Z a0 a1 a2 : Int) (a4 : Bool) (a5 : Nat) (a3 : List D) (a7 : Bool) (a8 : Nat) (a6 : List D) (aa ab a9 : Int) : evFnT (TEf call L C) O0 N12 FinM.canon Tryz.f12 [D.agg [D.str Y, D.int .i64 Z, D.int .i64 a0, D.int .i64 a1, D.int .i64 a2, D.slc a4 a5 a3, D.slc a7 a8 a6], D.agg [D.int .i64 aa, D.int .i64 ab], D.int .i64 a9] =
 (optK (call 15 [D.agg [D.str Y, D.int .i64 Z, D.int .i64 a0, D.int .i64 a1, D.int .i64 a2, D.slc a4 a5 a3, D.slc a7 a8 a6]]) fun r =>
 (aggK r 7 fun c =>
 (cellK c 0 fun d =>
 (strK d fun s =>
 (cellK c 1 fun b6 =>
 (intK .i64 b6 fun x =>
 (cellK c 2 fun bh =>
 (intK .i64 bh fun V =>
 (cellK c 3 fun bs =>
 (intK .i64 bs fun W =>
 (cellK c 4 fun bE =>
 (intK .i64 bE fun X =>
 (cellK c 5 fun bG =>
 (slcK bG fun f n M =>
 (cellK c 6 fun bH =>
 (slcK bH fun S U O =>
 (optK (call 16 [D.agg [D.str s, D.int .i64 x, D.int .i64 V, D.int .i64 W, D.int .i64 X, D.slc f n M, D.slc S U O], D.int .i64 6, D.int .i64 8]) fun bL =>
 (boolK bL fun b =>
 (ifK (!b)
 (optK (call 17 []) fun bN =>
 (boolK bN fun b4 =>
 (some (D.bool b4))))
 (optK (call 63 [D.agg [D.str Y, D.int .i64 Z, D.int .i64 a0, D.int .i64 a1, D.int .i64 a2, D.slc a4 a5 a3, D.slc a7 a8 a6], D.agg [D.int .i64 aa, D.int .i64 ab]]) fun bO =>
 (tupK bO 2 fun aT =>
 (cellK aT 0 fun bI =>
 (aggK bI 7 fun J =>
 (cellK J 0 fun bJ =>
 (strK bJ fun ax =>
 (cellK J 1 fun bK =>
 (intK .i64 bK fun aK =>
 (cellK J 2 fun b7 =>
 (intK .i64 b7 fun aL =>
 (cellK J 3 fun b8 =>
 (intK .i64 b8 fun aM =>
 (cellK J 4 fun b9 =>
 (intK .i64 b9 fun aN =>
 (cellK J 5 fun ba =>
 (slcK ba fun aj ap ag =>
 (cellK J 6 fun bb =>
 (slcK bb fun ak aq ah =>
 (cellK aT 1 fun bc =>
 (intK .i64 bc fun aO =>
 (optK (call 64 [D.agg [D.str Y, D.int .i64 Z, D.int .i64 a0, D.int .i64 a1, D.int .i64 a2, D.slc a4 a5 a3, D.slc a7 a8 a6], D.int .i64 a9]) fun bP =>
 (tupK bP 2 fun aU =>
 (cellK aU 0 fun bd =>
 (aggK bd 7 fun K =>
 (cellK K 0 fun be =>
 (strK be fun ay =>
 (cellK K 1 fun bf =>
 (intK .i64 bf fun aP =>
 (cellK K 2 fun bg =>
 (intK .i64 bg fun aA =>
 (cellK K 3 fun bi =>
 (intK .i64 bi fun aB =>
 (cellK K 4 fun bj =>
 (intK .i64 bj fun aC =>
 (cellK K 5 fun bk =>
 (slcK bk fun al ar ai =>
 (cellK K 6 fun bl =>
 (slcK bl fun am au ad =>
 (cellK aU 1 fun bm =>
 (intK .i64 bm fun aD =>
 (optK (call 65 [D.agg [D.str Y, D.int .i64 Z, D.int .i64 a0, D.int .i64 a1, D.int .i64 a2, D.slc a4 a5 a3, D.slc a7 a8 a6]]) fun bQ =>
 (tupK bQ 2 fun aQ =>
 (cellK aQ 0 fun bn =>
 (aggK bn 7 fun h =>
 (cellK h 0 fun bo =>
 (strK bo fun az =>
 (cellK h 1 fun bp =>
 (intK .i64 bp fun aE =>
 (cellK h 2 fun bq =>
 (intK .i64 bq fun aF =>
 (cellK h 3 fun br =>
 (intK .i64 br fun aG =>
 (cellK h 4 fun bt =>
 (intK .i64 bt fun aH =>
 (cellK h 5 fun bu =>
 (slcK bu fun an av ae =>
 (cellK h 6 fun bv =>
 (slcK bv fun ao aw af =>
 (cellK aQ 1 fun bw =>
 (intK .i64 bw fun aI =>
 (optK (call 18 [D.agg [D.str s, D.int .i64 x, D.int .i64 V, D.int .i64 W, D.int .i64 X, D.slc f n M, D.slc S U O]]) fun bR =>
 (intK .i64 bR fun ac =>
 (optK (call 24 [D.agg [D.int .i64 aa, D.int .i64 ab]]) fun bS =>
 (intK .i64 bS fun bV =>
 (optK (call 23 [D.slc true 2 [D.int .i64 ac, D.int .i64 bV]]) fun bT =>
 (intK .i64 bT fun aJ =>
 (ifK (aJ == 0)
 (optK (call 66 [D.agg [D.int .i64 0, D.bool false, D.int .i64 aa, D.int .i64 ab], D.agg [D.str s, D.int .i64 x, D.int .i64 V, D.int .i64 W, D.int .i64 X, D.slc f n M, D.slc S U O]]) fun bU =>
 (aggK bU 7 fun z =>
 (cellK z 0 fun bx =>
 (strK bx fun aZ =>
 (cellK z 1 fun bz =>
 (intK .i64 bz fun b0 =>
 (cellK z 2 fun bA =>
 (intK .i64 bA fun b1 =>
 (cellK z 3 fun bB =>
 (intK .i64 bB fun b2 =>
 (cellK z 4 fun bC =>
 (intK .i64 bC fun b3 =>
 (cellK z 5 fun bD =>
 (slcK bD fun aV aX aR =>
 (cellK z 6 fun bF =>
 (slcK bF fun aW aY aS =>
 (optK (call 67 [D.agg [D.str aZ, D.int .i64 b0, D.int .i64 b1, D.int .i64 b2, D.int .i64 b3, D.slc aV aX aR, D.slc aW aY aS]]) fun bM =>
 (boolK bM fun b5 =>
 (ifK (!b5)
 (F12_2047 call L C a9 aO aD aI ac 3 s x V W X f n M S U O ax aK aL aM aN aj ap ag ak aq ah ay aP aA aB aC al ar ai am au ad az aE aF aG aH an av ae ao aw af (ByteArray.mk #[]) 0 0 0 0 true 0 ([]) true 0 ([]))
 (F12_2047 call L C a9 aO aD aI ac aJ s x V W X f n M S U O ax aK aL aM aN aj ap ag ak aq ah ay aP aA aB aC al ar ai am au ad az aE aF aG aH an av ae ao aw af aZ b0 b1 b2 b3 aV aX aR aW aY aS))))))))))))))))))))
 (F12_2047 call L C a9 aO aD aI ac aJ s x V W X f n M S U O ax aK aL aM aN aj ap ag ak aq ah ay aP aA aB aC al ar ai am au ad az aE aF aG aH an av ae ao aw af (ByteArray.mk #[]) 0 0 0 0 true 0 ([]) true 0 ([])))))))))))))))))))))))))))))))))))))))))))))))))))))))))))))))))))))))))))))))))))))))) := by kernel_rfl
end Go.Pd
end
section
namespace Go.Pd
open Go Go.Proofs Go.RowKit
set_option maxRecDepth 100000
theorem hlM_congr {G G' : Pt → Pt} {h : Hl} (ht : G h.tee = G' h.tee) (hc : G h.cup = G' h.cup) (hl : ∀ p ∈ h.line, G p = G' p) (ha : ∀ a ∈ h.areas, ∀ p ∈ a.2.2, G p = G' p) : hlM G h = hlM G' h := by
  have e1 : h.line.map G = h.line.map G' := List.map_congr_left hl
  have e2 : h.areas.map (arM G) = h.areas.map (arM G') := List.map_congr_left fun a hm => by
    unfold arM
    rw [List.map_congr_left (ha a hm)]
  unfold hlM
  rw [ht, hc, e1, e2]
theorem places_in {h : Hl} (hz : holeE h = 0) : InP h.tee ∧ InP h.cup ∧ (∀ p ∈ h.line, InP p) ∧ ∀ a ∈ h.areas, ∀ p ∈ a.2.2, InP p := by
  obtain ⟨i1, i2, i3, _⟩ := hole_in hz
  refine ⟨inP_of i1, inP_of i2, fun p hp => inP_of (by simpa using List.any_eq_false.1 i3 p hp), fun a ha p hp => inP_of (by simpa using List.any_eq_false.1 (areas_in hz a ha) p hp)⟩
theorem hlM_same {G G' : Pt → Pt} {h : Hl} (hz : holeE h = 0) (hG : ∀ p, InP p → G p = G' p) : hlM G h = hlM G' h := by
  obtain ⟨i1, i2, i3, i4⟩ := places_in hz
  exact hlM_congr (hG _ i1) (hG _ i2) (fun p hp => hG p (i3 p hp)) fun a ha p hp => hG p (i4 a ha p hp)
theorem rot_inP : ∀ (n : Nat) {p : Pt}, InP p → InP (rotN n p)
  | 0, _, h => h
  | n + 1, p, h => rot_inP n (by
    obtain ⟨h1, h2, h3, h4⟩ := h
    have e : w64 (0 - p.2) = 0 - p.2 := wrap_in (by omega)
    refine ⟨?_, ?_, h1, h2⟩
    · show -1000000 ≤ w64 (0 - p.2)
      rw [e]; omega
    · show w64 (0 - p.2) ≤ 1000000
      rw [e]; omega)
theorem ch_rot (q : Int) {p : Pt} (hp : InP p) : chG (Int.tmod q 4) false 0 0 p = rotN (qN q) p := by
  obtain ⟨h1, h2, h3, h4⟩ := rot_inP (qN q) hp
  unfold chG
  rw [qN_mod, ifK_false, show w64 ((rotN (qN q) p).1 + 0) = (rotN (qN q) p).1 from (wrap_in (by omega)).trans (by omega), show w64 ((rotN (qN q) p).2 + 0) = (rotN (qN q) p).2 from (wrap_in (by omega)).trans (by omega)]
theorem ch_mir {p : Pt} (hp : InP p) : chG 0 true 0 0 p = mirG p := by
  obtain ⟨h1, h2, h3, h4⟩ := hp
  unfold chG mirG
  rw [show qN 0 = 0 from rfl, ifK_true, show (rotN 0 p) = p from rfl, show w64 (0 - p.1) = 0 - p.1 from wrap_in (by omega), show w64 (0 - p.1 + 0) = 0 - p.1 from (wrap_in (by omega)).trans (by omega), show w64 (p.2 + 0) = p.2 from (wrap_in (by omega)).trans (by omega)]
theorem ch_mv (bx by_ : Int) : chG 0 false bx by_ = mvG bx by_ := by
  funext p
  unfold chG mvG
  rw [show qN 0 = 0 from rfl, ifK_false]
  rfl
def ansX (e : Int) (h : Hl) : Hl := ifK (e != 0) zeroH h
theorem ansH_eq (e : Int) (h : Hl) : ansH e h = .tup [holeD (ansX e h), .int .i64 e] := by
  unfold ansH ansX
  by_cases he : e = 0
  · subst he; rfl
  · rw [show (e != 0) = true by simpa using he]; rfl
theorem rd_ans {γ : Type} (h : Hl) (e : Int) (k : ByteArray → Int → Int → Int → Int → Bool → Nat → List D → Bool → Nat → List D → Int → Option γ) :
    (tupK (.tup [holeD h, .int .i64 e]) 2 fun c0 => cellK c0 0 fun dh => aggK dh 7 fun c => cellK c 0 fun d => strK d fun s => cellK c 1 fun d1 => intK .i64 d1 fun x => cellK c 2 fun d2 => intK .i64 d2 fun x1 => cellK c 3 fun d3 => intK .i64 d3 fun x2 => cellK c 4 fun d4 => intK .i64 d4 fun x3 => cellK c 5 fun d5 => slcK d5 fun f n c1 => cellK c 6 fun d6 => slcK d6 fun f1 n1 c2 => cellK c0 1 fun de => intK .i64 de fun y => k s x x1 x2 x3 f n c1 f1 n1 c2 y) =
      k h.name h.tee.1 h.tee.2 h.cup.1 h.cup.2 h.lf h.line.length (ptsC h.line) h.af h.areas.length (arsC h.areas) e := rfl
theorem zero_ok : zeroH.Ok := ⟨by show (0 : Nat) < 4611686018427387904; omega, by show (0 : Nat) ≤ 1000; omega, by show (0 : Nat) ≤ 1000; omega, fun a ha => by cases ha⟩
theorem ansX_ok {e : Int} {h : Hl} (hk : h.Ok) : (ansX e h).Ok := by
  unfold ansX
  cases e != 0
  · exact hk
  · exact zero_ok
section
variable {call : CL}
theorem end12 (h15 : ∀ x : Hl, x.Ok → call 15 [holeD x] = some (holeD (ownH x))) (h68 : ∀ x : Hl, x.Ok → call 68 [holeD x, holeD x] = some (.bool true)) (h17 : call 17 [] = some (.bool true)) {a b c : Hl} (ha : a.Ok) (hb : b.Ok) (hc : c.Ok) (one bad : Int) :
    F12_4095 call LL C1 one bad bad bad one a.name a.tee.1 a.tee.2 a.cup.1 a.cup.2 a.lf a.line.length (ptsC a.line) a.af a.areas.length (arsC a.areas) b.name b.tee.1 b.tee.2 b.cup.1 b.cup.2 b.lf b.line.length (ptsC b.line) b.af b.areas.length (arsC b.areas) c.name c.tee.1 c.tee.2 c.cup.1 c.cup.2 c.lf c.line.length (ptsC c.line) c.af c.areas.length (arsC c.areas) (ownH a).name (ownH a).tee.1 (ownH a).tee.2 (ownH a).cup.1 (ownH a).cup.2 (ownH a).lf (ownH a).line.length (ptsC (ownH a).line) (ownH a).af (ownH a).areas.length (arsC (ownH a).areas) (ownH b).name (ownH b).tee.1 (ownH b).tee.2 (ownH b).cup.1 (ownH b).cup.2 (ownH b).lf (ownH b).line.length (ptsC (ownH b).line) (ownH b).af (ownH b).areas.length (arsC (ownH b).areas) (ownH c).name (ownH c).tee.1 (ownH c).tee.2 (ownH c).cup.1 (ownH c).cup.2 (ownH c).lf (ownH c).line.length (ptsC (ownH c).line) (ownH c).af (ownH c).areas.length (arsC (ownH c).areas) = some (.bool true) := by
  rw [F12_4095_eq (C := C1) (hC := fun _ => rfl), show (one == one) = true by simp, ifK_true]
  refine opt_step (h15 a ha) ?_
  rw [rd_hole]
  refine opt_step (h68 (ownH a) (ownH_ok ha)) ?_
  rw [boolK_bool, ifK_true, show (bad == bad) = true by simp, ifK_true]
  refine opt_step (h15 b hb) ?_
  rw [rd_hole]
  refine opt_step (h68 (ownH b) (ownH_ok hb)) ?_
  rw [boolK_bool, ifK_true, ifK_true]
  refine opt_step (h15 c hc) ?_
  rw [rd_hole]
  refine opt_step (h68 (ownH c) (ownH_ok hc)) ?_
  rw [boolK_bool, ifK_true]
  exact opt_step h17 rfl
end
theorem okf12 : okFn Tryz.prog O0 Tryz.f12 = true := by kernel_rfl
theorem arsC_inj : ∀ {a b : List Ar}, arsC a = arsC b → a = b
  | [], [], _ => rfl
  | [], _ :: _, h => by cases h
  | _ :: _, [], h => by cases h
  | x :: a, y :: b, h => by
    obtain ⟨x1, x2, x3⟩ := x
    obtain ⟨y1, y2, y3⟩ := y
    have h : (D.str x1 :: D.slc x2 x3.length (ptsC x3) :: arsC a) = (D.str y1 :: D.slc y2 y3.length (ptsC y3) :: arsC b) := h
    simp only [List.cons.injEq, D.str.injEq, D.slc.injEq] at h
    rw [h.1, h.2.1.1, ptsC_inj h.2.1.2.2, arsC_inj h.2.2]
theorem holeD_inj {x y : Hl} (h : holeD x = holeD y) : x = y := by
  obtain ⟨n, ⟨t1, t2⟩, ⟨c1, c2⟩, lf, l, af, ar⟩ := x
  obtain ⟨n', ⟨t1', t2'⟩, ⟨c1', c2'⟩, lf', l', af', ar'⟩ := y
  simp only [D.agg.injEq, List.cons.injEq, D.str.injEq, D.int.injEq, D.slc.injEq, true_and, and_true] at h
  obtain ⟨rfl, rfl, rfl, rfl, rfl, ⟨rfl, _, e1⟩, rfl, _, e2⟩ := h
  rw [ptsC_inj e1, arsC_inj e2]
def fam15 : Fam := ⟨15, {h : Hl // h.Ok}, fun h => [holeD h.1], fun h => holeD (ownH h.1)⟩
theorem fam15_good : fam15.Good := ⟨fun h => ok15 h.1 (by have := h.2.a; omega), fun (x y : {h : Hl // h.Ok}) e => by
  have e : [holeD x.1] = [holeD y.1] := e
  simp only [List.cons.injEq, and_true] at e
  show holeD (ownH x.1) = holeD (ownH y.1)
  rw [holeD_inj e], fun _ => rfl⟩
abbrev Chg := Int × Bool × Int × Int
def fam66 (h : Hl) : Fam := ⟨66, Chg, fun c => [.agg [.int .i64 c.1, .bool c.2.1, .int .i64 c.2.2.1, .int .i64 c.2.2.2], holeD h], fun c => holeD (hlM (chG c.1 c.2.1 c.2.2.1 c.2.2.2) h)⟩
theorem fam66_good {h : Hl} (hk : h.Ok) : (fam66 h).Good := ⟨fun c => hl_r (fun p => ok69 p) h hk, fun (x y : Chg) e => by
  obtain ⟨x1, x2, x3, x4⟩ := x
  obtain ⟨y1, y2, y3, y4⟩ := y
  have e : ([.agg [.int .i64 x1, .bool x2, .int .i64 x3, .int .i64 x4], holeD h] : List D) = [.agg [.int .i64 y1, .bool y2, .int .i64 y3, .int .i64 y4], holeD h] := e
  simp only [List.cons.injEq, D.agg.injEq, D.int.injEq, D.bool.injEq, true_and, and_true] at e
  obtain ⟨rfl, rfl, rfl, rfl⟩ := e
  rfl, fun _ => rfl⟩
theorem ok12 (h : Hl) (hb : h.areas.length * 40 ≤ 140737488355328) (p : Pt) (q : Int) : OK2 12 [holeD h, ptD p, .int .i64 q] (.bool true) := by
  cases hs : shH (ownH h) 6 8
  · obtain ⟨B, hB, e15, e16, e17, _⟩ := exF [one 15 [holeD h] (holeD (ownH h)), one 16 [holeD (ownH h), .int .i64 6, .int .i64 8] (.bool (shH (ownH h) 6 8)), one 17 [] (.bool true)]
      ⟨one_good (ok15 h hb) rfl, one_good (ok16 _ 6 8) rfl, one_good ok17 rfl, trivial⟩ rfl
    refine fnT hB Tryz.func12 (ord := O0) (N := N12) okf12 ((F12_eq _ _ _ h.name h.tee.1 h.tee.2 h.cup.1 h.cup.2 h.lf h.line.length (ptsC h.line) h.af h.areas.length (arsC h.areas) p.1 p.2 q).trans ?_)
    refine opt_step (x := holeD (ownH h)) (e15 ()) ?_
    rw [rd_hole]
    refine opt_step (x := D.bool (shH (ownH h) 6 8)) (e16 ()) ?_
    rw [boolK_bool, hs, Bool.not_false, ifK_true]
    exact opt_step (x := D.bool true) (e17 ()) rfl
  · have hk : h.Ok := by
      have := shH_ok hs
      exact ⟨this.n, this.l, this.a, this.c⟩
    have hk' := ownH_ok hk
    generalize hM : hlM (mvG p.1 p.2) h = M
    have hMk : M.Ok := hM ▸ hlM_ok hk
    obtain ⟨B, hB, e15, e16, e17, e63, e64, e65, e18, e24, e23, e66, e67, e68, _⟩ := exF [fam15, one 16 [holeD (ownH h), .int .i64 6, .int .i64 8] (.bool (shH (ownH h) 6 8)), one 17 [] (.bool true), one 63 [holeD h, ptD p] (ansH (mvA h p) M), one 64 [holeD h, .int .i64 q] (ansH (holeE h) (hlM (rotN (qN q)) h)),
        one 65 [holeD h] (ansH (holeE h) (hlM mirG h)), one 18 [holeD (ownH h)] (.int .i64 (refHole h)), one 24 [ptD p] (.int .i64 (ifK (outP p) 3 0)), famFi 23, fam66 (ownH h), one 67 [holeD M] (.bool (!outH M)), famT 68]
      ⟨fam15_good, one_good (ok16 _ 6 8) rfl, one_good ok17 rfl, one_good (hM ▸ ok63 h hk p) rfl, one_good (ok64 h hk q) rfl, one_good (ok65 h hk) rfl, one_good (ok18 (ownH h) hk') rfl, one_good (ok24 p) rfl, famFi_good (fun l hl => ok23 l hl) (fun _ _ => rfl), fam66_good hk', one_good (ok67 M hMk) rfl, famT_good fun _ => rfl, trivial⟩ rfl
    have f15 : ∀ x : Hl, x.Ok → callOf B 15 [holeD x] = some (holeD (ownH x)) := fun x hx => e15 ⟨x, hx⟩
    have f68 : ∀ x : Hl, x.Ok → callOf B 68 [holeD x, holeD x] = some (.bool true) := fun x hx => e68 ⟨_, ok68 x hx⟩
    have f17 : callOf B 17 [] = some (.bool true) := e17 ()
    have f63 : callOf B 63 [holeD h, ptD p] = some (.tup [holeD (ansX (mvA h p) M), .int .i64 (mvA h p)]) := by rw [← ansH_eq]; exact e63 ()
    have f64 : callOf B 64 [holeD h, .int .i64 q] = some (.tup [holeD (ansX (holeE h) (hlM (rotN (qN q)) h)), .int .i64 (holeE h)]) := by rw [← ansH_eq]; exact e64 ()
    have f65 : callOf B 65 [holeD h] = some (.tup [holeD (ansX (holeE h) (hlM mirG h)), .int .i64 (holeE h)]) := by rw [← ansH_eq]; exact e65 ()
    have f18 : callOf B 18 [holeD (ownH h)] = some (.int .i64 (holeE h)) := by
      have := e18 ()
      rw [hole_same h]
      exact this
    have f24 : callOf B 24 [ptD p] = some (.int .i64 (ifK (outP p) 3 0)) := e24 ()
    have f23 : ∀ a b : Int, callOf B 23 [.slc true 2 [.int .i64 a, .int .i64 b]] = some (.int .i64 (firstZ [a, b])) := fun a b => e23 ⟨[a, b], by simp⟩
    have f66 : ∀ (q : Int) (m : Bool) (x y : Int), callOf B 66 [.agg [.int .i64 q, .bool m, .int .i64 x, .int .i64 y], holeD (ownH h)] = some (holeD (hlM (chG q m x y) h)) := fun q m x y => e66 (q, m, x, y)
    have f67 : callOf B 67 [holeD M] = some (.bool (!outH M)) := e67 ()
    -- turned and mirrored
    have mid : F12_2047 (callOf B) LL C1 q (mvA h p) (holeE h) (holeE h) (holeE h) (mvA h p) (ownH h).name (ownH h).tee.1 (ownH h).tee.2 (ownH h).cup.1 (ownH h).cup.2 (ownH h).lf (ownH h).line.length (ptsC (ownH h).line) (ownH h).af (ownH h).areas.length (arsC (ownH h).areas) (ansX (mvA h p) M).name (ansX (mvA h p) M).tee.1 (ansX (mvA h p) M).tee.2 (ansX (mvA h p) M).cup.1 (ansX (mvA h p) M).cup.2 (ansX (mvA h p) M).lf (ansX (mvA h p) M).line.length (ptsC (ansX (mvA h p) M).line) (ansX (mvA h p) M).af (ansX (mvA h p) M).areas.length (arsC (ansX (mvA h p) M).areas) (ansX (holeE h) (hlM (rotN (qN q)) h)).name (ansX (holeE h) (hlM (rotN (qN q)) h)).tee.1 (ansX (holeE h) (hlM (rotN (qN q)) h)).tee.2 (ansX (holeE h) (hlM (rotN (qN q)) h)).cup.1 (ansX (holeE h) (hlM (rotN (qN q)) h)).cup.2 (ansX (holeE h) (hlM (rotN (qN q)) h)).lf (ansX (holeE h) (hlM (rotN (qN q)) h)).line.length (ptsC (ansX (holeE h) (hlM (rotN (qN q)) h)).line) (ansX (holeE h) (hlM (rotN (qN q)) h)).af (ansX (holeE h) (hlM (rotN (qN q)) h)).areas.length (arsC (ansX (holeE h) (hlM (rotN (qN q)) h)).areas) (ansX (holeE h) (hlM mirG h)).name (ansX (holeE h) (hlM mirG h)).tee.1 (ansX (holeE h) (hlM mirG h)).tee.2 (ansX (holeE h) (hlM mirG h)).cup.1 (ansX (holeE h) (hlM mirG h)).cup.2 (ansX (holeE h) (hlM mirG h)).lf (ansX (holeE h) (hlM mirG h)).line.length (ptsC (ansX (holeE h) (hlM mirG h)).line) (ansX (holeE h) (hlM mirG h)).af (ansX (holeE h) (hlM mirG h)).areas.length (arsC (ansX (holeE h) (hlM mirG h)).areas) (ownH (ansX (mvA h p) M)).name (ownH (ansX (mvA h p) M)).tee.1 (ownH (ansX (mvA h p) M)).tee.2 (ownH (ansX (mvA h p) M)).cup.1 (ownH (ansX (mvA h p) M)).cup.2 (ownH (ansX (mvA h p) M)).lf (ownH (ansX (mvA h p) M)).line.length (ptsC (ownH (ansX (mvA h p) M)).line) (ownH (ansX (mvA h p) M)).af (ownH (ansX (mvA h p) M)).areas.length (arsC (ownH (ansX (mvA h p) M)).areas) = some (.bool true) := by
      rw [F12_2047_eq (C := C1) (hC := fun _ => rfl)]
      have hend := fun b c (hb : Hl.Ok b) (hc : Hl.Ok c) => end12 f15 f68 f17 (a := ansX (mvA h p) M) (b := b) (c := c) (ansX_ok hMk) hb hc (mvA h p) (holeE h)
      by_cases hz : holeE h = 0
      · rw [show (holeE h == 0) = true by simpa using hz, ifK_true]
        refine opt_step (f66 (Int.tmod q 4) false 0 0) ?_
        rw [rd_hole]
        refine opt_step (f66 0 true 0 0) ?_
        rw [rd_hole, hlM_same hz (fun p hp => ch_rot q hp), hlM_same hz (fun p hp => ch_mir hp)]
        have := hend (ansX (holeE h) (hlM (rotN (qN q)) h)) (ansX (holeE h) (hlM mirG h)) (ansX_ok (hlM_ok hk)) (ansX_ok (hlM_ok hk))
        rw [hz] at this ⊢
        exact this
      · rw [show (holeE h == 0) = false by simpa using hz, ifK_false]
        have hx : ∀ H, ansX (holeE h) H = zeroH := fun H => by unfold ansX; rw [show (holeE h != 0) = true by simpa using hz]; rfl
        have := hend (ansX (holeE h) (hlM (rotN (qN q)) h)) (ansX (holeE h) (hlM mirG h)) (ansX_ok (hlM_ok hk)) (ansX_ok (hlM_ok hk))
        rw [hx, hx] at this ⊢
        exact this
    refine fnT hB Tryz.func12 (ord := O0) (N := N12) okf12 ((F12_eq _ _ _ h.name h.tee.1 h.tee.2 h.cup.1 h.cup.2 h.lf h.line.length (ptsC h.line) h.af h.areas.length (arsC h.areas) p.1 p.2 q).trans ?_)
    refine opt_step (f15 h hk) ?_
    rw [rd_hole]
    refine opt_step (x := D.bool (shH (ownH h) 6 8)) (e16 ()) ?_
    rw [boolK_bool, hs, Bool.not_true, ifK_false]
    refine opt_step f63 ?_
    rw [rd_ans]
    refine opt_step f64 ?_
    rw [rd_ans]
    refine opt_step f65 ?_
    rw [rd_ans]
    refine opt_step f18 (int_step (opt_step f24 (int_step (opt_step (f23 _ _) (int_step ?_)))))
    rw [show firstZ [holeE h, ifK (outP p) 3 0] = mvE h p from rfl]
    by_cases hz : mvE h p = 0
    · rw [show (mvE h p == 0) = true by simpa using hz, ifK_true]
      refine opt_step (f66 0 false p.1 p.2) ?_
      rw [rd_hole, ch_mv, hM]
      refine opt_step f67 ?_
      rw [boolK_bool]
      cases ho : outH M
      · have hA : mvA h p = 0 := by unfold mvA; rw [hz, hM, ho]; rfl
        rw [Bool.not_false, Bool.not_true, ifK_false, hz]
        rw [hA] at mid ⊢
        have hx : ansX 0 M = M := rfl
        rw [hx] at mid ⊢
        rw [← hM] at mid ⊢
        exact mid
      · have hA : mvA h p = 3 := by unfold mvA; rw [hz, hM, ho]; rfl
        rw [Bool.not_true, Bool.not_false, ifK_true]
        rw [hA] at mid ⊢
        exact mid
    · have hA : mvA h p = mvE h p := by unfold mvA; rw [show (mvE h p != 0) = true by simpa using hz]; rfl
      have hx : ∀ H, ansX (mvE h p) H = zeroH := fun H => by unfold ansX; rw [show (mvE h p != 0) = true by simpa using hz]; rfl
      rw [show (mvE h p == 0) = false by simpa using hz, ifK_false]
      rw [hA, hx] at mid ⊢
      exact mid
end Go.Pd
end
