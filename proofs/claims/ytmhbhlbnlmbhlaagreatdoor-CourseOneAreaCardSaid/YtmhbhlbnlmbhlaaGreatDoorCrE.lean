/-
  Chapter 2: what the functions of holes make of open arguments (printed by the desk tool, each proved by the kernel).
  Chapter 2: names, by the program and by the reference.
  Chapter 2: holes: in which area a place is, by the program and by the reference.
  Chapter 2: the check of a hole, and Locate, by the program.
  Chapter 2: what the roots and squares make of open arguments (printed by the desk tool, each proved by the kernel).
  Chapter 2: squares of distances, and their roots, by the program and by the reference.
  Chapter 2: what the length by the reference and the comparison of lists make of open arguments (printed by the desk tool, each proved by the kernel).
  Chapter 2: the length by the reference, and lists that are the same.
  Chapter 2: slices.Clone of places and of numbers, as slices of the caller's own.
  Chapter 2: the length of a hole by the program, as equations.
  Chapter 2: the length of a hole by the program.
-/
import Derived.Test.YtmhbhlbnlmbhlaaGreatDoorCrA
import Derived.KernelRfl
import Derived.Test.YtmhbhlbnlmbhlaaGreatDoorCrB
import Derived.Laws.RangeString
import Derived.Laws.RangeAny
import Derived.Test.YtmhbhlbnlmbhlaaGreatDoorCrD
import Derived.Shelf.SlicesE.Clone
import Derived.RegionTactic
section
namespace Go.Pd
open Go Go.Proofs
set_option maxRecDepth 100000
def N85 : NTab := fun p => match p with
  | 26 => some { keep := [0, 6], kl := [], ren := [(6, 6)] }
  | _ => none
noncomputable def F85_26 (call : CL) (L : Nat) (C : Nat → Nat) (n : Nat) (vs : ByteArray) (z : Nat) : Option D :=
 loopAt (TEf call L C) O0 N85 FinM.canon Tryz.f85 [true, false, true, false] []  n (St.mk (D.str vs :: jn 5 (D.loc 6 0 0 :: jn 30 [])) (zn 6 ((1, some (Ob.sit vs z)) :: zn 30 [])))
theorem F85_26_eq (call : CL) (L : Nat) (C : Nat → Nat) (n : Nat) (vs : ByteArray) (z : Nat) : F85_26 call L C  (n + 1) vs z =
 (ifK (decide (z < ByteArray.size vs))
 (optK (call 141 [D.int IntKind.i32 (((Prod.fst (Utf8.decode vs z)) : Nat) : Int)]) fun r =>
 (boolK r fun b =>
 (ifK (!b)
 (ifK ((z : Int) == 0)
 (some (D.bool false))
 (ifK ((((Prod.fst (Utf8.decode vs z)) : Nat) : Int) != 95)
 (ifK (decide ((((Prod.fst (Utf8.decode vs z)) : Nat) : Int) < 48))
 (some (D.bool false))
 (ifK (decide ((((Prod.fst (Utf8.decode vs z)) : Nat) : Int) > 57))
 (some (D.bool false))
 (F85_26 call L C n vs (z + Prod.snd (Utf8.decode vs z)))))
 (F85_26 call L C n vs (z + Prod.snd (Utf8.decode vs z)))))
 (F85_26 call L C n vs (z + Prod.snd (Utf8.decode vs z))))))
 (ifK (!ByteArray.toList vs == ByteArray.toList (ByteArray.mk #[]))
 (some (D.bool (decide (((ByteArray.size vs) : Int) ≤ 24))))
 (some (D.bool false)))) := by kernel_rfl
theorem F85_eq (call : CL) (L : Nat) (C : Nat → Nat) (vs : ByteArray) : evFnT (TEf call L C) O0 N85 FinM.canon Tryz.f85 [D.str vs] =
 (F85_26 call L C L vs 0) := by kernel_rfl
theorem F141_eq (call : CL) (L : Nat) (C : Nat → Nat) (z : Int) : evFnT (TEf call L C) O0 N0 FinM.canon Tryz.f141 [D.int IntKind.i32 z] =
 (ifK (decide (z ≥ 97))
 (ifK (decide (z ≤ 122))
 (some (D.bool true))
 (ifK (decide (z ≥ 65))
 (some (D.bool (decide (z ≤ 90))))
 (some (D.bool false))))
 (ifK (decide (z ≥ 65))
 (some (D.bool (decide (z ≤ 90))))
 (some (D.bool false)))) := by kernel_rfl
def N75 : NTab := fun p => match p with
  | 7 => some { keep := [0], kl := [], ren := [] }
  | 58 => some { keep := [0, 3], kl := [], ren := [] }
  | 467 => some { keep := [0, 3], kl := [], ren := [] }
  | 3731 => some { keep := [0, 3, 4, 5], kl := [], ren := [] }
  | _ => none
noncomputable def F75_467 (call : CL) (L : Nat) (C : Nat → Nat) (z : Nat) (vs : ByteArray) (K : Int) : Option D :=
 cutAt (TEf call L C) O0 N75 FinM.canon Tryz.f75 [true, true, false, true, false, false, true, true] [z]  (C 467) (St.mk (D.str vs :: J :: J :: D.int .i64 K :: jn 52 []) (zn 56 []))
noncomputable def F75_3731 (call : CL) (L : Nat) (C : Nat → Nat) (z : Nat) (vs : ByteArray) (M K : Int) (O : Bool) : Option D :=
 cutAt (TEf call L C) O0 N75 FinM.canon Tryz.f75 [true, true, false, true, false, false, true, false, false, true, true] [z]  (C 3731) (St.mk (D.str vs :: J :: J :: D.int .i64 M :: D.int IntKind.u8 K :: D.bool O :: jn 50 []) (zn 56 []))
noncomputable def F75_58 (call : CL) (L : Nat) (C : Nat → Nat) (z : Nat) (vs : ByteArray) (K : Int) : Option D :=
 loopAt (TEf call L C) O0 N75 FinM.canon Tryz.f75 [true, true, false, true, false] []  z (St.mk (D.str vs :: J :: J :: D.int .i64 K :: jn 52 []) (zn 56 []))
noncomputable def F75_7 (call : CL) (L : Nat) (C : Nat → Nat) (vs : ByteArray) : Option D :=
 cutAt (TEf call L C) O0 N75 FinM.canon Tryz.f75 [true, true] []  (C 7) (St.mk (D.str vs :: jn 55 []) (zn 56 []))
theorem F75_467_eq (call : CL) (L : Nat) (C : Nat → Nat) (z : Nat) (vs : ByteArray) (J : Int) (hC : ∀ t, C t = 1) : F75_467 call L C z vs J  =
 (F75_58 call L C z vs (IntKind.wrap .i64 (J + 1))) := by
  unfold F75_467
  rw [hC]
  kernel_rfl
theorem F75_3731_eq (call : CL) (L : Nat) (C : Nat → Nat) (J : Nat) (vs : ByteArray) (z K : Int) (M : Bool) (hC : ∀ t, C t = 1) : F75_3731 call L C J vs z K M =
 (ifK (!M)
 (ifK (z == 0)
 (some (D.bool false))
 (ifK (decide (K ≥ 48))
 (ifK (decide (K ≤ 57))
 (F75_467 call L C J vs z)
 (ifK (!K == 95)
 (some (D.bool false))
 (F75_467 call L C J vs z)))
 (ifK (!K == 95)
 (some (D.bool false))
 (F75_467 call L C J vs z))))
 (F75_467 call L C J vs z)) := by
  unfold F75_3731
  rw [hC]
  kernel_rfl
theorem F75_58_eq (call : CL) (L : Nat) (C : Nat → Nat) (J : Nat) (vs : ByteArray) (z : Int) : F75_58 call L C  (J + 1) vs z =
 (ifK (decide (z < ((ByteArray.size vs) : Int)))
 (chkK (decide (0 ≤ z ∧ Int.toNat z < ByteArray.size vs))
 (ifK (decide (byteAt vs (Int.toNat z) ≥ 97))
 (ifK (decide (byteAt vs (Int.toNat z) ≤ 122))
 (F75_3731 call L C J vs z (byteAt vs (Int.toNat z)) true)
 (ifK (decide (byteAt vs (Int.toNat z) ≥ 65))
 (F75_3731 call L C J vs z (byteAt vs (Int.toNat z)) (decide (byteAt vs (Int.toNat z) ≤ 90)))
 (F75_3731 call L C J vs z (byteAt vs (Int.toNat z)) false)))
 (ifK (decide (byteAt vs (Int.toNat z) ≥ 65))
 (F75_3731 call L C J vs z (byteAt vs (Int.toNat z)) (decide (byteAt vs (Int.toNat z) ≤ 90)))
 (F75_3731 call L C J vs z (byteAt vs (Int.toNat z)) false))))
 (some (D.bool true))) := by kernel_rfl
theorem F75_7_eq (call : CL) (L : Nat) (C : Nat → Nat) (vs : ByteArray) (hC : ∀ t, C t = 1) : F75_7 call L C  vs  =
 (F75_58 call L C L vs 0) := by
  unfold F75_7
  rw [hC]
  kernel_rfl
theorem F75_eq (call : CL) (L : Nat) (C : Nat → Nat) (vs : ByteArray) : evFnT (TEf call L C) O0 N75 FinM.canon Tryz.f75 [D.str vs] =
 (ifK (decide (((ByteArray.size vs) : Int) < 1))
 (some (D.bool false))
 (ifK (decide (((ByteArray.size vs) : Int) > 24))
 (some (D.bool false))
 (F75_7 call L C vs))) := by kernel_rfl
theorem F86_eq (call : CL) (L : Nat) (C : Nat → Nat) (J : Bool) (K : Nat) (z : List D) (M : ByteArray) : evFnT (TEf call L C) O0 N0 FinM.canon Tryz.f86 [D.slc J K z, D.str M] =
 (optK (call 142 [D.slc J K z, D.str M]) fun r =>
 (intK .i64 r fun x =>
 (some (D.bool (decide (x ≥ 0)))))) := by kernel_rfl
def N142 : NTab := fun p => match p with
  | 26 => some { keep := [0, 1, 7, 8], kl := [], ren := [] }
  | _ => none
noncomputable def F142_26 (call : CL) (L : Nat) (C : Nat → Nat) (n : Nat) (M : Bool) (O : Nat) (K : List D) (S : ByteArray) (z J : Int) : Option D :=
 loopAt (TEf call L C) O0 N142 FinM.canon Tryz.f142 [true, false, true, false] []  n (St.mk (D.slc M O K :: D.str S :: jn 5 (D.int .i64 z :: D.int .i64 J :: jn 10 [])) (zn 19 []))
theorem F142_26_eq (call : CL) (L : Nat) (C : Nat → Nat) (n : Nat) (S : Bool) (M : Nat) (K : List D) (O : ByteArray) (J z : Int) : F142_26 call L C  (n + 1) S M K O J z =
 (ifK (decide (z < J))
 (chkK (decide (0 ≤ z ∧ z < (M : Int)))
 (cellK K (Int.toNat z * 1) fun d =>
 (strK d fun s =>
 (ifK (ByteArray.toList O == ByteArray.toList s)
 (some (D.int .i64 z))
 (F142_26 call L C n S M K O J (IntKind.wrap .i64 (z + 1)))))))
 (some (D.int .i64 (-1)))) := by kernel_rfl
theorem F142_eq (call : CL) (L : Nat) (C : Nat → Nat) (K : Bool) (z : Nat) (J : List D) (M : ByteArray) : evFnT (TEf call L C) O0 N142 FinM.canon Tryz.f142 [D.slc K z J, D.str M] =
 (F142_26 call L C L K z J M ((z : Int)) 0) := by kernel_rfl
theorem F44_eq (call : CL) (L : Nat) (C : Nat → Nat) : evFnT (TEf call L C) O0 N0 FinM.canon Tryz.f44 [] =
 (some (D.slc true 6 [D.str (ByteArray.mk #[103, 114, 101, 101, 110]), D.str (ByteArray.mk #[116, 101, 101]), D.str (ByteArray.mk #[98, 117, 110, 107, 101, 114]), D.str (ByteArray.mk #[119, 97, 116, 101, 114]), D.str (ByteArray.mk #[102, 97, 105, 114, 119, 97, 121]), D.str (ByteArray.mk #[114, 111, 117, 103, 104])])) := by kernel_rfl
def N29 : NTab := fun p => match p with
  | 58 => some { keep := [0, 3, 4], kl := [], ren := [] }
  | _ => none
noncomputable def F29_58 (call : CL) (L : Nat) (C : Nat → Nat) (z : Nat) (vs : ByteArray) (O : Bool) (S : Nat) (M : List D) (K : Int) : Option D :=
 loopAt (TEf call L C) O0 N29 FinM.canon Tryz.f29 [true, true, false, true, false] []  z (St.mk (D.str vs :: J :: J :: D.slc O S M :: D.int .i64 K :: jn 13 []) (zn 18 []))
theorem F29_58_eq (call : CL) (L : Nat) (C : Nat → Nat) (M : Nat) (vs : ByteArray) (O : Bool) (J : Nat) (K : List D) (z : Int) : F29_58 call L C  (M + 1) vs O J K z =
 (ifK (decide (z < (J : Int)))
 (chkK (decide (0 ≤ z ∧ z < (J : Int)))
 (cellK K (Int.toNat z * 1) fun d =>
 (strK d fun s =>
 (ifK (ByteArray.toList s == ByteArray.toList vs)
 (some (D.bool true))
 (F29_58 call L C M vs O J K (IntKind.wrap .i64 (z + 1)))))))
 (some (D.bool false))) := by kernel_rfl
theorem F29_eq (call : CL) (L : Nat) (C : Nat → Nat) (vs : ByteArray) : evFnT (TEf call L C) O0 N29 FinM.canon Tryz.f29 [D.str vs] =
 (optK (call 44 []) fun r =>
 (slcK r fun f n c =>
 (F29_58 call L C L vs f n c 0))) := by kernel_rfl
def N78 : NTab := fun p => match p with
  | 26 => some { keep := [1, 2, 10, 11], kl := [9], ren := [(2, 2), (9, 9)] }
  | 6758 => some { keep := [1, 2, 7, 10, 11, 15, 16, 17], kl := [9], ren := [(2, 2), (9, 9)] }
  | _ => none
noncomputable def F78a_6758 (call : CL) (L : Nat) (C : Nat → Nat) (n O : Nat) (a4 : List D) (t11 : Int) (K : Bool) (M : Nat) (z : List D) (V : ByteArray) (W X Y a0 : Int) (a2 : Bool) (a3 : Nat) (a1 : List D) (a5 : ByteArray) (S U : Int) : Option D :=
 loopAt (TEf call L C) O0 N78 FinM.canon Tryz.f78 [true, false, true, false, false, true, true, false, false, true, true, false] [n]  O (St.mk (J :: D.fn (Fn.func 79) [] [D.snap a4 0] :: D.loc 2 0 0 :: J :: J :: J :: J :: D.str a5 :: J :: J :: D.agg [D.str (ByteArray.mk #[103, 114, 101, 101, 110]), D.str (ByteArray.mk #[116, 101, 101]), D.str (ByteArray.mk #[98, 117, 110, 107, 101, 114]), D.str (ByteArray.mk #[119, 97, 116, 101, 114]), D.str (ByteArray.mk #[102, 97, 105, 114, 119, 97, 121]), D.str (ByteArray.mk #[114, 111, 117, 103, 104])] :: D.int .i64 t11 :: J :: J :: J :: D.slc K M z :: D.int .i64 S :: D.int .i64 U :: jn 17 []) (Z :: Z :: (1, some (Ob.box [D.str V, D.int .i64 W, D.int .i64 X, D.int .i64 Y, D.int .i64 a0, D.slc a2 a3 a1, D.slc K M z] false)) :: zn 32 []))
noncomputable def F78a_26 (call : CL) (L : Nat) (C : Nat → Nat) (n : Nat) (a1 : List D) (z : ByteArray) (K M O S : Int) (V : Bool) (W : Nat) (U : List D) (Y : Bool) (a0 : Nat) (X : List D) (t11 : Int) : Option D :=
 loopAt (TEf call L C) O0 N78 FinM.canon Tryz.f78 [true, false, true, false] []  n (St.mk (J :: D.fn (Fn.func 79) [] [D.snap a1 0] :: D.loc 2 0 0 :: jn 7 (D.agg [D.str (ByteArray.mk #[103, 114, 101, 101, 110]), D.str (ByteArray.mk #[116, 101, 101]), D.str (ByteArray.mk #[98, 117, 110, 107, 101, 114]), D.str (ByteArray.mk #[119, 97, 116, 101, 114]), D.str (ByteArray.mk #[102, 97, 105, 114, 119, 97, 121]), D.str (ByteArray.mk #[114, 111, 117, 103, 104])] :: D.int .i64 t11 :: jn 23 [])) (Z :: Z :: (1, some (Ob.box [D.str z, D.int .i64 K, D.int .i64 M, D.int .i64 O, D.int .i64 S, D.slc V W U, D.slc Y a0 X] false)) :: zn 32 []))
theorem F78a_6758_eq (call : CL) (L : Nat) (C : Nat → Nat) (n a3 : Nat) (M : List D) (t11 : Int) (a2 : Bool) (K : Nat) (J : List D) (U : ByteArray) (V W X Y : Int) (a0 : Bool) (a1 : Nat) (Z : List D) (O : ByteArray) (S z : Int) : F78a_6758 call L C n (a3 + 1) M t11 a2 K J U V W X Y a0 a1 Z O S z =
 (ifK (decide (z < S))
 (chkK (decide (0 ≤ z ∧ z < (K : Int)))
 (cellK J (Int.toNat z * 2 + 0) fun a5 =>
 (strK a5 fun a4 =>
 (cellK J (Int.toNat z * 2 + 1) fun a6 =>
 (slcK a6 fun f a7 c =>
 (ifK (ByteArray.toList a4 == ByteArray.toList O)
 (optK (call 79 [D.agg [D.str a4, D.slc f a7 c], D.snap M 0]) fun r =>
 (boolK r fun b =>
 (ifK b
 (some (D.tup [D.str O, D.int .i64 z]))
 (F78a_6758 call L C n a3 M t11 a2 K J U V W X Y a0 a1 Z O S (IntKind.wrap .i64 (z + 1))))))
 (F78a_6758 call L C n a3 M t11 a2 K J U V W X Y a0 a1 Z O S (IntKind.wrap .i64 (z + 1)))))))))
 (F78a_26 call L C n M U V W X Y a0 a1 Z a2 K J (IntKind.wrap .i64 (t11 + 1)))) := by kernel_rfl
theorem F78a_26_eq (call : CL) (L : Nat) (C : Nat → Nat) (n : Nat) (Z : List D) (J : ByteArray) (K M O S : Int) (V : Bool) (W : Nat) (U : List D) (Y : Bool) (z : Nat) (X : List D) (t11 : Int) : F78a_26 call L C  (n + 1) Z J K M O S V W U Y z X t11 =
 (ifK (decide (t11 < 6))
 (chkK (decide (0 ≤ t11 ∧ t11 < (6 : Int)))
 (cellK ([D.str (ByteArray.mk #[103, 114, 101, 101, 110]), D.str (ByteArray.mk #[116, 101, 101]), D.str (ByteArray.mk #[98, 117, 110, 107, 101, 114]), D.str (ByteArray.mk #[119, 97, 116, 101, 114]), D.str (ByteArray.mk #[102, 97, 105, 114, 119, 97, 121]), D.str (ByteArray.mk #[114, 111, 117, 103, 104])]) (Int.toNat t11) fun d =>
 (strK d fun s =>
 (F78a_6758 call L C n L Z t11 Y z X J K M O S V W U s ((z : Int)) 0))))
 (some (D.tup [D.str (ByteArray.mk #[111, 117, 116]), D.int .i64 (-1)]))) := by kernel_rfl
theorem F78a_eq (call : CL) (L : Nat) (C : Nat → Nat) (z : ByteArray) (J K M O : Int) (U : Bool) (V : Nat) (S : List D) (X : Bool) (Y : Nat) (W Z : List D) : evFnT (TEf call L C) O0 N78 FinM.canon Tryz.f78 [D.agg [D.str z, D.int .i64 J, D.int .i64 K, D.int .i64 M, D.int .i64 O, D.slc U V S, D.slc X Y W], D.fn (Fn.func 79) [] [D.snap Z 0]] =
 (F78a_26 call L C L Z z J K M O U V S X Y W 0) := by kernel_rfl
noncomputable def F78b_6758 (call : CL) (L : Nat) (C : Nat → Nat) (n O : Nat) (a4 : List D) (t11 : Int) (K : Bool) (M : Nat) (z : List D) (V : ByteArray) (W X Y a0 : Int) (a2 : Bool) (a3 : Nat) (a1 : List D) (a5 : ByteArray) (S U : Int) : Option D :=
 loopAt (TEf call L C) O0 N78 FinM.canon Tryz.f78 [true, false, true, false, false, true, true, false, false, true, true, false] [n]  O (St.mk (J :: D.fn (Fn.func 87) [] [D.snap a4 0] :: D.loc 2 0 0 :: J :: J :: J :: J :: D.str a5 :: J :: J :: D.agg [D.str (ByteArray.mk #[103, 114, 101, 101, 110]), D.str (ByteArray.mk #[116, 101, 101]), D.str (ByteArray.mk #[98, 117, 110, 107, 101, 114]), D.str (ByteArray.mk #[119, 97, 116, 101, 114]), D.str (ByteArray.mk #[102, 97, 105, 114, 119, 97, 121]), D.str (ByteArray.mk #[114, 111, 117, 103, 104])] :: D.int .i64 t11 :: J :: J :: J :: D.slc K M z :: D.int .i64 S :: D.int .i64 U :: jn 17 []) (Z :: Z :: (1, some (Ob.box [D.str V, D.int .i64 W, D.int .i64 X, D.int .i64 Y, D.int .i64 a0, D.slc a2 a3 a1, D.slc K M z] false)) :: zn 32 []))
noncomputable def F78b_26 (call : CL) (L : Nat) (C : Nat → Nat) (n : Nat) (a1 : List D) (z : ByteArray) (K M O S : Int) (V : Bool) (W : Nat) (U : List D) (Y : Bool) (a0 : Nat) (X : List D) (t11 : Int) : Option D :=
 loopAt (TEf call L C) O0 N78 FinM.canon Tryz.f78 [true, false, true, false] []  n (St.mk (J :: D.fn (Fn.func 87) [] [D.snap a1 0] :: D.loc 2 0 0 :: jn 7 (D.agg [D.str (ByteArray.mk #[103, 114, 101, 101, 110]), D.str (ByteArray.mk #[116, 101, 101]), D.str (ByteArray.mk #[98, 117, 110, 107, 101, 114]), D.str (ByteArray.mk #[119, 97, 116, 101, 114]), D.str (ByteArray.mk #[102, 97, 105, 114, 119, 97, 121]), D.str (ByteArray.mk #[114, 111, 117, 103, 104])] :: D.int .i64 t11 :: jn 23 [])) (Z :: Z :: (1, some (Ob.box [D.str z, D.int .i64 K, D.int .i64 M, D.int .i64 O, D.int .i64 S, D.slc V W U, D.slc Y a0 X] false)) :: zn 32 []))
theorem F78b_6758_eq (call : CL) (L : Nat) (C : Nat → Nat) (n a3 : Nat) (M : List D) (t11 : Int) (a2 : Bool) (K : Nat) (J : List D) (U : ByteArray) (V W X Y : Int) (a0 : Bool) (a1 : Nat) (Z : List D) (O : ByteArray) (S z : Int) : F78b_6758 call L C n (a3 + 1) M t11 a2 K J U V W X Y a0 a1 Z O S z =
 (ifK (decide (z < S))
 (chkK (decide (0 ≤ z ∧ z < (K : Int)))
 (cellK J (Int.toNat z * 2 + 0) fun a5 =>
 (strK a5 fun a4 =>
 (cellK J (Int.toNat z * 2 + 1) fun a6 =>
 (slcK a6 fun f a7 c =>
 (ifK (ByteArray.toList a4 == ByteArray.toList O)
 (optK (call 87 [D.agg [D.str a4, D.slc f a7 c], D.snap M 0]) fun r =>
 (boolK r fun b =>
 (ifK b
 (some (D.tup [D.str O, D.int .i64 z]))
 (F78b_6758 call L C n a3 M t11 a2 K J U V W X Y a0 a1 Z O S (IntKind.wrap .i64 (z + 1))))))
 (F78b_6758 call L C n a3 M t11 a2 K J U V W X Y a0 a1 Z O S (IntKind.wrap .i64 (z + 1)))))))))
 (F78b_26 call L C n M U V W X Y a0 a1 Z a2 K J (IntKind.wrap .i64 (t11 + 1)))) := by kernel_rfl
theorem F78b_26_eq (call : CL) (L : Nat) (C : Nat → Nat) (n : Nat) (Z : List D) (J : ByteArray) (K M O S : Int) (V : Bool) (W : Nat) (U : List D) (Y : Bool) (z : Nat) (X : List D) (t11 : Int) : F78b_26 call L C  (n + 1) Z J K M O S V W U Y z X t11 =
 (ifK (decide (t11 < 6))
 (chkK (decide (0 ≤ t11 ∧ t11 < (6 : Int)))
 (cellK ([D.str (ByteArray.mk #[103, 114, 101, 101, 110]), D.str (ByteArray.mk #[116, 101, 101]), D.str (ByteArray.mk #[98, 117, 110, 107, 101, 114]), D.str (ByteArray.mk #[119, 97, 116, 101, 114]), D.str (ByteArray.mk #[102, 97, 105, 114, 119, 97, 121]), D.str (ByteArray.mk #[114, 111, 117, 103, 104])]) (Int.toNat t11) fun d =>
 (strK d fun s =>
 (F78b_6758 call L C n L Z t11 Y z X J K M O S V W U s ((z : Int)) 0))))
 (some (D.tup [D.str (ByteArray.mk #[111, 117, 116]), D.int .i64 (-1)]))) := by kernel_rfl
theorem F78b_eq (call : CL) (L : Nat) (C : Nat → Nat) (z : ByteArray) (J K M O : Int) (U : Bool) (V : Nat) (S : List D) (X : Bool) (Y : Nat) (W Z : List D) : evFnT (TEf call L C) O0 N78 FinM.canon Tryz.f78 [D.agg [D.str z, D.int .i64 J, D.int .i64 K, D.int .i64 M, D.int .i64 O, D.slc U V S, D.slc X Y W], D.fn (Fn.func 87) [] [D.snap Z 0]] =
 (F78b_26 call L C L Z z J K M O U V S X Y W 0) := by kernel_rfl
noncomputable def F78c_6758 (call : CL) (L : Nat) (C : Nat → Nat) (n O : Nat) (a4 : List D) (t11 : Int) (K : Bool) (M : Nat) (z : List D) (V : ByteArray) (W X Y a0 : Int) (a2 : Bool) (a3 : Nat) (a1 : List D) (a5 : ByteArray) (S U : Int) : Option D :=
 loopAt (TEf call L C) O0 N78 FinM.canon Tryz.f78 [true, false, true, false, false, true, true, false, false, true, true, false] [n]  O (St.mk (J :: D.fn (Fn.func 88) [] [D.snap a4 0] :: D.loc 2 0 0 :: J :: J :: J :: J :: D.str a5 :: J :: J :: D.agg [D.str (ByteArray.mk #[103, 114, 101, 101, 110]), D.str (ByteArray.mk #[116, 101, 101]), D.str (ByteArray.mk #[98, 117, 110, 107, 101, 114]), D.str (ByteArray.mk #[119, 97, 116, 101, 114]), D.str (ByteArray.mk #[102, 97, 105, 114, 119, 97, 121]), D.str (ByteArray.mk #[114, 111, 117, 103, 104])] :: D.int .i64 t11 :: J :: J :: J :: D.slc K M z :: D.int .i64 S :: D.int .i64 U :: jn 17 []) (Z :: Z :: (1, some (Ob.box [D.str V, D.int .i64 W, D.int .i64 X, D.int .i64 Y, D.int .i64 a0, D.slc a2 a3 a1, D.slc K M z] false)) :: zn 32 []))
noncomputable def F78c_26 (call : CL) (L : Nat) (C : Nat → Nat) (n : Nat) (a1 : List D) (z : ByteArray) (K M O S : Int) (V : Bool) (W : Nat) (U : List D) (Y : Bool) (a0 : Nat) (X : List D) (t11 : Int) : Option D :=
 loopAt (TEf call L C) O0 N78 FinM.canon Tryz.f78 [true, false, true, false] []  n (St.mk (J :: D.fn (Fn.func 88) [] [D.snap a1 0] :: D.loc 2 0 0 :: jn 7 (D.agg [D.str (ByteArray.mk #[103, 114, 101, 101, 110]), D.str (ByteArray.mk #[116, 101, 101]), D.str (ByteArray.mk #[98, 117, 110, 107, 101, 114]), D.str (ByteArray.mk #[119, 97, 116, 101, 114]), D.str (ByteArray.mk #[102, 97, 105, 114, 119, 97, 121]), D.str (ByteArray.mk #[114, 111, 117, 103, 104])] :: D.int .i64 t11 :: jn 23 [])) (Z :: Z :: (1, some (Ob.box [D.str z, D.int .i64 K, D.int .i64 M, D.int .i64 O, D.int .i64 S, D.slc V W U, D.slc Y a0 X] false)) :: zn 32 []))
theorem F78c_6758_eq (call : CL) (L : Nat) (C : Nat → Nat) (n a3 : Nat) (M : List D) (t11 : Int) (a2 : Bool) (K : Nat) (J : List D) (U : ByteArray) (V W X Y : Int) (a0 : Bool) (a1 : Nat) (Z : List D) (O : ByteArray) (S z : Int) : F78c_6758 call L C n (a3 + 1) M t11 a2 K J U V W X Y a0 a1 Z O S z =
 (ifK (decide (z < S))
 (chkK (decide (0 ≤ z ∧ z < (K : Int)))
 (cellK J (Int.toNat z * 2 + 0) fun a5 =>
 (strK a5 fun a4 =>
 (cellK J (Int.toNat z * 2 + 1) fun a6 =>
 (slcK a6 fun f a7 c =>
 (ifK (ByteArray.toList a4 == ByteArray.toList O)
 (optK (call 88 [D.agg [D.str a4, D.slc f a7 c], D.snap M 0]) fun r =>
 (boolK r fun b =>
 (ifK b
 (some (D.tup [D.str O, D.int .i64 z]))
 (F78c_6758 call L C n a3 M t11 a2 K J U V W X Y a0 a1 Z O S (IntKind.wrap .i64 (z + 1))))))
 (F78c_6758 call L C n a3 M t11 a2 K J U V W X Y a0 a1 Z O S (IntKind.wrap .i64 (z + 1)))))))))
 (F78c_26 call L C n M U V W X Y a0 a1 Z a2 K J (IntKind.wrap .i64 (t11 + 1)))) := by kernel_rfl
theorem F78c_26_eq (call : CL) (L : Nat) (C : Nat → Nat) (n : Nat) (Z : List D) (J : ByteArray) (K M O S : Int) (V : Bool) (W : Nat) (U : List D) (Y : Bool) (z : Nat) (X : List D) (t11 : Int) : F78c_26 call L C  (n + 1) Z J K M O S V W U Y z X t11 =
 (ifK (decide (t11 < 6))
 (chkK (decide (0 ≤ t11 ∧ t11 < (6 : Int)))
 (cellK ([D.str (ByteArray.mk #[103, 114, 101, 101, 110]), D.str (ByteArray.mk #[116, 101, 101]), D.str (ByteArray.mk #[98, 117, 110, 107, 101, 114]), D.str (ByteArray.mk #[119, 97, 116, 101, 114]), D.str (ByteArray.mk #[102, 97, 105, 114, 119, 97, 121]), D.str (ByteArray.mk #[114, 111, 117, 103, 104])]) (Int.toNat t11) fun d =>
 (strK d fun s =>
 (F78c_6758 call L C n L Z t11 Y z X J K M O S V W U s ((z : Int)) 0))))
 (some (D.tup [D.str (ByteArray.mk #[111, 117, 116]), D.int .i64 (-1)]))) := by kernel_rfl
theorem F78c_eq (call : CL) (L : Nat) (C : Nat → Nat) (z : ByteArray) (J K M O : Int) (U : Bool) (V : Nat) (S : List D) (X : Bool) (Y : Nat) (W Z : List D) : evFnT (TEf call L C) O0 N78 FinM.canon Tryz.f78 [D.agg [D.str z, D.int .i64 J, D.int .i64 K, D.int .i64 M, D.int .i64 O, D.slc U V S, D.slc X Y W], D.fn (Fn.func 88) [] [D.snap Z 0]] =
 (F78c_26 call L C L Z z J K M O U V S X Y W 0) := by kernel_rfl
noncomputable def F78d_6758 (call : CL) (L : Nat) (C : Nat → Nat) (n O : Nat) (a4 : List D) (t11 : Int) (K : Bool) (M : Nat) (z : List D) (V : ByteArray) (W X Y a0 : Int) (a2 : Bool) (a3 : Nat) (a1 : List D) (a5 : ByteArray) (S U : Int) : Option D :=
 loopAt (TEf call L C) O0 N78 FinM.canon Tryz.f78 [true, false, true, false, false, true, true, false, false, true, true, false] [n]  O (St.mk (J :: D.fn (Fn.func 101) [] [D.snap a4 0] :: D.loc 2 0 0 :: J :: J :: J :: J :: D.str a5 :: J :: J :: D.agg [D.str (ByteArray.mk #[103, 114, 101, 101, 110]), D.str (ByteArray.mk #[116, 101, 101]), D.str (ByteArray.mk #[98, 117, 110, 107, 101, 114]), D.str (ByteArray.mk #[119, 97, 116, 101, 114]), D.str (ByteArray.mk #[102, 97, 105, 114, 119, 97, 121]), D.str (ByteArray.mk #[114, 111, 117, 103, 104])] :: D.int .i64 t11 :: J :: J :: J :: D.slc K M z :: D.int .i64 S :: D.int .i64 U :: jn 17 []) (Z :: Z :: (1, some (Ob.box [D.str V, D.int .i64 W, D.int .i64 X, D.int .i64 Y, D.int .i64 a0, D.slc a2 a3 a1, D.slc K M z] false)) :: zn 32 []))
noncomputable def F78d_26 (call : CL) (L : Nat) (C : Nat → Nat) (n : Nat) (a1 : List D) (z : ByteArray) (K M O S : Int) (V : Bool) (W : Nat) (U : List D) (Y : Bool) (a0 : Nat) (X : List D) (t11 : Int) : Option D :=
 loopAt (TEf call L C) O0 N78 FinM.canon Tryz.f78 [true, false, true, false] []  n (St.mk (J :: D.fn (Fn.func 101) [] [D.snap a1 0] :: D.loc 2 0 0 :: jn 7 (D.agg [D.str (ByteArray.mk #[103, 114, 101, 101, 110]), D.str (ByteArray.mk #[116, 101, 101]), D.str (ByteArray.mk #[98, 117, 110, 107, 101, 114]), D.str (ByteArray.mk #[119, 97, 116, 101, 114]), D.str (ByteArray.mk #[102, 97, 105, 114, 119, 97, 121]), D.str (ByteArray.mk #[114, 111, 117, 103, 104])] :: D.int .i64 t11 :: jn 23 [])) (Z :: Z :: (1, some (Ob.box [D.str z, D.int .i64 K, D.int .i64 M, D.int .i64 O, D.int .i64 S, D.slc V W U, D.slc Y a0 X] false)) :: zn 32 []))
theorem F78d_6758_eq (call : CL) (L : Nat) (C : Nat → Nat) (n a3 : Nat) (M : List D) (t11 : Int) (a2 : Bool) (K : Nat) (J : List D) (U : ByteArray) (V W X Y : Int) (a0 : Bool) (a1 : Nat) (Z : List D) (O : ByteArray) (S z : Int) : F78d_6758 call L C n (a3 + 1) M t11 a2 K J U V W X Y a0 a1 Z O S z =
 (ifK (decide (z < S))
 (chkK (decide (0 ≤ z ∧ z < (K : Int)))
 (cellK J (Int.toNat z * 2 + 0) fun a5 =>
 (strK a5 fun a4 =>
 (cellK J (Int.toNat z * 2 + 1) fun a6 =>
 (slcK a6 fun f a7 c =>
 (ifK (ByteArray.toList a4 == ByteArray.toList O)
 (optK (call 101 [D.agg [D.str a4, D.slc f a7 c], D.snap M 0]) fun r =>
 (boolK r fun b =>
 (ifK b
 (some (D.tup [D.str O, D.int .i64 z]))
 (F78d_6758 call L C n a3 M t11 a2 K J U V W X Y a0 a1 Z O S (IntKind.wrap .i64 (z + 1))))))
 (F78d_6758 call L C n a3 M t11 a2 K J U V W X Y a0 a1 Z O S (IntKind.wrap .i64 (z + 1)))))))))
 (F78d_26 call L C n M U V W X Y a0 a1 Z a2 K J (IntKind.wrap .i64 (t11 + 1)))) := by kernel_rfl
theorem F78d_26_eq (call : CL) (L : Nat) (C : Nat → Nat) (n : Nat) (Z : List D) (J : ByteArray) (K M O S : Int) (V : Bool) (W : Nat) (U : List D) (Y : Bool) (z : Nat) (X : List D) (t11 : Int) : F78d_26 call L C  (n + 1) Z J K M O S V W U Y z X t11 =
 (ifK (decide (t11 < 6))
 (chkK (decide (0 ≤ t11 ∧ t11 < (6 : Int)))
 (cellK ([D.str (ByteArray.mk #[103, 114, 101, 101, 110]), D.str (ByteArray.mk #[116, 101, 101]), D.str (ByteArray.mk #[98, 117, 110, 107, 101, 114]), D.str (ByteArray.mk #[119, 97, 116, 101, 114]), D.str (ByteArray.mk #[102, 97, 105, 114, 119, 97, 121]), D.str (ByteArray.mk #[114, 111, 117, 103, 104])]) (Int.toNat t11) fun d =>
 (strK d fun s =>
 (F78d_6758 call L C n L Z t11 Y z X J K M O S V W U s ((z : Int)) 0))))
 (some (D.tup [D.str (ByteArray.mk #[111, 117, 116]), D.int .i64 (-1)]))) := by kernel_rfl
theorem F78d_eq (call : CL) (L : Nat) (C : Nat → Nat) (z : ByteArray) (J K M O : Int) (U : Bool) (V : Nat) (S : List D) (X : Bool) (Y : Nat) (W Z : List D) : evFnT (TEf call L C) O0 N78 FinM.canon Tryz.f78 [D.agg [D.str z, D.int .i64 J, D.int .i64 K, D.int .i64 M, D.int .i64 O, D.slc U V S, D.slc X Y W], D.fn (Fn.func 101) [] [D.snap Z 0]] =
 (F78d_26 call L C L Z z J K M O U V S X Y W 0) := by kernel_rfl
theorem F79_eq (call : CL) (L : Nat) (C : Nat → Nat) (O : ByteArray) (K : Bool) (M : Nat) (J : List D) (z t11 : Int) : evFnT (TEf call L C) O0 N0 FinM.canon Tryz.f79 [D.agg [D.str O, D.slc K M J], D.snap [D.int .i64 z, D.int .i64 t11] 0] =
 (optK (call 80 [D.slc K M J, D.agg [D.int .i64 z, D.int .i64 t11]]) fun r =>
 (intK .i64 r fun x =>
 (some (D.bool (decide (x ≥ 0)))))) := by kernel_rfl
theorem F87_eq (call : CL) (L : Nat) (C : Nat → Nat) (a1 : ByteArray) (K : Bool) (M : Nat) (J : List D) (O : ByteArray) (t11 z S U : Int) (W : Bool) (X : Nat) (V : List D) (Z : Bool) (a0 : Nat) (Y : List D) : evFnT (TEf call L C) O0 N0 FinM.canon Tryz.f87 [D.agg [D.str a1, D.slc K M J], D.snap [D.str O, D.int .i64 t11, D.int .i64 z, D.int .i64 S, D.int .i64 U, D.slc W X V, D.slc Z a0 Y] 0] =
 (optK (call 80 [D.slc K M J, D.agg [D.int .i64 t11, D.int .i64 z]]) fun r =>
 (intK .i64 r fun x =>
 (some (D.bool (decide (x ≥ 0)))))) := by kernel_rfl
theorem F88_eq (call : CL) (L : Nat) (C : Nat → Nat) (a1 : ByteArray) (M : Bool) (O : Nat) (K : List D) (S : ByteArray) (t11 U z J : Int) (W : Bool) (X : Nat) (V : List D) (Z : Bool) (a0 : Nat) (Y : List D) : evFnT (TEf call L C) O0 N0 FinM.canon Tryz.f88 [D.agg [D.str a1, D.slc M O K], D.snap [D.str S, D.int .i64 t11, D.int .i64 U, D.int .i64 z, D.int .i64 J, D.slc W X V, D.slc Z a0 Y] 0] =
 (optK (call 80 [D.slc M O K, D.agg [D.int .i64 z, D.int .i64 J]]) fun r =>
 (intK .i64 r fun x =>
 (some (D.bool (decide (x ≥ 0)))))) := by kernel_rfl
theorem F101_eq (call : CL) (L : Nat) (C : Nat → Nat) (O : ByteArray) (K : Bool) (M : Nat) (J : List D) (z t11 : Int) : evFnT (TEf call L C) O0 N0 FinM.canon Tryz.f101 [D.agg [D.str O, D.slc K M J], D.snap [D.int .i64 z, D.int .i64 t11] 0] =
 (optK (call 80 [D.slc K M J, D.agg [D.int .i64 z, D.int .i64 t11]]) fun r =>
 (intK .i64 r fun x =>
 (some (D.bool (decide (x ≥ 0)))))) := by kernel_rfl
def N21 : NTab := fun p => match p with
  | 58 => some { keep := [1, 41, 42, 43], kl := [5], ren := [(1, 1), (5, 5)] }
  | _ => none
noncomputable def F21_58 (call : CL) (L : Nat) (C : Nat → Nat) (n : Nat) (K : Bool) (M : Nat) (z : List D) (U : ByteArray) (V W X Y : Int) (a1 : Bool) (a2 : Nat) (a0 : List D) (O S : Int) : Option D :=
 loopAt (TEf call L C) O0 N21 FinM.canon Tryz.f21 [true, true, false, true, false] []  n (St.mk (J :: D.loc 1 0 0 :: jn 39 (D.slc K M z :: D.int .i64 O :: D.int .i64 S :: jn 41 [])) (Z :: (1, some (Ob.box [D.str U, D.int .i64 V, D.int .i64 W, D.int .i64 X, D.int .i64 Y, D.slc a1 a2 a0, D.slc K M z] false)) :: zn 83 []))
theorem F21_58_eq (call : CL) (L : Nat) (C : Nat → Nat) (n : Nat) (Z : Bool) (K : Nat) (z : List D) (M : ByteArray) (O S U V : Int) (X : Bool) (Y : Nat) (W : List D) (a0 J : Int) : F21_58 call L C  (n + 1) Z K z M O S U V X Y W a0 J =
 (ifK (decide (J < a0))
 (chkK (decide (0 ≤ J ∧ J < (K : Int)))
 (cellK z (Int.toNat J * 2 + 0) fun d =>
 (strK d fun s =>
 (cellK z (Int.toNat J * 2 + 1) fun a6 =>
 (slcK a6 fun f ab c =>
 (optK (call 86 [D.slc true 6 [D.str (ByteArray.mk #[103, 114, 101, 101, 110]), D.str (ByteArray.mk #[116, 101, 101]), D.str (ByteArray.mk #[98, 117, 110, 107, 101, 114]), D.str (ByteArray.mk #[119, 97, 116, 101, 114]), D.str (ByteArray.mk #[102, 97, 105, 114, 119, 97, 121]), D.str (ByteArray.mk #[114, 111, 117, 103, 104])], D.str s]) fun ai =>
 (boolK ai fun a5 =>
 (optK (call 84 [D.bool !a5, D.int .i64 13]) fun aj =>
 (intK .i64 aj fun ap =>
 (optK (call 50 [D.slc f ab c]) fun ak =>
 (intK .i64 ak fun aq =>
 (optK (call 76 [D.slc true 2 [D.int .i64 ap, D.int .i64 aq]]) fun ac =>
 (intK .i64 ac fun a4 =>
 (ifK (a4 != 0)
 (some (D.int .i64 a4))
 (F21_58 call L C n Z K z M O S U V X Y W a0 (IntKind.wrap .i64 (J + 1)))))))))))))))))
 (optK (call 78 [D.agg [D.str M, D.int .i64 O, D.int .i64 S, D.int .i64 U, D.int .i64 V, D.slc X Y W, D.slc Z K z], D.fn (Fn.func 87) [] [D.snap [D.str M, D.int .i64 O, D.int .i64 S, D.int .i64 U, D.int .i64 V, D.slc X Y W, D.slc Z K z] 0]]) fun ad =>
 (tupK ad 2 fun a1 =>
 (cellK a1 0 fun a7 =>
 (strK a7 fun a3 =>
 (cellK a1 1 fun a8 =>
 (intK .i64 a8 fun _x_9 =>
 (optK (call 78 [D.agg [D.str M, D.int .i64 O, D.int .i64 S, D.int .i64 U, D.int .i64 V, D.slc X Y W, D.slc Z K z], D.fn (Fn.func 88) [] [D.snap [D.str M, D.int .i64 O, D.int .i64 S, D.int .i64 U, D.int .i64 V, D.slc X Y W, D.slc Z K z] 0]]) fun ae =>
 (tupK ae 2 fun a2 =>
 (cellK a2 0 fun a9 =>
 (strK a9 fun al =>
 (cellK a2 1 fun aa =>
 (intK .i64 aa fun _x_10 =>
 (ifK (ByteArray.toList a3 == ByteArray.toList (ByteArray.mk #[119, 97, 116, 101, 114]))
 (optK (call 84 [D.bool true, D.int .i64 17]) fun af =>
 (intK .i64 af fun am =>
 (some (D.int .i64 am))))
 (ifK (ByteArray.toList a3 == ByteArray.toList (ByteArray.mk #[111, 117, 116]))
 (optK (call 84 [D.bool true, D.int .i64 17]) fun ag =>
 (intK .i64 ag fun an =>
 (some (D.int .i64 an))))
 (optK (call 84 [D.bool !ByteArray.toList al == ByteArray.toList (ByteArray.mk #[103, 114, 101, 101, 110]), D.int .i64 17]) fun ah =>
 (intK .i64 ah fun ao =>
 (some (D.int .i64 ao))))))))))))))))))) := by kernel_rfl
theorem F21_eq (call : CL) (L : Nat) (C : Nat → Nat) (K : ByteArray) (M O S U : Int) (W : Bool) (z : Nat) (V : List D) (Y : Bool) (J : Nat) (X : List D) : evFnT (TEf call L C) O0 N21 FinM.canon Tryz.f21 [D.agg [D.str K, D.int .i64 M, D.int .i64 O, D.int .i64 S, D.int .i64 U, D.slc W z V, D.slc Y J X]] =
 (optK (call 85 [D.str K]) fun r =>
 (boolK r fun b =>
 (optK (call 84 [D.bool !b, D.int .i64 8]) fun a0 =>
 (intK .i64 a0 fun x =>
 (optK (call 77 [D.slc true 2 [D.int .i64 M, D.int .i64 O, D.int .i64 S, D.int .i64 U]]) fun a1 =>
 (intK .i64 a1 fun a6 =>
 (optK (call 84 [D.bool (decide ((z : Int) > 16)), D.int .i64 5]) fun a2 =>
 (intK .i64 a2 fun a7 =>
 (optK (call 77 [D.slc W z V]) fun a3 =>
 (intK .i64 a3 fun a8 =>
 (optK (call 84 [D.bool (decide ((J : Int) > 32)), D.int .i64 5]) fun a4 =>
 (intK .i64 a4 fun a9 =>
 (optK (call 76 [D.slc true 5 [D.int .i64 x, D.int .i64 a6, D.int .i64 a7, D.int .i64 a8, D.int .i64 a9]]) fun a5 =>
 (intK .i64 a5 fun Z =>
 (ifK (Z != 0)
 (some (D.int .i64 Z))
 (F21_58 call L C L Y J X K M O S U W z V ((J : Int)) 0)))))))))))))))) := by kernel_rfl
theorem F93_eq (call : CL) (L : Nat) (C : Nat → Nat) (z : ByteArray) : evFnT (TEf call L C) O0 N0 FinM.canon Tryz.f93 [D.str z] =
 (ifK (!ByteArray.toList z == ByteArray.toList (ByteArray.mk #[111, 117, 116]))
 (optK (call 86 [D.slc true 6 [D.str (ByteArray.mk #[103, 114, 101, 101, 110]), D.str (ByteArray.mk #[116, 101, 101]), D.str (ByteArray.mk #[98, 117, 110, 107, 101, 114]), D.str (ByteArray.mk #[119, 97, 116, 101, 114]), D.str (ByteArray.mk #[102, 97, 105, 114, 119, 97, 121]), D.str (ByteArray.mk #[114, 111, 117, 103, 104])], D.str z]) fun r =>
 (boolK r fun b =>
 (optK (call 84 [D.bool !b, D.int .i64 13]) fun J =>
 (intK .i64 J fun x =>
 (some (D.int .i64 x))))))
 (optK (call 84 [D.bool false, D.int .i64 13]) fun K =>
 (intK .i64 K fun M =>
 (some (D.int .i64 M))))) := by kernel_rfl
theorem F19_eq (call : CL) (L : Nat) (C : Nat → Nat) (z : ByteArray) (J K M O : Int) (U : Bool) (V : Nat) (S : List D) (X : Bool) (Y : Nat) (W : List D) (Z a0 : Int) : evFnT (TEf call L C) O0 N0 FinM.canon Tryz.f19 [D.agg [D.str z, D.int .i64 J, D.int .i64 K, D.int .i64 M, D.int .i64 O, D.slc U V S, D.slc X Y W], D.agg [D.int .i64 Z, D.int .i64 a0]] =
 (optK (call 21 [D.agg [D.str z, D.int .i64 J, D.int .i64 K, D.int .i64 M, D.int .i64 O, D.slc U V S, D.slc X Y W]]) fun r =>
 (intK .i64 r fun x =>
 (optK (call 77 [D.slc true 1 [D.int .i64 Z, D.int .i64 a0]]) fun a3 =>
 (intK .i64 a3 fun a6 =>
 (optK (call 76 [D.slc true 2 [D.int .i64 x, D.int .i64 a6]]) fun a4 =>
 (intK .i64 a4 fun a1 =>
 (ifK (a1 != 0)
 (some (D.tup [D.str (ByteArray.mk #[]), D.int .i64 0, D.int .i64 a1]))
 (optK (call 78 [D.agg [D.str z, D.int .i64 J, D.int .i64 K, D.int .i64 M, D.int .i64 O, D.slc U V S, D.slc X Y W], D.fn (Fn.func 79) [] [D.snap [D.int .i64 Z, D.int .i64 a0] 0]]) fun a5 =>
 (tupK a5 2 fun c =>
 (cellK c 0 fun d =>
 (strK d fun s =>
 (cellK c 1 fun a2 =>
 (intK .i64 a2 fun a7 =>
 (some (D.tup [D.str s, D.int .i64 a7, D.int .i64 0]))))))))))))))) := by kernel_rfl
def N25 : NTab := fun p => match p with
  | 58 => some { keep := [2, 3, 6, 7], kl := [], ren := [(2, 2), (3, 3)] }
  | 3730 => some { keep := [2, 3, 6, 7, 8], kl := [], ren := [(2, 2), (3, 3)] }
  | _ => none
noncomputable def F25_3730 (call : CL) (L : Nat) (C : Nat → Nat) (z K : Nat) (a6 : Bool) (a7 : Nat) (a5 : List D) (vk : Int) (M : ByteArray) (O S U V : Int) (X : Bool) (Y : Nat) (W : List D) (a1 : Bool) (a2 : Nat) (a0 : List D) (a8 a9 vi : Int) : Option D :=
 loopAt (TEf call L C) O0 N25 FinM.canon Tryz.f25 [true, true, false, true, false, false, true, false, false, true, false] [z]  K (St.mk (J :: J :: D.loc 2 0 0 :: D.loc 3 0 0 :: J :: J :: D.slc a6 a7 a5 :: D.int .i64 vk :: D.int .i64 vi :: jn 41 []) (Z :: Z :: (1, some (Ob.box [D.str M, D.int .i64 O, D.int .i64 S, D.int .i64 U, D.int .i64 V, D.slc X Y W, D.slc a1 a2 a0] false)) :: (1, some (Ob.box [D.int .i64 a8, D.int .i64 a9] false)) :: zn 46 []))
noncomputable def F25_58 (call : CL) (L : Nat) (C : Nat → Nat) (z : Nat) (K : ByteArray) (M O S U : Int) (W : Bool) (X : Nat) (V : List D) (a0 : Bool) (a1 : Nat) (Y : List D) (a6 a7 : Int) (a4 : Bool) (a5 : Nat) (a3 : List D) (vk : Int) : Option D :=
 loopAt (TEf call L C) O0 N25 FinM.canon Tryz.f25 [true, true, false, true, false] []  z (St.mk (J :: J :: D.loc 2 0 0 :: D.loc 3 0 0 :: J :: J :: D.slc a4 a5 a3 :: D.int .i64 vk :: jn 42 []) (Z :: Z :: (1, some (Ob.box [D.str K, D.int .i64 M, D.int .i64 O, D.int .i64 S, D.int .i64 U, D.slc W X V, D.slc a0 a1 Y] false)) :: (1, some (Ob.box [D.int .i64 a6, D.int .i64 a7] false)) :: zn 46 []))
theorem F25_3730_eq (call : CL) (L : Nat) (C : Nat → Nat) (W a7 : Nat) (a6 : Bool) (S : Nat) (O : List D) (J : Int) (X : ByteArray) (Y Z a0 a1 : Int) (a3 : Bool) (a4 : Nat) (a2 : List D) (a5 : Bool) (K : Nat) (M : List D) (U V z : Int) : F25_3730 call L C W (a7 + 1) a6 S O J X Y Z a0 a1 a3 a4 a2 a5 K M U V z =
 (ifK (decide (z < (K : Int)))
 (chkK (decide (0 ≤ z ∧ z < (K : Int)))
 (cellK M (Int.toNat z * 2 + 0) fun d =>
 (strK d fun s =>
 (chkK (decide (0 ≤ J ∧ J < (S : Int)))
 (cellK O (Int.toNat J * 1) fun a9 =>
 (strK a9 fun af =>
 (ifK (ByteArray.toList s == ByteArray.toList af)
 (chkK (decide (0 ≤ z ∧ z < (K : Int)))
 (cellK M (Int.toNat z * 2 + 1) fun aa =>
 (slcK aa fun ac ad a8 =>
 (optK (call 54 [D.slc ac ad a8, D.agg [D.int .i64 U, D.int .i64 V]]) fun ae =>
 (intK .i64 ae fun x =>
 (ifK (decide (x ≥ 0))
 (chkK (decide (0 ≤ J ∧ J < (S : Int)))
 (cellK O (Int.toNat J * 1) fun ab =>
 (strK ab fun ag =>
 (some (D.tup [D.str ag, D.int .i64 z])))))
 (F25_3730 call L C W a7 a6 S O J X Y Z a0 a1 a3 a4 a2 a5 K M U V (IntKind.wrap .i64 (z + 1)))))))))
 (F25_3730 call L C W a7 a6 S O J X Y Z a0 a1 a3 a4 a2 a5 K M U V (IntKind.wrap .i64 (z + 1))))))))))
 (F25_58 call L C W X Y Z a0 a1 a3 a4 a2 a5 K M U V a6 S O (IntKind.wrap .i64 (J + 1)))) := by kernel_rfl
theorem F25_58_eq (call : CL) (L : Nat) (C : Nat → Nat) (K : Nat) (M : ByteArray) (O S U V : Int) (X : Bool) (Y : Nat) (W : List D) (a0 : Bool) (a1 : Nat) (Z : List D) (a4 a5 : Int) (a3 : Bool) (J : Nat) (a2 : List D) (z : Int) : F25_58 call L C  (K + 1) M O S U V X Y W a0 a1 Z a4 a5 a3 J a2 z =
 (ifK (decide (z < (J : Int)))
 (F25_3730 call L C K L a3 J a2 z M O S U V X Y W a0 a1 Z a4 a5 0)
 (some (D.tup [D.str (ByteArray.mk #[111, 117, 116]), D.int .i64 (-1)]))) := by kernel_rfl
theorem F25_eq (call : CL) (L : Nat) (C : Nat → Nat) (z : ByteArray) (J K M O : Int) (U : Bool) (V : Nat) (S : List D) (X : Bool) (Y : Nat) (W : List D) (Z a0 : Int) : evFnT (TEf call L C) O0 N25 FinM.canon Tryz.f25 [D.agg [D.str z, D.int .i64 J, D.int .i64 K, D.int .i64 M, D.int .i64 O, D.slc U V S, D.slc X Y W], D.agg [D.int .i64 Z, D.int .i64 a0]] =
 (optK (call 44 []) fun r =>
 (slcK r fun f n c =>
 (F25_58 call L C L z J K M O U V S X Y W Z a0 f n c 0))) := by kernel_rfl
def N18 : NTab := fun p => match p with
  | 15 => some { keep := [1], kl := [], ren := [(1, 1)] }
  | 250 => some { keep := [1, 3], kl := [], ren := [(1, 1)] }
  | 1018 => some { keep := [1, 4], kl := [], ren := [(1, 1)] }
  | _ => none
noncomputable def F18_1018 (call : CL) (L : Nat) (C : Nat → Nat) (z : Nat) (K : ByteArray) (M O S U : Int) (W : Bool) (X : Nat) (V : List D) (a0 : Bool) (a1 : Nat) (Y : List D) (a2 : Int) : Option D :=
 loopAt (TEf call L C) O0 N18 FinM.canon Tryz.f18 [true, true, true, true, true, true, false, true, false] []  z (St.mk (J :: D.loc 1 0 0 :: J :: J :: D.int .i64 a2 :: jn 90 []) (Z :: (1, some (Ob.box [D.str K, D.int .i64 M, D.int .i64 O, D.int .i64 S, D.int .i64 U, D.slc W X V, D.slc a0 a1 Y] false)) :: zn 93 []))
noncomputable def F18_250 (call : CL) (L : Nat) (C : Nat → Nat) (z : Nat) (K : ByteArray) (M O S U : Int) (W : Bool) (X : Nat) (V : List D) (a0 : Bool) (a1 : Nat) (Y : List D) (vi : Int) : Option D :=
 loopAt (TEf call L C) O0 N18 FinM.canon Tryz.f18 [true, true, true, true, false, true, false] []  z (St.mk (J :: D.loc 1 0 0 :: J :: D.int .i64 vi :: jn 91 []) (Z :: (1, some (Ob.box [D.str K, D.int .i64 M, D.int .i64 O, D.int .i64 S, D.int .i64 U, D.slc W X V, D.slc a0 a1 Y] false)) :: zn 93 []))
noncomputable def F18_15 (call : CL) (L : Nat) (C : Nat → Nat) (z : ByteArray) (K M O S : Int) (V : Bool) (W : Nat) (U : List D) (Y : Bool) (a0 : Nat) (X : List D) : Option D :=
 cutAt (TEf call L C) O0 N18 FinM.canon Tryz.f18 [true, true, true] []  (C 15) (St.mk (J :: D.loc 1 0 0 :: jn 93 []) (Z :: (1, some (Ob.box [D.str z, D.int .i64 K, D.int .i64 M, D.int .i64 O, D.int .i64 S, D.slc V W U, D.slc Y a0 X] false)) :: zn 93 []))
theorem F18_1018_eq (call : CL) (L : Nat) (C : Nat → Nat) (a2 : Nat) (V : ByteArray) (M O S U : Int) (X : Bool) (Y : Nat) (W : List D) (Z : Bool) (J : Nat) (K : List D) (z : Int) : F18_1018 call L C  (a2 + 1) V M O S U X Y W Z J K z =
 (ifK (decide (z < (J : Int)))
 (chkK (decide (0 ≤ z ∧ z < (J : Int)))
 (cellK K (Int.toNat z * 2 + 0) fun a6 =>
 (strK a6 fun s =>
 (optK (call 29 [D.str s]) fun ad =>
 (boolK ad fun a5 =>
 (ifK (!a5)
 (some (D.int .i64 13))
 (chkK (decide (0 ≤ z ∧ z < (J : Int)))
 (cellK K (Int.toNat z * 2 + 1) fun a7 =>
 (slcK a7 fun f ac c =>
 (optK (call 49 [D.slc f ac c]) fun ae =>
 (intK .i64 ae fun a4 =>
 (ifK (a4 != 0)
 (some (D.int .i64 a4))
 (F18_1018 call L C a2 V M O S U X Y W Z J K (IntKind.wrap .i64 (z + 1)))))))))))))))
 (optK (call 25 [D.agg [D.str V, D.int .i64 M, D.int .i64 O, D.int .i64 S, D.int .i64 U, D.slc X Y W, D.slc Z J K], D.agg [D.int .i64 M, D.int .i64 O]]) fun af =>
 (tupK af 2 fun a0 =>
 (cellK a0 0 fun a8 =>
 (strK a8 fun a3 =>
 (cellK a0 1 fun a9 =>
 (intK .i64 a9 fun _x_6 =>
 (optK (call 25 [D.agg [D.str V, D.int .i64 M, D.int .i64 O, D.int .i64 S, D.int .i64 U, D.slc X Y W, D.slc Z J K], D.agg [D.int .i64 S, D.int .i64 U]]) fun ag =>
 (tupK ag 2 fun a1 =>
 (cellK a1 0 fun aa =>
 (strK aa fun ah =>
 (cellK a1 1 fun ab =>
 (intK .i64 ab fun _x_7 =>
 (ifK (ByteArray.toList a3 == ByteArray.toList (ByteArray.mk #[119, 97, 116, 101, 114]))
 (some (D.int .i64 17))
 (ifK (ByteArray.toList a3 == ByteArray.toList (ByteArray.mk #[111, 117, 116]))
 (some (D.int .i64 17))
 (ifK (!ByteArray.toList ah == ByteArray.toList (ByteArray.mk #[103, 114, 101, 101, 110]))
 (some (D.int .i64 17))
 (some (D.int .i64 0)))))))))))))))))) := by kernel_rfl
theorem F18_250_eq (call : CL) (L : Nat) (C : Nat → Nat) (a0 : Nat) (O : ByteArray) (S U V W : Int) (X : Bool) (K : Nat) (J : List D) (Z : Bool) (M : Nat) (Y : List D) (z : Int) : F18_250 call L C  (a0 + 1) O S U V W X K J Z M Y z =
 (ifK (decide (z < (K : Int)))
 (chkK (decide (0 ≤ z ∧ z < (K : Int)))
 (cellK J (Int.toNat z * 2 + 0) fun d =>
 (intK .i64 d fun a3 =>
 (cellK J (Int.toNat z * 2 + 1) fun a1 =>
 (intK .i64 a1 fun a4 =>
 (optK (call 24 [D.agg [D.int .i64 a3, D.int .i64 a4]]) fun a2 =>
 (intK .i64 a2 fun a5 =>
 (ifK (a5 != 0)
 (some (D.int .i64 3))
 (F18_250 call L C a0 O S U V W X K J Z M Y (IntKind.wrap .i64 (z + 1)))))))))))
 (ifK (decide ((M : Int) > 32))
 (some (D.int .i64 5))
 (F18_1018 call L C L O S U V W X K J Z M Y 0))) := by kernel_rfl
theorem F18_15_eq (call : CL) (L : Nat) (C : Nat → Nat) (J : ByteArray) (K M O S : Int) (V : Bool) (z : Nat) (U : List D) (X : Bool) (Y : Nat) (W : List D) (hC : ∀ t, C t = 1) : F18_15 call L C  J K M O S V z U X Y W  =
 (ifK (decide ((z : Int) > 16))
 (some (D.int .i64 5))
 (F18_250 call L C L J K M O S V z U X Y W 0)) := by
  unfold F18_15
  rw [hC]
  kernel_rfl
theorem F18_eq (call : CL) (L : Nat) (C : Nat → Nat) (z : ByteArray) (J K M O : Int) (U : Bool) (V : Nat) (S : List D) (X : Bool) (Y : Nat) (W : List D) : evFnT (TEf call L C) O0 N18 FinM.canon Tryz.f18 [D.agg [D.str z, D.int .i64 J, D.int .i64 K, D.int .i64 M, D.int .i64 O, D.slc U V S, D.slc X Y W]] =
 (optK (call 75 [D.str z]) fun r =>
 (boolK r fun b =>
 (ifK (!b)
 (some (D.int .i64 8))
 (optK (call 24 [D.agg [D.int .i64 J, D.int .i64 K]]) fun Z =>
 (intK .i64 Z fun x =>
 (ifK (x != 0)
 (some (D.int .i64 3))
 (optK (call 24 [D.agg [D.int .i64 M, D.int .i64 O]]) fun a0 =>
 (intK .i64 a0 fun a1 =>
 (ifK (a1 != 0)
 (some (D.int .i64 3))
 (F18_15 call L C z J K M O U V S X Y W)))))))))) := by kernel_rfl
end Go.Pd
end
section
namespace Go.Pd
open Go Go.Proofs Go.RowKit
/-! ### Names -/
def letterI (c : Int) : Bool := (decide (c ≥ 97) && decide (c ≤ 122)) || (decide (c ≥ 65) && decide (c ≤ 90))
def nameAt (s : ByteArray) (i : Nat) : Bool := letterI (byteAt s i) || (i != 0 && ((decide (byteAt s i ≥ 48) && decide (byteAt s i ≤ 57)) || byteAt s i == 95))
def nameGo (s : ByteArray) : Nat → Nat → Bool
  | 0, _ => true
  | m + 1, i => nameAt s i && nameGo s m (i + 1)
def nameV (s : ByteArray) : Bool := ifK (decide ((s.size : Int) < 1)) false (ifK (decide ((s.size : Int) > 24)) false (nameGo s s.size 0))
theorem go75 {call : CL} {s : ByteArray} (hs : s.size ≤ 24) : ∀ (m i fuel : Nat), i + m = s.size → m < fuel → F75_58 call LL C1 fuel s i = some (.bool (nameGo s m i)) := by
  intro m
  induction m with
  | zero =>
    intro i fuel hi hf
    cases fuel with
    | zero => exact absurd hf (Nat.not_lt_zero _)
    | succ fuel =>
      have h1 : decide ((i : Int) < (s.size : Int)) = false := by simp; omega
      rw [F75_58_eq, h1, ifK_false]
      rfl
  | succ m ih =>
    intro i fuel hi hf
    cases fuel with
    | zero => exact absurd hf (Nat.not_lt_zero _)
    | succ fuel =>
      have h1 : decide ((i : Int) < (s.size : Int)) = true := by simp; omega
      have h2 : decide ((0 : Int) ≤ i ∧ Int.toNat (i : Int) < s.size) = true := by simp; omega
      have hw : IntKind.wrap .i64 ((i : Int) + 1) = ((i + 1 : Nat) : Int) := by rw [wrap_in (by omega)]; rfl
      have ih := ih (i + 1) fuel (by omega) (by omega)
      have h467 : F75_467 call LL C1 fuel s i = some (.bool (nameGo s m (i + 1))) := by
        rw [F75_467_eq _ _ _ _ _ _ (fun _ => rfl : ∀ t, C1 t = 1), hw, ih]
      have h37 : ∀ (c : Int) (b : Bool), F75_3731 call LL C1 fuel s i c b = some (.bool ((b || (i != 0 && ((decide (c ≥ 48) && decide (c ≤ 57)) || c == 95))) && nameGo s m (i + 1))) := fun c b => by
        rw [F75_3731_eq _ _ _ _ _ _ _ _ (fun _ => rfl : ∀ t, C1 t = 1), h467]
        have hz : ((i : Int) == 0) = !(i != 0) := by
          cases i <;> rfl
        rw [hz]
        generalize (i != 0) = q1
        generalize decide (c ≥ 48) = q2
        generalize decide (c ≤ 57) = q3
        generalize (c == 95) = q4
        cases b <;> cases q1 <;> cases q2 <;> cases q3 <;> cases q4 <;> rfl
      rw [F75_58_eq, h1, ifK_true, h2, chkK_true, h37, h37, h37, show Int.toNat (i : Int) = i by simp]
      show _ = some (D.bool (nameAt s i && nameGo s m (i + 1)))
      unfold nameAt letterI
      generalize (i != 0 && ((decide (byteAt s i ≥ 48) && decide (byteAt s i ≤ 57)) || byteAt s i == 95)) = q0
      generalize decide (byteAt s i ≥ 97) = q1
      generalize decide (byteAt s i ≤ 122) = q2
      generalize decide (byteAt s i ≥ 65) = q3
      generalize decide (byteAt s i ≤ 90) = q4
      cases q1 <;> cases q2 <;> cases q3 <;> cases q4 <;> rfl
theorem ok75 (s : ByteArray) : OK2 75 [.str s] (.bool (nameV s)) := by
  refine fnT none_ok Tryz.func75 (ord := O0) (N := N75) (by kernel_rfl) ((F75_eq _ _ _ s).trans ?_)
  unfold nameV
  cases decide ((s.size : Int) < 1) with
  | true => rfl
  | false =>
    rw [ifK_false, ifK_false]
    cases h2 : decide ((s.size : Int) > 24) with
    | true => rfl
    | false =>
      simp only [decide_eq_false_iff_not] at h2
      rw [ifK_false, ifK_false, F75_7_eq _ _ _ _ (fun _ => rfl : ∀ t, C1 t = 1)]
      exact go75 (by omega) s.size 0 LL (by omega) (by unfold LL; omega)
theorem ok141 (c : Int) : OK2 141 [.int .i32 c] (.bool (letterI c)) := by
  refine fnT none_ok Tryz.func141 (ord := O0) (N := N0) (by kernel_rfl) ((F141_eq _ _ _ c).trans ?_)
  unfold letterI
  cases decide (c ≥ 97) <;> cases decide (c ≤ 122) <;> cases decide (c ≥ 65) <;> cases decide (c ≤ 90) <;> rfl
def b141 : FuncId → List D → Option D := fun k ds => match k, ds with
  | 141, [.int .i32 c] => some (.bool (letterI c))
  | _, _ => none
theorem b141_ok : CallsT b141 := by
  intro k ds r h
  unfold b141 at h
  split at h
  · cases h; exact ok141 _
  · cases h
theorem a141 (c : Int) : callOf b141 141 [.int .i32 c] = some (.bool (letterI c)) := rfl
theorem byteAt_get {s : ByteArray} {i : Nat} (h : i < s.size) : byteAt s i = (s[i]'h).toNat := by
  unfold byteAt
  have : s[i]? = some s[i] := by simp [h]
  rw [this]
theorem go85 {s : ByteArray} : ∀ (m i fuel : Nat), i + m = s.size → m < fuel → F85_26 (callOf b141) LL C1 fuel s i = some (.bool (nameGo s m i && (!(ByteArray.toList s == ByteArray.toList (ByteArray.mk #[])) && decide ((s.size : Int) ≤ 24)))) := by
  intro m
  induction m with
  | zero =>
    intro i fuel hi hf
    cases fuel with
    | zero => exact absurd hf (Nat.not_lt_zero _)
    | succ fuel =>
      have h1 : decide (i < s.size) = false := by simp; omega
      rw [F85_26_eq, h1, ifK_false]
      show _ = some (D.bool (true && _))
      cases (ByteArray.toList s == ByteArray.toList (ByteArray.mk #[])) <;> rfl
  | succ m ih =>
    intro i fuel hi hf
    cases fuel with
    | zero => exact absurd hf (Nat.not_lt_zero _)
    | succ fuel =>
      have hlt : i < s.size := by omega
      have h1 : decide (i < s.size) = true := by simpa using hlt
      have hz : ((i : Int) == 0) = !(i != 0) := by cases i <;> rfl
      have hb := byteAt_get hlt
      rw [F85_26_eq, h1, ifK_true, a141, optK_some, boolK_bool, hz]
      show _ = some (D.bool ((nameAt s i && nameGo s m (i + 1)) && _))
      by_cases ha : (s[i]'hlt).toNat < 128
      · have hd := decode_ascii s i hlt ha
        rw [hd]
        dsimp only
        rw [ih (i + 1) fuel (by omega) (by omega)]
        unfold nameAt
        rw [hb]
        have e1 : (((s[i]'hlt).toNat : Int) != 95) = !(((s[i]'hlt).toNat : Int) == 95) := rfl
        have e2 : decide (((s[i]'hlt).toNat : Int) ≥ 48) = !decide (((s[i]'hlt).toNat : Int) < 48) := by
          by_cases h : ((s[i]'hlt).toNat : Int) < 48
          · rw [show decide (((s[i]'hlt).toNat : Int) < 48) = true by simpa using h]; simp; omega
          · rw [show decide (((s[i]'hlt).toNat : Int) < 48) = false by simpa using h]; simp; omega
        have e3 : decide (((s[i]'hlt).toNat : Int) ≤ 57) = !decide (((s[i]'hlt).toNat : Int) > 57) := by
          by_cases h : ((s[i]'hlt).toNat : Int) > 57
          · rw [show decide (((s[i]'hlt).toNat : Int) > 57) = true by simpa using h]; simp; omega
          · rw [show decide (((s[i]'hlt).toNat : Int) > 57) = false by simpa using h]; simp; omega
        rw [e1, e2, e3]
        generalize letterI ((s[i]'hlt).toNat : Int) = q1
        generalize (i != 0) = q2
        generalize decide (((s[i]'hlt).toNat : Int) < 48) = q3
        generalize decide (((s[i]'hlt).toNat : Int) > 57) = q4
        generalize (((s[i]'hlt).toNat : Int) == 95) = q5
        generalize nameGo s m (i + 1) = q6
        cases q1 <;> cases q2 <;> cases q3 <;> cases q4 <;> cases q5 <;> cases q6 <;> rfl
      · obtain ⟨hd, _⟩ := decode_high s i hlt (by omega)
        generalize Utf8.decode s i = dd at hd
        have l1 : letterI (dd.1 : Int) = false := by
          unfold letterI
          simp
          omega
        have l2 : ((dd.1 : Int) != 95) = true := by simp; omega
        have l3 : decide ((dd.1 : Int) < 48) = false := by simp; omega
        have l4 : decide ((dd.1 : Int) > 57) = true := by simp; omega
        have n1 : nameAt s i = false := by
          unfold nameAt letterI
          rw [hb]
          simp
          omega
        rw [l1, l2, l3, l4, n1]
        cases (i != 0) <;> rfl
theorem nameV_eq (s : ByteArray) : (nameGo s s.size 0 && (!(ByteArray.toList s == ByteArray.toList (ByteArray.mk #[])) && decide ((s.size : Int) ≤ 24))) = nameV s := by
  unfold nameV
  have h0 : (ByteArray.toList s == ByteArray.toList (ByteArray.mk #[])) = decide ((s.size : Int) < 1) := by
    rw [ByteArray.toList_eq, ByteArray.toList_eq]
    have hsz : s.data.toList.length = s.size := by rw [Array.length_toList]; rfl
    by_cases h : (s.size : Int) < 1
    · rw [show decide ((s.size : Int) < 1) = true by simpa using h]
      have : s.data.toList = [] := List.eq_nil_of_length_eq_zero (by omega)
      rw [this]
      rfl
    · rw [show decide ((s.size : Int) < 1) = false by simpa using h]
      cases hl : s.data.toList with
      | nil => rw [hl] at hsz; simp at hsz; omega
      | cons x l => rfl
  rw [h0]
  have h2 : decide ((s.size : Int) ≤ 24) = !decide ((s.size : Int) > 24) := by
    by_cases h : (s.size : Int) > 24
    · rw [show decide ((s.size : Int) > 24) = true by simpa using h]; simp; omega
    · rw [show decide ((s.size : Int) > 24) = false by simpa using h]; simp; omega
  rw [h2]
  cases decide ((s.size : Int) < 1) <;> cases decide ((s.size : Int) > 24) <;> cases nameGo s s.size 0 <;> rfl
theorem ok85 (s : ByteArray) (hs : s.size < 4611686018427387904) : OK2 85 [.str s] (.bool (nameV s)) := by
  refine fnT b141_ok Tryz.func85 (ord := O0) (N := N85) (by kernel_rfl) ((F85_eq _ _ _ s).trans ?_)
  rw [← nameV_eq]
  exact go85 s.size 0 LL (by omega) (by unfold LL; omega)
end Go.Pd
end
section
namespace Go.Pd
open Go Go.Proofs Go.RowKit
set_option maxRecDepth 100000
abbrev Ar := ByteArray × Bool × List Pt
def arC (a : Ar) : List D := [.str a.1, .slc a.2.1 a.2.2.length (ptsC a.2.2)]
abbrev arD (a : Ar) : D := .agg [.str a.1, .slc a.2.1 a.2.2.length (ptsC a.2.2)]
def arsC (l : List Ar) : List D := l.flatMap arC
section
variable {γ : Type} (pre : List Ar) (x : Ar) (r : List Ar) {k : D → Option γ}
theorem a0 : cellK (arsC (pre ++ x :: r)) (Int.toNat (pre.length : Int) * 2 + 0) k = k (.str x.1) := cell_row pre x r arC 2 (fun _ => rfl) 0 (by omega) k
theorem a1 : cellK (arsC (pre ++ x :: r)) (Int.toNat (pre.length : Int) * 2 + 1) k = k (.slc x.2.1 x.2.2.length (ptsC x.2.2)) := cell_row pre x r arC 2 (fun _ => rfl) 1 (by omega) k
end
theorem ptsC_inj : ∀ {a b : List Pt}, ptsC a = ptsC b → a = b
  | [], [], _ => rfl
  | [], y :: b, h => by cases h
  | x :: a, [], h => by cases h
  | x :: a, y :: b, h => by
    have h : D.int .i64 x.1 :: D.int .i64 x.2 :: ptsC a = D.int .i64 y.1 :: D.int .i64 y.2 :: ptsC b := h
    simp only [List.cons.injEq, D.int.injEq, true_and] at h
    rw [ptsC_inj h.2.2, show x = y from Prod.ext h.1 h.2.1]
theorem arD_inj {a b : Ar} (h : arD a = arD b) : a = b := by
  simp only [arD, D.agg.injEq, List.cons.injEq, D.str.injEq, D.slc.injEq, and_true] at h
  exact Prod.ext h.1 (Prod.ext h.2.1 (ptsC_inj h.2.2.2))
structure Hl where
  name : ByteArray
  tee : Pt
  cup : Pt
  lf : Bool
  line : List Pt
  af : Bool
  areas : List Ar
def Hl.cells (h : Hl) : List D := [.str h.name, .int .i64 h.tee.1, .int .i64 h.tee.2, .int .i64 h.cup.1, .int .i64 h.cup.2, .slc h.lf h.line.length (ptsC h.line), .slc h.af h.areas.length (arsC h.areas)]
abbrev holeD (h : Hl) : D := .agg [.str h.name, .int .i64 h.tee.1, .int .i64 h.tee.2, .int .i64 h.cup.1, .int .i64 h.cup.2, .slc h.lf h.line.length (ptsC h.line), .slc h.af h.areas.length (arsC h.areas)]
abbrev holeS (h : Hl) : D := .snap [.str h.name, .int .i64 h.tee.1, .int .i64 h.tee.2, .int .i64 h.cup.1, .int .i64 h.cup.2, .slc h.lf h.line.length (ptsC h.line), .slc h.af h.areas.length (arsC h.areas)] 0
structure Hl.Ok (h : Hl) : Prop where
  n : h.name.size < 4611686018427387904
  l : h.line.length ≤ 1000
  a : h.areas.length ≤ 1000
  c : ∀ a ∈ h.areas, a.2.2.length ≤ 1000
def seqB (a b : ByteArray) : Bool := ByteArray.toList a == ByteArray.toList b
def kinds6 : List ByteArray := [ByteArray.mk #[103, 114, 101, 101, 110], ByteArray.mk #[116, 101, 101], ByteArray.mk #[98, 117, 110, 107, 101, 114], ByteArray.mk #[119, 97, 116, 101, 114], ByteArray.mk #[102, 97, 105, 114, 119, 97, 121], ByteArray.mk #[114, 111, 117, 103, 104]]
def outS : ByteArray := ByteArray.mk #[111, 117, 116]
def strsC (l : List ByteArray) : List D := l.map D.str
def locI (has : Ar → Bool) (kind : ByteArray) : List Ar → Nat → Option Nat
  | [], _ => none
  | a :: r, i => ifK (seqB a.1 kind) (ifK (has a) (some i) (locI has kind r (i + 1))) (locI has kind r (i + 1))
def locV (has : Ar → Bool) (l : List Ar) : List ByteArray → ByteArray × Int
  | [] => (outS, -1)
  | k :: r => match locI has k l 0 with
    | some i => (k, (i : Int))
    | none => locV has l r
def locD (x : ByteArray × Int) : D := .tup [.str x.1, .int .i64 x.2]
theorem strs_at {γ : Type} {pre r : List ByteArray} {x : ByteArray} {k : D → Option γ} : cellK (strsC (pre ++ x :: r)) (Int.toNat (pre.length : Int)) k = k (.str x) := by
  refine cellK_some ?_ k
  simp [strsC]
theorem strs_at1 {γ : Type} {pre r : List ByteArray} {x : ByteArray} {k : D → Option γ} : cellK (strsC (pre ++ x :: r)) (Int.toNat (pre.length : Int) * 1) k = k (.str x) := by
  rw [Nat.mul_one]
  exact strs_at
def hasA (p : Pt) (a : Ar) : Bool := decide (conGo p (sdL a.2.2) (-1) ≥ 0)
def hasR (p : Pt) (a : Ar) : Bool := decide (conR p (sdL a.2.2) false ≥ 0)
theorem locI_congr {f g : Ar → Bool} {kind : ByteArray} : ∀ {l : List Ar} (i : Nat), (∀ a ∈ l, f a = g a) → locI f kind l i = locI g kind l i
  | [], _, _ => rfl
  | a :: l, i, h => by
    unfold locI
    rw [h a (List.mem_cons_self ..), locI_congr (i + 1) fun b hb => h b (List.mem_cons_of_mem _ hb)]
theorem locV_congr {f g : Ar → Bool} {l : List Ar} (h : ∀ a ∈ l, f a = g a) : ∀ ks, locV f l ks = locV g l ks
  | [] => rfl
  | k :: ks => by
    unfold locV
    rw [locI_congr 0 h, locV_congr h ks]
theorem go78ai {call : CL} {has : Ar → Bool} {cs : List D} {h : Hl} (h1 : ∀ a ∈ h.areas, call 79 [arD a, .snap cs 0] = some (.bool (has a))) (hl : h.areas.length ≤ 1000) {kind : ByteArray} {t11 : Int} {n : Nat} :
    ∀ (r pre : List Ar) (fuel : Nat), pre ++ r = h.areas → r.length < fuel → F78a_6758 call LL C1 n fuel cs t11 h.af h.areas.length (arsC h.areas) h.name h.tee.1 h.tee.2 h.cup.1 h.cup.2 h.lf h.line.length (ptsC h.line) kind (h.areas.length : Int) (pre.length : Int) =
      match locI has kind r pre.length with
      | some i => some (locD (kind, (i : Int)))
      | none => F78a_26 call LL C1 n cs h.name h.tee.1 h.tee.2 h.cup.1 h.cup.2 h.lf h.line.length (ptsC h.line) h.af h.areas.length (arsC h.areas) (IntKind.wrap .i64 (t11 + 1)) := by
  intro r
  induction r with
  | nil =>
    intro pre fuel hn hf
    cases fuel with
    | zero => exact absurd hf (Nat.not_lt_zero _)
    | succ fuel =>
      have hlen : pre.length = h.areas.length := by rw [← hn]; simp
      rw [F78a_6758_eq, hlen, nlt_nat, ifK_false]
      rfl
  | cons x r ih =>
    intro pre fuel hn hf
    cases fuel with
    | zero => exact absurd hf (Nat.not_lt_zero _)
    | succ fuel =>
      have ih := ih (pre ++ [x]) fuel (by rw [app1]; exact hn) (by simp at hf; omega)
      rw [List.length_append, List.length_singleton] at ih
      have hlt : pre.length < h.areas.length := by rw [← hn]; simp
      have e : call 79 [D.agg [.str x.1, .slc x.2.1 x.2.2.length (ptsC x.2.2)], .snap cs 0] = some (.bool (has x)) := h1 x (by rw [← hn]; simp)
      have c0 : ∀ k : D → Option D, cellK (arsC h.areas) (Int.toNat (pre.length : Int) * 2 + 0) k = k (.str x.1) := fun k => by rw [← hn]; exact a0 pre x r
      have c1' : ∀ k : D → Option D, cellK (arsC h.areas) (Int.toNat (pre.length : Int) * 2 + 1) k = k (.slc x.2.1 x.2.2.length (ptsC x.2.2)) := fun k => by rw [← hn]; exact a1 pre x r
      rw [F78a_6758_eq, lt_nat hlt, ifK_true, in_nat hlt, chkK_true, c0, strK_str, c1', slcK_slc, e, optK_some, boolK_bool, show IntKind.wrap .i64 ((pre.length : Int) + 1) = ((pre.length + 1 : Nat) : Int) from wrap_add _ 1 (by omega), ih]
      rw [show locI has kind (x :: r) pre.length = ifK (seqB x.1 kind) (ifK (has x) (some pre.length) (locI has kind r (pre.length + 1))) (locI has kind r (pre.length + 1)) from rfl]
      show ifK (seqB x.1 kind) _ _ = _
      cases seqB x.1 kind
      · rfl
      · cases has x <;> rfl
theorem go78a {call : CL} {has : Ar → Bool} {cs : List D} {h : Hl} (h1 : ∀ a ∈ h.areas, call 79 [arD a, .snap cs 0] = some (.bool (has a))) (hl : h.areas.length ≤ 1000) :
    ∀ (r pre : List ByteArray) (fuel : Nat), pre ++ r = kinds6 → r.length < fuel → F78a_26 call LL C1 fuel cs h.name h.tee.1 h.tee.2 h.cup.1 h.cup.2 h.lf h.line.length (ptsC h.line) h.af h.areas.length (arsC h.areas) (pre.length : Int) = some (locD (locV has h.areas r)) := by
  intro r
  induction r with
  | nil =>
    intro pre fuel hn hf
    cases fuel with
    | zero => exact absurd hf (Nat.not_lt_zero _)
    | succ fuel =>
      have hlen : pre.length = 6 := by
        have := congrArg List.length hn
        simpa [kinds6] using this
      rw [F78a_26_eq, hlen, show decide (((6 : Nat) : Int) < 6) = false from rfl, ifK_false]
      rfl
  | cons x r ih =>
    intro pre fuel hn hf
    cases fuel with
    | zero => exact absurd hf (Nat.not_lt_zero _)
    | succ fuel =>
      have ih := ih (pre ++ [x]) fuel (by rw [app1]; exact hn) (by simp at hf; omega)
      rw [List.length_append, List.length_singleton] at ih
      have hlt : pre.length < 6 := by
        have := congrArg List.length hn
        simp [kinds6] at this
        omega
      have c0 : ∀ k : D → Option D, cellK [D.str (ByteArray.mk #[103, 114, 101, 101, 110]), D.str (ByteArray.mk #[116, 101, 101]), D.str (ByteArray.mk #[98, 117, 110, 107, 101, 114]), D.str (ByteArray.mk #[119, 97, 116, 101, 114]), D.str (ByteArray.mk #[102, 97, 105, 114, 119, 97, 121]), D.str (ByteArray.mk #[114, 111, 117, 103, 104])] (Int.toNat (pre.length : Int)) k = k (.str x) := fun k => by
        show cellK (strsC kinds6) _ k = _
        rw [← hn]
        exact strs_at
      have hi := go78ai h1 hl (kind := x) (t11 := (pre.length : Int)) (n := fuel) h.areas [] LL rfl (by unfold LL; omega)
      rw [show (([] : List Ar).length : Int) = 0 from rfl, show ([] : List Ar).length = 0 from rfl, show IntKind.wrap .i64 ((pre.length : Int) + 1) = ((pre.length + 1 : Nat) : Int) from wrap_add _ 1 (by omega), ih] at hi
      rw [F78a_26_eq, show decide (((pre.length : Nat) : Int) < 6) = true from lt_nat (n := 6) hlt, ifK_true, show decide ((0 : Int) ≤ ((pre.length : Nat) : Int) ∧ ((pre.length : Nat) : Int) < (6 : Int)) = true from in_nat (n := 6) hlt, chkK_true, c0, strK_str, hi]
      rw [show locV has h.areas (x :: r) = (match locI has x h.areas 0 with | some i => (x, (i : Int)) | none => locV has h.areas r) from rfl]
      cases locI has x h.areas 0 <;> rfl
theorem ok78a {has : Ar → Bool} {cs : List D} {h : Hl} (h1 : ∀ a ∈ h.areas, OK2 79 [arD a, .snap cs 0] (.bool (has a))) (hl : h.areas.length ≤ 1000) : OK2 78 [holeD h, .fn (.func 79) [] [.snap cs 0]] (locD (locV has h.areas kinds6)) := by
  obtain ⟨B, hb, e1, _⟩ := exF [⟨79, {a : Ar // a ∈ h.areas}, fun a => [arD a.1, .snap cs 0], fun a => .bool (has a.1)⟩] ⟨⟨fun a => h1 a.1 a.2, fun x y e => by
    have e : [arD x.1, D.snap cs 0] = [arD y.1, D.snap cs 0] := e
    simp only [List.cons.injEq, and_true] at e
    show D.bool (has x.1) = .bool (has y.1)
    rw [arD_inj e], fun _ => rfl⟩, trivial⟩ rfl
  exact fnT hb Tryz.func78 (ord := O0) (N := N78) (by kernel_rfl) ((F78a_eq _ _ _ h.name h.tee.1 h.tee.2 h.cup.1 h.cup.2 h.lf h.line.length (ptsC h.line) h.af h.areas.length (arsC h.areas) cs).trans (go78a (fun a ha => e1 ⟨a, ha⟩) hl kinds6 [] LL rfl (by unfold LL; simp [kinds6])))
theorem go78bi {call : CL} {has : Ar → Bool} {cs : List D} {h : Hl} (h1 : ∀ a ∈ h.areas, call 87 [arD a, .snap cs 0] = some (.bool (has a))) (hl : h.areas.length ≤ 1000) {kind : ByteArray} {t11 : Int} {n : Nat} :
    ∀ (r pre : List Ar) (fuel : Nat), pre ++ r = h.areas → r.length < fuel → F78b_6758 call LL C1 n fuel cs t11 h.af h.areas.length (arsC h.areas) h.name h.tee.1 h.tee.2 h.cup.1 h.cup.2 h.lf h.line.length (ptsC h.line) kind (h.areas.length : Int) (pre.length : Int) =
      match locI has kind r pre.length with
      | some i => some (locD (kind, (i : Int)))
      | none => F78b_26 call LL C1 n cs h.name h.tee.1 h.tee.2 h.cup.1 h.cup.2 h.lf h.line.length (ptsC h.line) h.af h.areas.length (arsC h.areas) (IntKind.wrap .i64 (t11 + 1)) := by
  intro r
  induction r with
  | nil =>
    intro pre fuel hn hf
    cases fuel with
    | zero => exact absurd hf (Nat.not_lt_zero _)
    | succ fuel =>
      have hlen : pre.length = h.areas.length := by rw [← hn]; simp
      rw [F78b_6758_eq, hlen, nlt_nat, ifK_false]
      rfl
  | cons x r ih =>
    intro pre fuel hn hf
    cases fuel with
    | zero => exact absurd hf (Nat.not_lt_zero _)
    | succ fuel =>
      have ih := ih (pre ++ [x]) fuel (by rw [app1]; exact hn) (by simp at hf; omega)
      rw [List.length_append, List.length_singleton] at ih
      have hlt : pre.length < h.areas.length := by rw [← hn]; simp
      have e : call 87 [D.agg [.str x.1, .slc x.2.1 x.2.2.length (ptsC x.2.2)], .snap cs 0] = some (.bool (has x)) := h1 x (by rw [← hn]; simp)
      have c0 : ∀ k : D → Option D, cellK (arsC h.areas) (Int.toNat (pre.length : Int) * 2 + 0) k = k (.str x.1) := fun k => by rw [← hn]; exact a0 pre x r
      have c1' : ∀ k : D → Option D, cellK (arsC h.areas) (Int.toNat (pre.length : Int) * 2 + 1) k = k (.slc x.2.1 x.2.2.length (ptsC x.2.2)) := fun k => by rw [← hn]; exact a1 pre x r
      rw [F78b_6758_eq, lt_nat hlt, ifK_true, in_nat hlt, chkK_true, c0, strK_str, c1', slcK_slc, e, optK_some, boolK_bool, show IntKind.wrap .i64 ((pre.length : Int) + 1) = ((pre.length + 1 : Nat) : Int) from wrap_add _ 1 (by omega), ih]
      rw [show locI has kind (x :: r) pre.length = ifK (seqB x.1 kind) (ifK (has x) (some pre.length) (locI has kind r (pre.length + 1))) (locI has kind r (pre.length + 1)) from rfl]
      show ifK (seqB x.1 kind) _ _ = _
      cases seqB x.1 kind
      · rfl
      · cases has x <;> rfl
theorem go78b {call : CL} {has : Ar → Bool} {cs : List D} {h : Hl} (h1 : ∀ a ∈ h.areas, call 87 [arD a, .snap cs 0] = some (.bool (has a))) (hl : h.areas.length ≤ 1000) :
    ∀ (r pre : List ByteArray) (fuel : Nat), pre ++ r = kinds6 → r.length < fuel → F78b_26 call LL C1 fuel cs h.name h.tee.1 h.tee.2 h.cup.1 h.cup.2 h.lf h.line.length (ptsC h.line) h.af h.areas.length (arsC h.areas) (pre.length : Int) = some (locD (locV has h.areas r)) := by
  intro r
  induction r with
  | nil =>
    intro pre fuel hn hf
    cases fuel with
    | zero => exact absurd hf (Nat.not_lt_zero _)
    | succ fuel =>
      have hlen : pre.length = 6 := by
        have := congrArg List.length hn
        simpa [kinds6] using this
      rw [F78b_26_eq, hlen, show decide (((6 : Nat) : Int) < 6) = false from rfl, ifK_false]
      rfl
  | cons x r ih =>
    intro pre fuel hn hf
    cases fuel with
    | zero => exact absurd hf (Nat.not_lt_zero _)
    | succ fuel =>
      have ih := ih (pre ++ [x]) fuel (by rw [app1]; exact hn) (by simp at hf; omega)
      rw [List.length_append, List.length_singleton] at ih
      have hlt : pre.length < 6 := by
        have := congrArg List.length hn
        simp [kinds6] at this
        omega
      have c0 : ∀ k : D → Option D, cellK [D.str (ByteArray.mk #[103, 114, 101, 101, 110]), D.str (ByteArray.mk #[116, 101, 101]), D.str (ByteArray.mk #[98, 117, 110, 107, 101, 114]), D.str (ByteArray.mk #[119, 97, 116, 101, 114]), D.str (ByteArray.mk #[102, 97, 105, 114, 119, 97, 121]), D.str (ByteArray.mk #[114, 111, 117, 103, 104])] (Int.toNat (pre.length : Int)) k = k (.str x) := fun k => by
        show cellK (strsC kinds6) _ k = _
        rw [← hn]
        exact strs_at
      have hi := go78bi h1 hl (kind := x) (t11 := (pre.length : Int)) (n := fuel) h.areas [] LL rfl (by unfold LL; omega)
      rw [show (([] : List Ar).length : Int) = 0 from rfl, show ([] : List Ar).length = 0 from rfl, show IntKind.wrap .i64 ((pre.length : Int) + 1) = ((pre.length + 1 : Nat) : Int) from wrap_add _ 1 (by omega), ih] at hi
      rw [F78b_26_eq, show decide (((pre.length : Nat) : Int) < 6) = true from lt_nat (n := 6) hlt, ifK_true, show decide ((0 : Int) ≤ ((pre.length : Nat) : Int) ∧ ((pre.length : Nat) : Int) < (6 : Int)) = true from in_nat (n := 6) hlt, chkK_true, c0, strK_str, hi]
      rw [show locV has h.areas (x :: r) = (match locI has x h.areas 0 with | some i => (x, (i : Int)) | none => locV has h.areas r) from rfl]
      cases locI has x h.areas 0 <;> rfl
theorem ok78b {has : Ar → Bool} {cs : List D} {h : Hl} (h1 : ∀ a ∈ h.areas, OK2 87 [arD a, .snap cs 0] (.bool (has a))) (hl : h.areas.length ≤ 1000) : OK2 78 [holeD h, .fn (.func 87) [] [.snap cs 0]] (locD (locV has h.areas kinds6)) := by
  obtain ⟨B, hb, e1, _⟩ := exF [⟨87, {a : Ar // a ∈ h.areas}, fun a => [arD a.1, .snap cs 0], fun a => .bool (has a.1)⟩] ⟨⟨fun a => h1 a.1 a.2, fun x y e => by
    have e : [arD x.1, D.snap cs 0] = [arD y.1, D.snap cs 0] := e
    simp only [List.cons.injEq, and_true] at e
    show D.bool (has x.1) = .bool (has y.1)
    rw [arD_inj e], fun _ => rfl⟩, trivial⟩ rfl
  exact fnT hb Tryz.func78 (ord := O0) (N := N78) (by kernel_rfl) ((F78b_eq _ _ _ h.name h.tee.1 h.tee.2 h.cup.1 h.cup.2 h.lf h.line.length (ptsC h.line) h.af h.areas.length (arsC h.areas) cs).trans (go78b (fun a ha => e1 ⟨a, ha⟩) hl kinds6 [] LL rfl (by unfold LL; simp [kinds6])))
theorem go78ci {call : CL} {has : Ar → Bool} {cs : List D} {h : Hl} (h1 : ∀ a ∈ h.areas, call 88 [arD a, .snap cs 0] = some (.bool (has a))) (hl : h.areas.length ≤ 1000) {kind : ByteArray} {t11 : Int} {n : Nat} :
    ∀ (r pre : List Ar) (fuel : Nat), pre ++ r = h.areas → r.length < fuel → F78c_6758 call LL C1 n fuel cs t11 h.af h.areas.length (arsC h.areas) h.name h.tee.1 h.tee.2 h.cup.1 h.cup.2 h.lf h.line.length (ptsC h.line) kind (h.areas.length : Int) (pre.length : Int) =
      match locI has kind r pre.length with
      | some i => some (locD (kind, (i : Int)))
      | none => F78c_26 call LL C1 n cs h.name h.tee.1 h.tee.2 h.cup.1 h.cup.2 h.lf h.line.length (ptsC h.line) h.af h.areas.length (arsC h.areas) (IntKind.wrap .i64 (t11 + 1)) := by
  intro r
  induction r with
  | nil =>
    intro pre fuel hn hf
    cases fuel with
    | zero => exact absurd hf (Nat.not_lt_zero _)
    | succ fuel =>
      have hlen : pre.length = h.areas.length := by rw [← hn]; simp
      rw [F78c_6758_eq, hlen, nlt_nat, ifK_false]
      rfl
  | cons x r ih =>
    intro pre fuel hn hf
    cases fuel with
    | zero => exact absurd hf (Nat.not_lt_zero _)
    | succ fuel =>
      have ih := ih (pre ++ [x]) fuel (by rw [app1]; exact hn) (by simp at hf; omega)
      rw [List.length_append, List.length_singleton] at ih
      have hlt : pre.length < h.areas.length := by rw [← hn]; simp
      have e : call 88 [D.agg [.str x.1, .slc x.2.1 x.2.2.length (ptsC x.2.2)], .snap cs 0] = some (.bool (has x)) := h1 x (by rw [← hn]; simp)
      have c0 : ∀ k : D → Option D, cellK (arsC h.areas) (Int.toNat (pre.length : Int) * 2 + 0) k = k (.str x.1) := fun k => by rw [← hn]; exact a0 pre x r
      have c1' : ∀ k : D → Option D, cellK (arsC h.areas) (Int.toNat (pre.length : Int) * 2 + 1) k = k (.slc x.2.1 x.2.2.length (ptsC x.2.2)) := fun k => by rw [← hn]; exact a1 pre x r
      rw [F78c_6758_eq, lt_nat hlt, ifK_true, in_nat hlt, chkK_true, c0, strK_str, c1', slcK_slc, e, optK_some, boolK_bool, show IntKind.wrap .i64 ((pre.length : Int) + 1) = ((pre.length + 1 : Nat) : Int) from wrap_add _ 1 (by omega), ih]
      rw [show locI has kind (x :: r) pre.length = ifK (seqB x.1 kind) (ifK (has x) (some pre.length) (locI has kind r (pre.length + 1))) (locI has kind r (pre.length + 1)) from rfl]
      show ifK (seqB x.1 kind) _ _ = _
      cases seqB x.1 kind
      · rfl
      · cases has x <;> rfl
theorem go78c {call : CL} {has : Ar → Bool} {cs : List D} {h : Hl} (h1 : ∀ a ∈ h.areas, call 88 [arD a, .snap cs 0] = some (.bool (has a))) (hl : h.areas.length ≤ 1000) :
    ∀ (r pre : List ByteArray) (fuel : Nat), pre ++ r = kinds6 → r.length < fuel → F78c_26 call LL C1 fuel cs h.name h.tee.1 h.tee.2 h.cup.1 h.cup.2 h.lf h.line.length (ptsC h.line) h.af h.areas.length (arsC h.areas) (pre.length : Int) = some (locD (locV has h.areas r)) := by
  intro r
  induction r with
  | nil =>
    intro pre fuel hn hf
    cases fuel with
    | zero => exact absurd hf (Nat.not_lt_zero _)
    | succ fuel =>
      have hlen : pre.length = 6 := by
        have := congrArg List.length hn
        simpa [kinds6] using this
      rw [F78c_26_eq, hlen, show decide (((6 : Nat) : Int) < 6) = false from rfl, ifK_false]
      rfl
  | cons x r ih =>
    intro pre fuel hn hf
    cases fuel with
    | zero => exact absurd hf (Nat.not_lt_zero _)
    | succ fuel =>
      have ih := ih (pre ++ [x]) fuel (by rw [app1]; exact hn) (by simp at hf; omega)
      rw [List.length_append, List.length_singleton] at ih
      have hlt : pre.length < 6 := by
        have := congrArg List.length hn
        simp [kinds6] at this
        omega
      have c0 : ∀ k : D → Option D, cellK [D.str (ByteArray.mk #[103, 114, 101, 101, 110]), D.str (ByteArray.mk #[116, 101, 101]), D.str (ByteArray.mk #[98, 117, 110, 107, 101, 114]), D.str (ByteArray.mk #[119, 97, 116, 101, 114]), D.str (ByteArray.mk #[102, 97, 105, 114, 119, 97, 121]), D.str (ByteArray.mk #[114, 111, 117, 103, 104])] (Int.toNat (pre.length : Int)) k = k (.str x) := fun k => by
        show cellK (strsC kinds6) _ k = _
        rw [← hn]
        exact strs_at
      have hi := go78ci h1 hl (kind := x) (t11 := (pre.length : Int)) (n := fuel) h.areas [] LL rfl (by unfold LL; omega)
      rw [show (([] : List Ar).length : Int) = 0 from rfl, show ([] : List Ar).length = 0 from rfl, show IntKind.wrap .i64 ((pre.length : Int) + 1) = ((pre.length + 1 : Nat) : Int) from wrap_add _ 1 (by omega), ih] at hi
      rw [F78c_26_eq, show decide (((pre.length : Nat) : Int) < 6) = true from lt_nat (n := 6) hlt, ifK_true, show decide ((0 : Int) ≤ ((pre.length : Nat) : Int) ∧ ((pre.length : Nat) : Int) < (6 : Int)) = true from in_nat (n := 6) hlt, chkK_true, c0, strK_str, hi]
      rw [show locV has h.areas (x :: r) = (match locI has x h.areas 0 with | some i => (x, (i : Int)) | none => locV has h.areas r) from rfl]
      cases locI has x h.areas 0 <;> rfl
theorem ok78c {has : Ar → Bool} {cs : List D} {h : Hl} (h1 : ∀ a ∈ h.areas, OK2 88 [arD a, .snap cs 0] (.bool (has a))) (hl : h.areas.length ≤ 1000) : OK2 78 [holeD h, .fn (.func 88) [] [.snap cs 0]] (locD (locV has h.areas kinds6)) := by
  obtain ⟨B, hb, e1, _⟩ := exF [⟨88, {a : Ar // a ∈ h.areas}, fun a => [arD a.1, .snap cs 0], fun a => .bool (has a.1)⟩] ⟨⟨fun a => h1 a.1 a.2, fun x y e => by
    have e : [arD x.1, D.snap cs 0] = [arD y.1, D.snap cs 0] := e
    simp only [List.cons.injEq, and_true] at e
    show D.bool (has x.1) = .bool (has y.1)
    rw [arD_inj e], fun _ => rfl⟩, trivial⟩ rfl
  exact fnT hb Tryz.func78 (ord := O0) (N := N78) (by kernel_rfl) ((F78c_eq _ _ _ h.name h.tee.1 h.tee.2 h.cup.1 h.cup.2 h.lf h.line.length (ptsC h.line) h.af h.areas.length (arsC h.areas) cs).trans (go78c (fun a ha => e1 ⟨a, ha⟩) hl kinds6 [] LL rfl (by unfold LL; simp [kinds6])))
theorem go78di {call : CL} {has : Ar → Bool} {cs : List D} {h : Hl} (h1 : ∀ a ∈ h.areas, call 101 [arD a, .snap cs 0] = some (.bool (has a))) (hl : h.areas.length ≤ 1000) {kind : ByteArray} {t11 : Int} {n : Nat} :
    ∀ (r pre : List Ar) (fuel : Nat), pre ++ r = h.areas → r.length < fuel → F78d_6758 call LL C1 n fuel cs t11 h.af h.areas.length (arsC h.areas) h.name h.tee.1 h.tee.2 h.cup.1 h.cup.2 h.lf h.line.length (ptsC h.line) kind (h.areas.length : Int) (pre.length : Int) =
      match locI has kind r pre.length with
      | some i => some (locD (kind, (i : Int)))
      | none => F78d_26 call LL C1 n cs h.name h.tee.1 h.tee.2 h.cup.1 h.cup.2 h.lf h.line.length (ptsC h.line) h.af h.areas.length (arsC h.areas) (IntKind.wrap .i64 (t11 + 1)) := by
  intro r
  induction r with
  | nil =>
    intro pre fuel hn hf
    cases fuel with
    | zero => exact absurd hf (Nat.not_lt_zero _)
    | succ fuel =>
      have hlen : pre.length = h.areas.length := by rw [← hn]; simp
      rw [F78d_6758_eq, hlen, nlt_nat, ifK_false]
      rfl
  | cons x r ih =>
    intro pre fuel hn hf
    cases fuel with
    | zero => exact absurd hf (Nat.not_lt_zero _)
    | succ fuel =>
      have ih := ih (pre ++ [x]) fuel (by rw [app1]; exact hn) (by simp at hf; omega)
      rw [List.length_append, List.length_singleton] at ih
      have hlt : pre.length < h.areas.length := by rw [← hn]; simp
      have e : call 101 [D.agg [.str x.1, .slc x.2.1 x.2.2.length (ptsC x.2.2)], .snap cs 0] = some (.bool (has x)) := h1 x (by rw [← hn]; simp)
      have c0 : ∀ k : D → Option D, cellK (arsC h.areas) (Int.toNat (pre.length : Int) * 2 + 0) k = k (.str x.1) := fun k => by rw [← hn]; exact a0 pre x r
      have c1' : ∀ k : D → Option D, cellK (arsC h.areas) (Int.toNat (pre.length : Int) * 2 + 1) k = k (.slc x.2.1 x.2.2.length (ptsC x.2.2)) := fun k => by rw [← hn]; exact a1 pre x r
      rw [F78d_6758_eq, lt_nat hlt, ifK_true, in_nat hlt, chkK_true, c0, strK_str, c1', slcK_slc, e, optK_some, boolK_bool, show IntKind.wrap .i64 ((pre.length : Int) + 1) = ((pre.length + 1 : Nat) : Int) from wrap_add _ 1 (by omega), ih]
      rw [show locI has kind (x :: r) pre.length = ifK (seqB x.1 kind) (ifK (has x) (some pre.length) (locI has kind r (pre.length + 1))) (locI has kind r (pre.length + 1)) from rfl]
      show ifK (seqB x.1 kind) _ _ = _
      cases seqB x.1 kind
      · rfl
      · cases has x <;> rfl
theorem go78d {call : CL} {has : Ar → Bool} {cs : List D} {h : Hl} (h1 : ∀ a ∈ h.areas, call 101 [arD a, .snap cs 0] = some (.bool (has a))) (hl : h.areas.length ≤ 1000) :
    ∀ (r pre : List ByteArray) (fuel : Nat), pre ++ r = kinds6 → r.length < fuel → F78d_26 call LL C1 fuel cs h.name h.tee.1 h.tee.2 h.cup.1 h.cup.2 h.lf h.line.length (ptsC h.line) h.af h.areas.length (arsC h.areas) (pre.length : Int) = some (locD (locV has h.areas r)) := by
  intro r
  induction r with
  | nil =>
    intro pre fuel hn hf
    cases fuel with
    | zero => exact absurd hf (Nat.not_lt_zero _)
    | succ fuel =>
      have hlen : pre.length = 6 := by
        have := congrArg List.length hn
        simpa [kinds6] using this
      rw [F78d_26_eq, hlen, show decide (((6 : Nat) : Int) < 6) = false from rfl, ifK_false]
      rfl
  | cons x r ih =>
    intro pre fuel hn hf
    cases fuel with
    | zero => exact absurd hf (Nat.not_lt_zero _)
    | succ fuel =>
      have ih := ih (pre ++ [x]) fuel (by rw [app1]; exact hn) (by simp at hf; omega)
      rw [List.length_append, List.length_singleton] at ih
      have hlt : pre.length < 6 := by
        have := congrArg List.length hn
        simp [kinds6] at this
        omega
      have c0 : ∀ k : D → Option D, cellK [D.str (ByteArray.mk #[103, 114, 101, 101, 110]), D.str (ByteArray.mk #[116, 101, 101]), D.str (ByteArray.mk #[98, 117, 110, 107, 101, 114]), D.str (ByteArray.mk #[119, 97, 116, 101, 114]), D.str (ByteArray.mk #[102, 97, 105, 114, 119, 97, 121]), D.str (ByteArray.mk #[114, 111, 117, 103, 104])] (Int.toNat (pre.length : Int)) k = k (.str x) := fun k => by
        show cellK (strsC kinds6) _ k = _
        rw [← hn]
        exact strs_at
      have hi := go78di h1 hl (kind := x) (t11 := (pre.length : Int)) (n := fuel) h.areas [] LL rfl (by unfold LL; omega)
      rw [show (([] : List Ar).length : Int) = 0 from rfl, show ([] : List Ar).length = 0 from rfl, show IntKind.wrap .i64 ((pre.length : Int) + 1) = ((pre.length + 1 : Nat) : Int) from wrap_add _ 1 (by omega), ih] at hi
      rw [F78d_26_eq, show decide (((pre.length : Nat) : Int) < 6) = true from lt_nat (n := 6) hlt, ifK_true, show decide ((0 : Int) ≤ ((pre.length : Nat) : Int) ∧ ((pre.length : Nat) : Int) < (6 : Int)) = true from in_nat (n := 6) hlt, chkK_true, c0, strK_str, hi]
      rw [show locV has h.areas (x :: r) = (match locI has x h.areas 0 with | some i => (x, (i : Int)) | none => locV has h.areas r) from rfl]
      cases locI has x h.areas 0 <;> rfl
theorem ok78d {has : Ar → Bool} {cs : List D} {h : Hl} (h1 : ∀ a ∈ h.areas, OK2 101 [arD a, .snap cs 0] (.bool (has a))) (hl : h.areas.length ≤ 1000) : OK2 78 [holeD h, .fn (.func 101) [] [.snap cs 0]] (locD (locV has h.areas kinds6)) := by
  obtain ⟨B, hb, e1, _⟩ := exF [⟨101, {a : Ar // a ∈ h.areas}, fun a => [arD a.1, .snap cs 0], fun a => .bool (has a.1)⟩] ⟨⟨fun a => h1 a.1 a.2, fun x y e => by
    have e : [arD x.1, D.snap cs 0] = [arD y.1, D.snap cs 0] := e
    simp only [List.cons.injEq, and_true] at e
    show D.bool (has x.1) = .bool (has y.1)
    rw [arD_inj e], fun _ => rfl⟩, trivial⟩ rfl
  exact fnT hb Tryz.func78 (ord := O0) (N := N78) (by kernel_rfl) ((F78d_eq _ _ _ h.name h.tee.1 h.tee.2 h.cup.1 h.cup.2 h.lf h.line.length (ptsC h.line) h.af h.areas.length (arsC h.areas) cs).trans (go78d (fun a ha => e1 ⟨a, ha⟩) hl kinds6 [] LL rfl (by unfold LL; simp [kinds6])))
theorem ok79 (p : Pt) (a : Ar) (ha : a.2.2.length ≤ 1000) : OK2 79 [arD a, .snap [.int .i64 p.1, .int .i64 p.2] 0] (.bool (hasA p a)) := by
  obtain ⟨B, hb, e⟩ := one_call (ok80 (f := a.2.1) a.2.2 p ha) rfl
  refine fnT hb Tryz.func79 (ord := O0) (N := N0) (by kernel_rfl) ((F79_eq _ _ _ a.1 a.2.1 _ _ p.1 p.2).trans ?_)
  have e' : callOf B 80 [.slc a.2.1 a.2.2.length (ptsC a.2.2), .agg [.int .i64 p.1, .int .i64 p.2]] = _ := e
  rw [e', optK_some, intK_int]
  rfl
theorem ok101 (p : Pt) (a : Ar) (ha : a.2.2.length ≤ 1000) : OK2 101 [arD a, .snap [.int .i64 p.1, .int .i64 p.2] 0] (.bool (hasA p a)) := by
  obtain ⟨B, hb, e⟩ := one_call (ok80 (f := a.2.1) a.2.2 p ha) rfl
  refine fnT hb Tryz.func101 (ord := O0) (N := N0) (by kernel_rfl) ((F101_eq _ _ _ a.1 a.2.1 _ _ p.1 p.2).trans ?_)
  have e' : callOf B 80 [.slc a.2.1 a.2.2.length (ptsC a.2.2), .agg [.int .i64 p.1, .int .i64 p.2]] = _ := e
  rw [e', optK_some, intK_int]
  rfl
theorem ok87 (h : Hl) (a : Ar) (ha : a.2.2.length ≤ 1000) : OK2 87 [arD a, holeS h] (.bool (hasA h.tee a)) := by
  obtain ⟨B, hb, e⟩ := one_call (ok80 (f := a.2.1) a.2.2 h.tee ha) rfl
  refine fnT hb Tryz.func87 (ord := O0) (N := N0) (by kernel_rfl) ((F87_eq _ _ _ a.1 a.2.1 _ _ _ _ _ _ _ _ _ _ _ _ _).trans ?_)
  have e' : callOf B 80 [.slc a.2.1 a.2.2.length (ptsC a.2.2), .agg [.int .i64 h.tee.1, .int .i64 h.tee.2]] = _ := e
  rw [e', optK_some, intK_int]
  rfl
theorem ok88 (h : Hl) (a : Ar) (ha : a.2.2.length ≤ 1000) : OK2 88 [arD a, holeS h] (.bool (hasA h.cup a)) := by
  obtain ⟨B, hb, e⟩ := one_call (ok80 (f := a.2.1) a.2.2 h.cup ha) rfl
  refine fnT hb Tryz.func88 (ord := O0) (N := N0) (by kernel_rfl) ((F88_eq _ _ _ a.1 a.2.1 _ _ _ _ _ _ _ _ _ _ _ _ _).trans ?_)
  have e' : callOf B 80 [.slc a.2.1 a.2.2.length (ptsC a.2.2), .agg [.int .i64 h.cup.1, .int .i64 h.cup.2]] = _ := e
  rw [e', optK_some, intK_int]
  rfl
def locP (h : Hl) (p : Pt) : ByteArray × Int := locV (hasA p) h.areas kinds6
end Go.Pd
end
section
namespace Go.Pd
open Go Go.Proofs Go.RowKit
set_option maxRecDepth 100000
def idxS (v : ByteArray) : List ByteArray → Nat → Int
  | [], _ => -1
  | s :: r, i => ifK (seqB v s) (i : Int) (idxS v r (i + 1))
theorem go142 {call : CL} {f : Bool} {n : Nat} {v : ByteArray} : ∀ (r pre : List ByteArray) (fuel : Nat), (pre ++ r).length = n → n ≤ 1000 → r.length < fuel → F142_26 call LL C1 fuel f n (strsC (pre ++ r)) v n (pre.length : Int) = some (.int .i64 (idxS v r pre.length)) := by
  intro r
  induction r with
  | nil =>
    intro pre fuel hn hB hf
    cases fuel with
    | zero => exact absurd hf (Nat.not_lt_zero _)
    | succ fuel =>
      subst hn
      rw [F142_26_eq, end_pre, ifK_false]
      rfl
  | cons x r ih =>
    intro pre fuel hn hB hf
    cases fuel with
    | zero => exact absurd hf (Nat.not_lt_zero _)
    | succ fuel =>
      have ih := ih (pre ++ [x]) fuel (by rw [app1]; exact hn) hB (by simp at hf; omega)
      rw [app1, List.length_append, List.length_singleton] at ih
      subst hn
      have hs := step_pre pre x r (by omega)
      rw [List.length_append, List.length_singleton] at hs
      rw [F142_26_eq, lt_pre, ifK_true, in_pre, chkK_true, strs_at1, strK_str, hs, ih]
      rw [show idxS v (x :: r) pre.length = ifK (seqB v x) (pre.length : Int) (idxS v r (pre.length + 1)) from rfl]
      show ifK (seqB v x) _ _ = _
      cases seqB v x <;> rfl
theorem idxS_ge (v : ByteArray) : ∀ (l : List ByteArray) (i : Nat), decide (idxS v l i ≥ 0) = l.any (seqB v)
  | [], _ => rfl
  | p :: r, i => by
    have := idxS_ge v r (i + 1)
    rw [show idxS v (p :: r) i = ifK (seqB v p) (i : Int) (idxS v r (i + 1)) from rfl, List.any_cons]
    cases seqB v p
    · rw [ifK_false, Bool.false_or, this]
    · rw [ifK_true, Bool.true_or, decide_eq_true (by omega)]
theorem ok142 {f : Bool} (l : List ByteArray) (v : ByteArray) (hl : l.length ≤ 1000) : OK2 142 [.slc f l.length (strsC l), .str v] (.int .i64 (idxS v l 0)) :=
  fnT none_ok Tryz.func142 (ord := O0) (N := N142) (by kernel_rfl) ((F142_eq _ _ _ _ _ _ v).trans (go142 (f := f) l [] LL rfl hl (by unfold LL; omega)))
theorem ok86 {f : Bool} (l : List ByteArray) (v : ByteArray) (hl : l.length ≤ 1000) : OK2 86 [.slc f l.length (strsC l), .str v] (.bool (l.any (seqB v))) := by
  obtain ⟨B, hb, e⟩ := one_call (ok142 (f := f) l v hl) rfl
  refine fnT hb Tryz.func86 (ord := O0) (N := N0) (by kernel_rfl) ((F86_eq _ _ _ _ _ _ v).trans ?_)
  rw [e, optK_some, intK_int, idxS_ge]
def kindB (v : ByteArray) : Bool := kinds6.any (seqB v)
def fam86 : Fam := ⟨86, ByteArray, fun v => [.slc true 6 (strsC kinds6), .str v], fun v => .bool (kindB v)⟩
theorem fam86_good : fam86.Good := ⟨fun v => ok86 (f := true) kinds6 v (by simp [kinds6]), fun (x y : ByteArray) e => by
  have e : [D.slc true 6 (strsC kinds6), .str x] = [D.slc true 6 (strsC kinds6), .str y] := e
  cases e
  rfl, fun _ => rfl⟩
def arE (a : Ar) : Int := firstZ [ifK (!kindB a.1) 13 0, polErr a.2.2]
def arsE : List Ar → Int
  | [] => 0
  | a :: r => ifK (arE a != 0) (arE a) (arsE r)
def waterS : ByteArray := ByteArray.mk #[119, 97, 116, 101, 114]
def greenS : ByteArray := ByteArray.mk #[103, 114, 101, 101, 110]
def endE (t c : ByteArray) : Int := ifK (seqB t waterS) 17 (ifK (seqB t outS) 17 (ifK (!seqB c greenS) 17 0))
theorem go21 {call : CL} {h : Hl} (hk : h.Ok) (h86 : ∀ v, call 86 [.slc true 6 (strsC kinds6), .str v] = some (.bool (kindB v))) (h84 : ∀ b e, call 84 [.bool b, .int .i64 e] = some (.int .i64 (ifK b e 0)))
    (h50 : ∀ a ∈ h.areas, call 50 [.slc a.2.1 a.2.2.length (ptsC a.2.2)] = some (.int .i64 (polErr a.2.2))) (h76 : ∀ x y : Int, call 76 [.slc true 2 [.int .i64 x, .int .i64 y]] = some (.int .i64 (firstZ [x, y])))
    (ht : call 78 [holeD h, .fn (.func 87) [] [holeS h]] = some (locD (locP h h.tee))) (hc : call 78 [holeD h, .fn (.func 88) [] [holeS h]] = some (locD (locP h h.cup))) :
    ∀ (r pre : List Ar) (fuel : Nat), pre ++ r = h.areas → r.length < fuel → F21_58 call LL C1 fuel h.af h.areas.length (arsC h.areas) h.name h.tee.1 h.tee.2 h.cup.1 h.cup.2 h.lf h.line.length (ptsC h.line) (h.areas.length : Int) (pre.length : Int) =
      some (.int .i64 (ifK (arsE r != 0) (arsE r) (endE (locP h h.tee).1 (locP h h.cup).1))) := by
  intro r
  have hal := hk.a
  induction r with
  | nil =>
    intro pre fuel hn hf
    cases fuel with
    | zero => exact absurd hf (Nat.not_lt_zero _)
    | succ fuel =>
      have hlen : pre.length = h.areas.length := by rw [← hn]; simp
      have rd : ∀ (x : ByteArray × Int) (k : ByteArray → Int → Option D), (tupK (locD x) 2 fun c => cellK c 0 fun d => strK d fun s => cellK c 1 fun d' => intK .i64 d' fun y => k s y) = k x.1 x.2 := fun _ _ => rfl
      rw [F21_58_eq, hlen, nlt_nat, ifK_false, ht, optK_some, rd, hc, optK_some, rd]
      simp only [h84, optK_some, intK_int]
      rw [show arsE [] = 0 from rfl, show ((0 : Int) != 0) = false from rfl, ifK_false]
      unfold endE seqB waterS outS greenS
      generalize (ByteArray.toList (locP h h.tee).1 == ByteArray.toList (ByteArray.mk #[119, 97, 116, 101, 114])) = b1
      generalize (ByteArray.toList (locP h h.tee).1 == ByteArray.toList (ByteArray.mk #[111, 117, 116])) = b2
      cases b1 <;> cases b2 <;> rfl
  | cons x r ih =>
    intro pre fuel hn hf
    cases fuel with
    | zero => exact absurd hf (Nat.not_lt_zero _)
    | succ fuel =>
      have ih := ih (pre ++ [x]) fuel (by rw [app1]; exact hn) (by simp at hf; omega)
      rw [List.length_append, List.length_singleton] at ih
      have hlt : pre.length < h.areas.length := by rw [← hn]; simp
      have c0 : ∀ k : D → Option D, cellK (arsC h.areas) (Int.toNat (pre.length : Int) * 2 + 0) k = k (.str x.1) := fun k => by rw [← hn]; exact a0 pre x r
      have c1' : ∀ k : D → Option D, cellK (arsC h.areas) (Int.toNat (pre.length : Int) * 2 + 1) k = k (.slc x.2.1 x.2.2.length (ptsC x.2.2)) := fun k => by rw [← hn]; exact a1 pre x r
      have e86 : call 86 [D.slc true 6 [D.str (ByteArray.mk #[103, 114, 101, 101, 110]), D.str (ByteArray.mk #[116, 101, 101]), D.str (ByteArray.mk #[98, 117, 110, 107, 101, 114]), D.str (ByteArray.mk #[119, 97, 116, 101, 114]), D.str (ByteArray.mk #[102, 97, 105, 114, 119, 97, 121]), D.str (ByteArray.mk #[114, 111, 117, 103, 104])], .str x.1] = some (.bool (kindB x.1)) := h86 x.1
      rw [F21_58_eq, lt_nat hlt, ifK_true, in_nat hlt, chkK_true, c0, strK_str, c1', slcK_slc, e86, optK_some, boolK_bool, h84, optK_some, intK_int, h50 x (by rw [← hn]; simp), optK_some, intK_int, h76, optK_some, intK_int,
        show IntKind.wrap .i64 ((pre.length : Int) + 1) = ((pre.length + 1 : Nat) : Int) from wrap_add _ 1 (by omega), ih]
      rw [show arsE (x :: r) = ifK (arE x != 0) (arE x) (arsE r) from rfl, show firstZ [ifK (!kindB x.1) 13 0, polErr x.2.2] = arE x from rfl]
      generalize arE x = z
      cases hz : z != 0 <;> simp only [ifK_true, ifK_false, hz]
def preE (h : Hl) : Int := firstZ [ifK (!nameV h.name) 8 0, ifK ([h.tee, h.cup].any outP) 3 0, ifK (decide ((h.line.length : Int) > 16)) 5 0, ifK (h.line.any outP) 3 0, ifK (decide ((h.areas.length : Int) > 32)) 5 0]
def holeE (h : Hl) : Int := ifK (preE h != 0) (preE h) (ifK (arsE h.areas != 0) (arsE h.areas) (endE (locP h h.tee).1 (locP h h.cup).1))
theorem ok21 (h : Hl) (hk : h.Ok) : OK2 21 [holeD h] (.int .i64 (holeE h)) := by
  obtain ⟨B, hb, e85, e84, e77, e76, e86, e50, e78, _⟩ := exF [one 85 [.str h.name] (.bool (nameV h.name)), famBE 84, ⟨77, Bool, fun b => match b with | true => [.slc true 2 (ptsC [h.tee, h.cup])] | false => [.slc h.lf h.line.length (ptsC h.line)], fun b => match b with | true => .int .i64 (ifK ([h.tee, h.cup].any outP) 3 0) | false => .int .i64 (ifK (h.line.any outP) 3 0)⟩, famFi 76, fam86,
      ⟨50, {a : Ar // a ∈ h.areas}, fun a => [.slc a.1.2.1 a.1.2.2.length (ptsC a.1.2.2)], fun a => .int .i64 (polErr a.1.2.2)⟩, ⟨78, Bool, fun b => match b with | true => [holeD h, .fn (.func 87) [] [holeS h]] | false => [holeD h, .fn (.func 88) [] [holeS h]], fun b => match b with | true => locD (locP h h.tee) | false => locD (locP h h.cup)⟩]
    ⟨one_good (ok85 h.name hk.n) rfl, famBE_good ok84 (fun _ _ => rfl), ⟨fun b => match b with | true => ok77 [h.tee, h.cup] (by simp) | false => ok77 h.line hk.l, fun x y e => by
        cases x <;> cases y
        · rfl
        · have e : [D.slc h.lf h.line.length (ptsC h.line)] = [D.slc true [h.tee, h.cup].length (ptsC [h.tee, h.cup])] := e
          simp only [List.cons.injEq, D.slc.injEq, and_true] at e
          have := ptsC_inj e.2.2
          show D.int .i64 (ifK (h.line.any outP) 3 0) = .int .i64 (ifK ([h.tee, h.cup].any outP) 3 0)
          rw [this]
        · have e : [D.slc true [h.tee, h.cup].length (ptsC [h.tee, h.cup])] = [D.slc h.lf h.line.length (ptsC h.line)] := e
          simp only [List.cons.injEq, D.slc.injEq, and_true] at e
          have := ptsC_inj e.2.2
          show D.int .i64 (ifK ([h.tee, h.cup].any outP) 3 0) = .int .i64 (ifK (h.line.any outP) 3 0)
          rw [this]
        · rfl, fun b => by cases b <;> rfl⟩, famFi_good (fun l hl => ok76 l hl) (fun _ _ => rfl), fam86_good,
      ⟨fun a => ok50 a.1.2.2 (hk.c a.1 a.2), fun x y e => by
        have e : [D.slc x.1.2.1 x.1.2.2.length (ptsC x.1.2.2)] = [D.slc y.1.2.1 y.1.2.2.length (ptsC y.1.2.2)] := e
        simp only [List.cons.injEq, D.slc.injEq, and_true] at e
        show D.int .i64 (polErr x.1.2.2) = .int .i64 (polErr y.1.2.2)
        rw [ptsC_inj e.2.2], fun _ => rfl⟩, ⟨fun b => match b with | true => ok78b (fun a ha => ok87 h a (hk.c a ha)) hk.a | false => ok78c (fun a ha => ok88 h a (hk.c a ha)) hk.a, fun x y e => by
        cases x <;> cases y
        · rfl
        · have e : [holeD h, D.fn (.func 88) [] [holeS h]] = [holeD h, D.fn (.func 87) [] [holeS h]] := e
          simp at e
        · have e : [holeD h, D.fn (.func 87) [] [holeS h]] = [holeD h, D.fn (.func 88) [] [holeS h]] := e
          simp at e
        · rfl, fun b => by cases b <;> rfl⟩, trivial⟩ rfl
  refine fnT hb Tryz.func21 (ord := O0) (N := N21) (by kernel_rfl) ((F21_eq _ _ _ h.name h.tee.1 h.tee.2 h.cup.1 h.cup.2 h.lf h.line.length (ptsC h.line) h.af h.areas.length (arsC h.areas)).trans ?_)
  have f85 : callOf B 85 [.str h.name] = some (.bool (nameV h.name)) := e85 ()
  have f84 : ∀ b e, callOf B 84 [.bool b, .int .i64 e] = some (.int .i64 (ifK b e 0)) := fun b e => e84 (b, e)
  have f77 : callOf B 77 [.slc true 2 [.int .i64 h.tee.1, .int .i64 h.tee.2, .int .i64 h.cup.1, .int .i64 h.cup.2]] = some (.int .i64 (ifK ([h.tee, h.cup].any outP) 3 0)) := e77 true
  have f77l : callOf B 77 [.slc h.lf h.line.length (ptsC h.line)] = some (.int .i64 (ifK (h.line.any outP) 3 0)) := e77 false
  have f76 : callOf B 76 [.slc true 5 [.int .i64 (ifK (!nameV h.name) 8 0), .int .i64 (ifK ([h.tee, h.cup].any outP) 3 0), .int .i64 (ifK (decide ((h.line.length : Int) > 16)) 5 0), .int .i64 (ifK (h.line.any outP) 3 0), .int .i64 (ifK (decide ((h.areas.length : Int) > 32)) 5 0)]] = some (.int .i64 (preE h)) :=
    e76 ⟨[ifK (!nameV h.name) 8 0, ifK ([h.tee, h.cup].any outP) 3 0, ifK (decide ((h.line.length : Int) > 16)) 5 0, ifK (h.line.any outP) 3 0, ifK (decide ((h.areas.length : Int) > 32)) 5 0], by simp⟩
  have main := go21 (call := callOf B) hk (fun v => e86 v) f84 (fun a ha => e50 ⟨a, ha⟩) (fun x y => e76 ⟨[x, y], by simp⟩) (e78 true) (e78 false) h.areas [] LL rfl (by have := hk.a; unfold LL; omega)
  rw [f85, optK_some, boolK_bool, f84, optK_some, intK_int, f77, optK_some, intK_int, f84, optK_some, intK_int, f77l, optK_some, intK_int, f84, optK_some, intK_int, f76, optK_some, intK_int]
  unfold holeE
  generalize preE h = z
  cases hz : z != 0
  · rw [ifK_false, ifK_false]
    exact main
  · rfl
def errLoc (e : Int) (x : ByteArray × Int) : D := ifK (e != 0) (.tup [.str (ByteArray.mk #[]), .int .i64 0, .int .i64 e]) (.tup [.str x.1, .int .i64 x.2, .int .i64 0])
theorem ok19 (h : Hl) (hk : h.Ok) (p : Pt) : OK2 19 [holeD h, ptD p] (errLoc (firstZ [holeE h, ifK (outP p) 3 0]) (locP h p)) := by
  obtain ⟨B, hb, e21, e77, e76, e78, _⟩ := exF [one 21 [holeD h] (.int .i64 (holeE h)), one 77 [.slc true 1 [.int .i64 p.1, .int .i64 p.2]] (.int .i64 (ifK (outP p) 3 0)), famFi 76, one 78 [holeD h, .fn (.func 79) [] [.snap [.int .i64 p.1, .int .i64 p.2] 0]] (locD (locP h p))]
    ⟨one_good (ok21 h hk) rfl, one_good (one_pt p) rfl, famFi_good (fun l hl => ok76 l hl) (fun _ _ => rfl), one_good (ok78a (fun a ha => ok79 p a (hk.c a ha)) hk.a) rfl, trivial⟩ rfl
  refine fnT hb Tryz.func19 (ord := O0) (N := N0) (by kernel_rfl) ((F19_eq _ _ _ h.name h.tee.1 h.tee.2 h.cup.1 h.cup.2 h.lf h.line.length (ptsC h.line) h.af h.areas.length (arsC h.areas) p.1 p.2).trans ?_)
  have f21 : callOf B 21 [holeD h] = some (.int .i64 (holeE h)) := e21 ()
  have f77 : callOf B 77 [.slc true 1 [.int .i64 p.1, .int .i64 p.2]] = some (.int .i64 (ifK (outP p) 3 0)) := e77 ()
  have f76 : callOf B 76 [.slc true 2 [.int .i64 (holeE h), .int .i64 (ifK (outP p) 3 0)]] = some (.int .i64 (firstZ [holeE h, ifK (outP p) 3 0])) := e76 ⟨[holeE h, ifK (outP p) 3 0], by simp⟩
  have f78 : callOf B 78 [holeD h, .fn (.func 79) [] [.snap [.int .i64 p.1, .int .i64 p.2] 0]] = some (locD (locP h p)) := e78 ()
  have rd : ∀ (x : ByteArray × Int) (k : ByteArray → Int → Option D), (tupK (locD x) 2 fun c => cellK c 0 fun d => strK d fun s => cellK c 1 fun d' => intK .i64 d' fun y => k s y) = k x.1 x.2 := fun _ _ => rfl
  rw [f21, optK_some, intK_int, f77, optK_some, intK_int, f76, optK_some, intK_int, f78, optK_some, rd]
  generalize firstZ [holeE h, ifK (outP p) 3 0] = z
  unfold errLoc
  cases z != 0 <;> rfl
end Go.Pd
end
section
namespace Go.Pd
open Go Go.Proofs
set_option maxRecDepth 100000
def N82 : NTab := fun p => match p with
  | 122 => some { keep := [0, 4, 5], kl := [], ren := [] }
  | _ => none
noncomputable def F82_122 (call : CL) (L : Nat) (C : Nat → Nat) (n : Nat) (K M z : Int) : Option D :=
 loopAt (TEf call L C) O0 N82 FinM.canon Tryz.f82 [true, true, true, false, true, false] []  n (St.mk (D.int .i64 K :: J :: J :: J :: D.int .i64 M :: D.int .i64 z :: jn 21 []) (zn 27 []))
theorem F82_122_eq (call : CL) (L : Nat) (C : Nat → Nat) (n : Nat) (K J z : Int) : F82_122 call L C  (n + 1) K J z =
 (ifK (decide (z ≥ 0))
 (chkK (!decide (z < 0))
 (ifK (decide (IntKind.wrap IntKind.u64 (IntKind.wrap IntKind.u64 ((BitVec.toNat (BitVec.ofInt (IntKind.bits IntKind.u64) (IntKind.wrap IntKind.u64 J) ||| BitVec.ofInt (IntKind.bits IntKind.u64) (IntKind.wrap IntKind.u64 (1 * 2 ^ min (Int.toNat z) (IntKind.bits IntKind.u64))))) : Int) * IntKind.wrap IntKind.u64 ((BitVec.toNat (BitVec.ofInt (IntKind.bits IntKind.u64) (IntKind.wrap IntKind.u64 J) ||| BitVec.ofInt (IntKind.bits IntKind.u64) (IntKind.wrap IntKind.u64 (1 * 2 ^ min (Int.toNat z) (IntKind.bits IntKind.u64))))) : Int)) ≤ IntKind.wrap IntKind.u64 K))
 (F82_122 call L C n K (IntKind.wrap .i64 (IntKind.wrap IntKind.u64 ((BitVec.toNat (BitVec.ofInt (IntKind.bits IntKind.u64) (IntKind.wrap IntKind.u64 J) ||| BitVec.ofInt (IntKind.bits IntKind.u64) (IntKind.wrap IntKind.u64 (1 * 2 ^ min (Int.toNat z) (IntKind.bits IntKind.u64))))) : Int))) (IntKind.wrap .i64 (z - 1)))
 (F82_122 call L C n K J (IntKind.wrap .i64 (z - 1)))))
 (some (D.tup [D.int .i64 J, D.int .i64 0]))) := by kernel_rfl
theorem F82_eq (call : CL) (L : Nat) (C : Nat → Nat) (z : Int) : evFnT (TEf call L C) O0 N82 FinM.canon Tryz.f82 [D.int .i64 z] =
 (ifK (decide (z < 0))
 (some (D.tup [D.int .i64 0, D.int .i64 3]))
 (F82_122 call L C L z 0 31)) := by kernel_rfl
theorem F83_eq (call : CL) (L : Nat) (C : Nat → Nat) (z J K M : Int) : evFnT (TEf call L C) O0 N0 FinM.canon Tryz.f83 [D.agg [D.int .i64 z, D.int .i64 J], D.agg [D.int .i64 K, D.int .i64 M]] =
 (optK (call 140 [D.agg [D.int .i64 z, D.int .i64 J], D.agg [D.int .i64 K, D.int .i64 M]]) fun r =>
 (aggK r 2 fun c =>
 (cellK c 0 fun d =>
 (intK .i64 d fun x =>
 (cellK c 1 fun S =>
 (intK .i64 S fun Y =>
 (optK (call 140 [D.agg [D.int .i64 z, D.int .i64 J], D.agg [D.int .i64 K, D.int .i64 M]]) fun W =>
 (aggK W 2 fun O =>
 (cellK O 0 fun U =>
 (intK .i64 U fun Z =>
 (cellK O 1 fun V =>
 (intK .i64 V fun a0 =>
 (optK (call 139 [D.agg [D.int .i64 x, D.int .i64 Y], D.agg [D.int .i64 Z, D.int .i64 a0]]) fun X =>
 (intK .i64 X fun a1 =>
 (some (D.int .i64 a1)))))))))))))))) := by kernel_rfl
end Go.Pd
end
section
namespace Go.Pd
open Go Go.Proofs Go.RowKit
set_option maxRecDepth 100000
def rootGo (n : Nat) : Nat → Nat → Nat
  | 0, o => o
  | k + 1, o => if (o + 2 ^ k) * (o + 2 ^ k) ≤ n then rootGo n k (o + 2 ^ k) else rootGo n k o
def rootN (n : Nat) : Nat := rootGo n 32 0
theorem rootGo_spec (n : Nat) : ∀ (k o : Nat), o * o ≤ n → n < (o + 2 ^ k) * (o + 2 ^ k) → rootGo n k o * rootGo n k o ≤ n ∧ n < (rootGo n k o + 1) * (rootGo n k o + 1)
  | 0, o, h1, h2 => ⟨h1, by rw [Nat.pow_zero] at h2; exact h2⟩
  | k + 1, o, h1, h2 => by
    unfold rootGo
    have e : o + 2 ^ (k + 1) = (o + 2 ^ k) + 2 ^ k := by rw [Nat.pow_succ]; omega
    split
    · exact rootGo_spec n k _ ‹_› (by rw [← e]; exact h2)
    · exact rootGo_spec n k o h1 (by omega)
theorem rootN_spec {n : Nat} (h : n < 2 ^ 64) : rootN n * rootN n ≤ n ∧ n < (rootN n + 1) * (rootN n + 1) :=
  rootGo_spec n 32 0 (Nat.zero_le _) (by simp; omega)
theorem u64_in {x : Int} (h : 0 ≤ x ∧ x < 18446744073709551616) : IntKind.wrap .u64 x = x := by
  rw [IntKind.wrap_u64]; omega
theorem pow_le31 {b : Nat} (h : b ≤ 31) : 2 ^ b ≤ 2147483648 := Nat.pow_le_pow_right (n := 2) (by omega) h
theorem or_bit {o b : Nat} (hb : b ≤ 31) (ho : o % 2 ^ (b + 1) = 0) (hlt : o + 2 ^ b < 4294967296) :
    ((BitVec.toNat (BitVec.ofInt (IntKind.bits IntKind.u64) (IntKind.wrap IntKind.u64 (o : Int)) ||| BitVec.ofInt (IntKind.bits IntKind.u64) (IntKind.wrap IntKind.u64 (1 * 2 ^ min (Int.toNat (b : Int)) (IntKind.bits IntKind.u64))))) : Int) = ((o + 2 ^ b : Nat) : Int) := by
  have hp := pow_le31 hb
  have e1 : (1 * 2 ^ min (Int.toNat (b : Int)) (IntKind.bits IntKind.u64) : Int) = ((2 ^ b : Nat) : Int) := by
    rw [Int.toNat_natCast, show min b (IntKind.bits IntKind.u64) = b from Nat.min_eq_left (by show b ≤ 64; omega)]
    simp
  rw [e1, u64_in (show (0 : Int) ≤ (o : Int) ∧ (o : Int) < 18446744073709551616 by omega), u64_in (show (0 : Int) ≤ ((2 ^ b : Nat) : Int) ∧ ((2 ^ b : Nat) : Int) < 18446744073709551616 by omega)]
  rw [BitVec.toNat_or, BitVec.toNat_ofInt, BitVec.toNat_ofInt]
  have m1 : ((o : Int) % ((2 ^ IntKind.bits IntKind.u64 : Nat) : Int)).toNat = o := by
    show ((o : Int) % ((18446744073709551616 : Nat) : Int)).toNat = o
    omega
  have m2 : ((((2 ^ b : Nat) : Int)) % ((2 ^ IntKind.bits IntKind.u64 : Nat) : Int)).toNat = 2 ^ b := by
    show ((((2 ^ b : Nat) : Int)) % ((18446744073709551616 : Nat) : Int)).toNat = 2 ^ b
    omega
  rw [m1, m2]
  obtain ⟨a, ha⟩ : ∃ a, o = 2 ^ (b + 1) * a := ⟨o / 2 ^ (b + 1), by
    have := Nat.div_add_mod o (2 ^ (b + 1))
    omega⟩
  have := Nat.two_pow_add_eq_or_of_lt (i := b + 1) (b := 2 ^ b) (by rw [Nat.pow_succ]; have := Nat.two_pow_pos b; omega) a
  rw [ha, ← this]
theorem go82 {call : CL} {n : Nat} (hn : n < 9223372036854775808) : ∀ (k o fuel : Nat), k ≤ 32 → k < fuel → o % 2 ^ k = 0 → o + 2 ^ k ≤ 4294967296 → F82_122 call LL C1 fuel (n : Int) (o : Int) ((k : Int) - 1) = some (.tup [.int .i64 (rootGo n k o), .int .i64 0])
  | 0, o, fuel + 1, _, _, _, _ => by
    rw [F82_122_eq, show decide (((0 : Nat) : Int) - 1 ≥ 0) = false from rfl, ifK_false]
    rfl
  | k + 1, o, fuel + 1, hk, hf, hm, ho => by
    have ek : ((k + 1 : Nat) : Int) - 1 = (k : Int) := by omega
    have hp := pow_le31 (show k ≤ 31 by omega)
    have h2k : 2 ^ (k + 1) = 2 ^ k + 2 ^ k := by rw [Nat.pow_succ]; omega
    have hx : o + 2 ^ k < 4294967296 := by have := Nat.two_pow_pos k; omega
    have hor := or_bit (o := o) (b := k) (by omega) hm hx
    have hmk : o % 2 ^ k = 0 := by
      obtain ⟨a, ha⟩ : ∃ a, o = 2 ^ (k + 1) * a := ⟨o / 2 ^ (k + 1), by have := Nat.div_add_mod o (2 ^ (k + 1)); omega⟩
      rw [ha, Nat.pow_succ, Nat.mul_assoc]
      exact Nat.mul_mod_right _ _
    have hmk' : (o + 2 ^ k) % 2 ^ k = 0 := by rw [Nat.add_mod_right]; exact hmk
    have hbd : (o + 2 ^ k) * (o + 2 ^ k) ≤ 4294967295 * 4294967295 := Nat.mul_le_mul (by omega) (by omega)
    have ih1 := go82 (call := call) hn k (o + 2 ^ k) fuel (by omega) (by omega) hmk' (by omega)
    have ih2 := go82 (call := call) hn k o fuel (by omega) (by omega) hmk (by omega)
    rw [F82_122_eq, ek, hor, u64_in (show (0 : Int) ≤ ((o + 2 ^ k : Nat) : Int) ∧ ((o + 2 ^ k : Nat) : Int) < 18446744073709551616 by omega), u64_in (show (0 : Int) ≤ (n : Int) ∧ (n : Int) < 18446744073709551616 by omega),
      show ((o + 2 ^ k : Nat) : Int) * ((o + 2 ^ k : Nat) : Int) = (((o + 2 ^ k) * (o + 2 ^ k) : Nat) : Int) from (Int.natCast_mul _ _).symm,
      u64_in (show (0 : Int) ≤ (((o + 2 ^ k) * (o + 2 ^ k) : Nat) : Int) ∧ (((o + 2 ^ k) * (o + 2 ^ k) : Nat) : Int) < 18446744073709551616 by omega),
      show decide ((k : Int) ≥ 0) = true from decide_eq_true (by omega), ifK_true, show (!decide ((k : Int) < 0)) = true by simp, chkK_true,
      wrap_in (y := ((o + 2 ^ k : Nat) : Int)) (by omega), wrap_in (show -9223372036854775808 ≤ (k : Int) - 1 ∧ (k : Int) - 1 ≤ 9223372036854775807 by omega), ih1, ih2]
    rw [show rootGo n (k + 1) o = if (o + 2 ^ k) * (o + 2 ^ k) ≤ n then rootGo n k (o + 2 ^ k) else rootGo n k o from rfl]
    by_cases hc : (o + 2 ^ k) * (o + 2 ^ k) ≤ n
    · rw [if_pos hc, decide_eq_true (Int.ofNat_le.2 hc), ifK_true]
    · rw [if_neg hc, decide_eq_false (fun h => hc (Int.ofNat_le.1 h)), ifK_false]
theorem ok82 {n : Nat} (hn : n < 9223372036854775808) : OK2 82 [.int .i64 (n : Int)] (.tup [.int .i64 (rootN n), .int .i64 0]) := by
  refine fnT none_ok Tryz.func82 (ord := O0) (N := N82) (by kernel_rfl) ((F82_eq _ _ _ (n : Int)).trans ?_)
  rw [show decide ((n : Int) < 0) = false from decide_eq_false (by omega), ifK_false]
  exact go82 (call := callOf fun _ _ => none) hn 32 0 LL (by omega) (by unfold LL; omega) (Nat.zero_mod _) (by decide)
/-! ### Squares of distances -/
def sqW (a b : Pt) : Int := dtW (mnsW a b) (mnsW a b)
theorem ok83 (a b : Pt) : OK2 83 [ptD a, ptD b] (.int .i64 (sqW a b)) := by
  obtain ⟨B, hb, h140, h139, _⟩ := exF [famPP 140 fun a b => ptD (mnsW a b), famPP 139 fun a b => .int .i64 (dtW a b)] ⟨famPP_good ok140 (fun _ _ => rfl), famPP_good ok139 (fun _ _ => rfl), trivial⟩ rfl
  refine fnT hb Tryz.func83 (ord := O0) (N := N0) (by kernel_rfl) ((F83_eq _ _ _ a.1 a.2 b.1 b.2).trans ?_)
  have e1 : callOf B 140 [.agg [.int .i64 a.1, .int .i64 a.2], .agg [.int .i64 b.1, .int .i64 b.2]] = some (ptD (mnsW a b)) := h140 (a, b)
  have e2 : callOf B 139 [.agg [.int .i64 (mnsW a b).1, .int .i64 (mnsW a b).2], .agg [.int .i64 (mnsW a b).1, .int .i64 (mnsW a b).2]] = some (.int .i64 (dtW (mnsW a b) (mnsW a b))) := h139 (mnsW a b, mnsW a b)
  have rd : ∀ (x : Pt) (k : Int → Int → Option D), (aggK (ptD x) 2 fun c => cellK c 0 fun d => intK .i64 d fun u => cellK c 1 fun d' => intK .i64 d' fun v => k u v) = k x.1 x.2 := fun _ _ => rfl
  rw [e1, optK_some, rd, optK_some, rd, e2, optK_some, intK_int]
  rfl
def sqN (a b : Pt) : Nat := (dt (mns a b) (mns a b)).toNat
theorem sq_eq {a b : Pt} (ha : InP a) (hb : InP b) : sqW a b = (sqN a b : Int) ∧ sqN a b ≤ 8000000000000 := by
  have hd := mns_in ha hb
  unfold sqW sqN
  rw [mns_eq ha hb, dt_eq hd hd]
  have h1 := mul_bd hd.1 hd.1
  have h2 := mul_bd hd.2 hd.2
  have p1 := sq_nonneg' (mns a b).1
  have p2 := sq_nonneg' (mns a b).2
  unfold dt
  omega
end Go.Pd
end
section
namespace Go.Pd
open Go Go.Proofs
set_option maxRecDepth 100000
def N42 : NTab := fun p => match p with
  | 58 => some { keep := [0, 1, 5], kl := [], ren := [] }
  | _ => none
noncomputable def F42_58 (call : CL) (L : Nat) (C : Nat → Nat) (n : Nat) (K : Bool) (M : Nat) (z : List D) (S : Bool) (U : Nat) (O : List D) (V : Int) : Option D :=
 loopAt (TEf call L C) O0 N42 FinM.canon Tryz.f42 [true, true, false, true, false] []  n (St.mk (D.slc K M z :: D.slc S U O :: J :: J :: J :: D.int .i64 V :: jn 20 []) (zn 26 []))
theorem F42_58_eq (call : CL) (L : Nat) (C : Nat → Nat) (n : Nat) (S : Bool) (J : Nat) (K : List D) (U : Bool) (O : Nat) (M : List D) (z : Int) : F42_58 call L C  (n + 1) S J K U O M z =
 (ifK (decide (z < (J : Int)))
 (chkK (decide (0 ≤ z ∧ z < (J : Int)))
 (cellK K (Int.toNat z * 1) fun d =>
 (intK .i64 d fun x =>
 (chkK (decide (0 ≤ z ∧ z < (O : Int)))
 (cellK M (Int.toNat z * 1) fun V =>
 (intK .i64 V fun W =>
 (ifK (x != W)
 (some (D.bool false))
 (F42_58 call L C n S J K U O M (IntKind.wrap .i64 (z + 1))))))))))
 (some (D.bool true))) := by kernel_rfl
theorem F42_eq (call : CL) (L : Nat) (C : Nat → Nat) (M : Bool) (z : Nat) (K : List D) (S : Bool) (J : Nat) (O : List D) : evFnT (TEf call L C) O0 N42 FinM.canon Tryz.f42 [D.slc M z K, D.slc S J O] =
 (ifK ((z : Int) != (J : Int))
 (some (D.bool false))
 (F42_58 call L C L M z K S J O 0)) := by kernel_rfl
end Go.Pd
end
section
namespace Go.Pd
open Go Go.Proofs Go.RowKit
set_option maxRecDepth 100000
theorem rootN_le {n : Nat} (h : n ≤ 8000000000000) : rootN n ≤ 2828428 := by
  have hs := (rootN_spec (n := n) (by omega)).1
  by_cases hc : rootN n ≤ 2828428
  · exact hc
  · have := Nat.mul_le_mul (show 2828429 ≤ rootN n by omega) (show 2828429 ≤ rootN n by omega)
    omega
def lenN (cup : Pt) : Pt → List Pt → Nat
  | at', [] => rootN (sqN at' cup)
  | at', p :: r => rootN (sqN at' p) + lenN cup p r
/-! ### Lists that are the same -/
theorem go42 {call : CL} {f g : Bool} : ∀ (r pre : List Int) (fuel : Nat), (pre ++ r).length ≤ 4611686018427387904 → r.length < fuel → F42_58 call LL C1 fuel f (pre ++ r).length (ints (pre ++ r)) g (pre ++ r).length (ints (pre ++ r)) (pre.length : Int) = some (.bool true)
  | [], pre, fuel + 1, _, _ => by rw [F42_58_eq, end_pre, ifK_false]
  | x :: r, pre, fuel + 1, hB, hf => by
    have ih := go42 (call := call) (f := f) (g := g) r (pre ++ [x]) fuel (by rw [app1]; exact hB) (by simp at hf; omega)
    rw [app1] at ih
    rw [F42_58_eq, lt_pre, ifK_true, in_pre, chkK_true, cell_ints, intK_int, chkK_true, cell_ints, intK_int, step_pre _ _ _ hB, ih, show (x != x) = false by simp, ifK_false]
theorem ok42 {f g : Bool} (l : List Int) (hl : l.length < 4611686018427387904) : OK2 42 [.slc f l.length (ints l), .slc g l.length (ints l)] (.bool true) := by
  refine fnT none_ok Tryz.func42 (ord := O0) (N := N42) (by kernel_rfl) ((F42_eq _ _ _ _ _ _ _ _ _).trans ?_)
  rw [show ((l.length : Int) != l.length) = false by simp, ifK_false]
  exact go42 (f := f) (g := g) l [] LL (by simp; omega) (by unfold LL; omega)
end Go.Pd
end
section
namespace Go.Pd
open Go Go.Proofs Go.RowKit
set_option maxRecDepth 100000
def lcloneP_ren : Go.Shelf.Ren := ⟨fun | 41 => 81 | n => n, fun | 22 => 24 | 23 => 23 | 4 => 4 | n => n, fun | n => n⟩
theorem lcloneP : Go.Proofs.SlLaysE0.n41 Tryz.prog lcloneP_ren := {
  mixed := by kernel_rfl
  f41 := ⟨Tryz.f81.name, by decide, Tryz.func81.trans (congrArg some (by kernel_rfl))⟩
  t4 := Tryz.underlying4
  a4 := Tryz.isAgg4
  z4 := Tryz.sizeOf4
  v4 := Tryz.zeroValue4
  t22 := Tryz.underlying24
  a22 := Tryz.isAgg24
  z22 := Tryz.sizeOf24
  v22 := Tryz.zeroValue24 }
noncomputable def placeI : TypeInfo := (Tryz.prog.info? 23).get (by kernel_rfl)
theorem spot_none {w : World} {a : Addr} {v : Value} (h : w.cell? a = some v) : a.spot = none := by
  unfold World.cell? at h
  split at h
  · split at h
    · cases h
    · rename_i hs
      cases e : a.spot with
      | none => rfl
      | some x => rw [e] at hs; exact absurd rfl hs
  · cases h
theorem one_arg {vs : Array Value} (h : 1 = vs.size) : ∃ v, vs = #[v] := by
  refine ⟨vs[0], ?_⟩
  apply Array.ext
  · simp [← h]
  · intro i hi _
    have : i = 0 := by omega
    subst this
    rfl
theorem own_of_row {w w' : World} {e : TypeId} {size : Nat} {v' : Value} {n : Nat} {news : List Value} {cs : List D} (hl : cs.length = n * size) (hd : ∀ (j : Nat) (d : D) (u : Value), cs[j]? = some d → news[j]? = some u → d.toV = some u)
    (h : w'.ownsRow w.heap.size e size v' n news) (hnil : v' ≠ .slice none 0 0) (hbel : Below w.heap.size w w') :
    Below w.heap.size w w' ∧ ∃ (b cap : Nat) (c : Array Value), Ending.returned v' = .returned (.slice (some ⟨b, 0, none⟩) n cap) ∧ w.heap.size ≤ b ∧ w'.heap[b]? = some (.cells c e (0, 0)) ∧ c.size = cap * size ∧ cap ≤ maxLen ∧ n ≤ cap ∧ cs.length = n * size ∧
      ∀ (j : Nat) (d : D) (v : Value), cs[j]? = some d → c[j]? = some v → d.toV = some v := by
  obtain ⟨_, ⟨h1, _⟩ | ⟨g, cap, cur, rfl, h2, h3, h4, h5, h6, h7⟩⟩ := h
  · exact absurd h1 hnil
  · refine ⟨hbel, g, cap, cur, rfl, h2, h3, h6, h5, h4, hl, fun j d v hj hv => hd j d v hj ?_⟩
    have hlt : j < n * size := by rw [← hl]; exact (List.getElem?_eq_some_iff.1 hj).1
    rw [← h7, List.getElem?_take_of_lt hlt, Array.getElem?_toList]
    exact hv
theorem clone_own {ρ : Go.Shelf.Ren} (L : Go.Proofs.SlLaysE0.n41 Tryz.prog ρ) (i0 : TypeInfo) (z : Value) (size bytes : Nat) (hi : Tryz.prog.info? (ρ.t 23) = some i0) (hz0 : i0.zero = some z) (hz1 : i0.size = size) (hz2 : i0.bytes = bytes) (hzs : z.cells.size = size) (hsz : 0 < size) (z23 : ∀ w, (Go.sizeOf (ρ.t 23)).run Tryz.prog w = .ok size w)
    {f : Bool} {n : Nat} {cs : List D} (hn : 0 < n) (hm : n ≤ maxLen) (hl : cs.length = n * size) (hb : n * bytes ≤ 140737488355328) (hp : cs.all D.plain = true) (h1 : cs.all D.one = true) : OwnC Tryz.prog glO (ρ.f 41) (ρ.t 23) size [.slc f n cs] n cs := by
  intro I w vs hI hgl hvs hrel
  obtain ⟨v, rfl⟩ := one_arg hvs
  have hv := hrel 0 _ v rfl rfl
  rcases hv.slc_inv with ⟨h0, _, _⟩ | ⟨ad, cap, us, rfl, q1, q2, q3, q4, q5⟩
  · omega
  have hget : ∀ j (hj : j < cs.length), cs[j]? = some cs[j] := fun j hj => List.getElem?_eq_getElem hj
  have hpos : 0 < n * size := Nat.mul_pos hn hsz
  have had : ad.spot = none := spot_none (w := w) (q4 0 _ (hget 0 (by omega)))
  obtain ⟨b, off, sp⟩ := ad
  simp only at had
  subst had
  have hus : ∀ j u, ((List.range cs.length).map us)[j]? = some u → ∃ d, cs[j]? = some d ∧ u = us j := fun j u hj => by
    have hlt : j < cs.length := by have := (List.getElem?_eq_some_iff.1 hj).1; simpa using this
    simp [hlt] at hj
    exact ⟨_, hget j hlt, hj.symm⟩
  refine (AnyE.slices_Clone L i0 z size bytes hi hz0 hz1 hz2 hzs hsz z23 b off n cap ((List.range cs.length).map us) w (by simp [hl]) hm hb ?_ ?_).mono ?_
  · intro j u hj
    obtain ⟨d, hd, rfl⟩ := hus j u hj
    have := q4 j d hd
    unfold Addr.add at this
    split at this
    · rename_i h0; subst h0; exact this
    · exact this
  · intro u hu
    obtain ⟨j, hj, rfl⟩ := List.getElem_of_mem hu
    obtain ⟨d, hd, e⟩ := hus j _ (List.getElem?_eq_getElem hj)
    rw [e]
    exact (q5 j d hd).one (List.all_eq_true.1 h1 d (List.mem_of_getElem? hd))
  · rintro e w' ⟨v', rfl, hrow, hnil, hbel⟩
    refine own_of_row hl (fun j d u hd hu => ?_) hrow hnil hbel
    obtain ⟨d', hd', rfl⟩ := hus j u hu
    rw [hd] at hd'
    cases hd'
    obtain ⟨u', hu'⟩ := Option.isSome_iff_exists.1 (List.all_eq_true.1 hp d (List.mem_of_getElem? hd))
    rw [(q5 j d hd).toV hu']
    exact hu'
theorem own_call {k : FuncId} {e : TypeId} {m n : Nat} {ds cs : List D} (hen : ∀ vs w, (callFunc k vs).run Tryz.prog w = .ok (.enter k vs) w) (h : OwnC Tryz.prog glO k e m ds n cs) : OK2 k ds (.slc false n cs) := by
  refine ⟨hen, fun I w vs hI hgl hl hr => (h I w vs hI hgl hl hr).mono ?_⟩
  rintro en w' ⟨hbel, b, cap, c, rfl, hb, hc, hcs, hm, hle, hcl, hd⟩
  refine ⟨_, rfl, ?_, hbel⟩
  have hbw : b < w'.heap.size := (Array.getElem?_eq_some_iff.1 hc).1
  have hlt : ∀ j, j < cs.length → j < c.size := fun j hj => by rw [hcs]; have := Nat.mul_le_mul_right m hle; omega
  refine .slc false n cs ⟨b, 0, none⟩ cap (fun j => c.getD j undef) (fun _ => .inr ⟨hb, hbw⟩) (fun hf => by cases hf) hle (fun j d hj => ?_) (fun j d hj => ?_)
  · have := hlt j (List.getElem?_eq_some_iff.1 hj).1
    rw [cell_cells hc]
    simp [this]
  · have hj' := hlt j (List.getElem?_eq_some_iff.1 hj).1
    exact toV_rel (hd j d _ hj (by simp [hj']))
theorem cloneP0 (ad : Addr) (cap : Nat) (w : World) : Calls Tryz.prog 81 #[.slice (some ad) 0 cap] w fun e w' => e = .returned (.slice (some ⟨w.heap.size, 0, none⟩) 0 0) ∧ w' = w.alloc (.cells #[] 23) := by
  have mixed : Tryz.prog.follows .mixedOrders = true := by kernel_rfl
  have t22 := Tryz.underlying24
  have q22 : ∀ (w : World) (a : Option Addr) (n c n' c' : Nat), (binOp .eql 24 (.slice a n c) (.slice none n' c')).run Tryz.prog w = .ok (.bool a.isNone) w := fun w a n c n' c' => Lib.run_eql_slice_nil w _ _ a n c n' c' t22
  go_enter Tryz.func81, Tryz.ntmps81
  go_wp2
  go_ret
  exact ⟨rfl, rfl⟩
theorem cloneI0 (ad : Addr) (cap : Nat) (w : World) : Calls Tryz.prog 173 #[.slice (some ad) 0 cap] w fun e w' => e = .returned (.slice (some ⟨w.heap.size, 0, none⟩) 0 0) ∧ w' = w.alloc (.cells #[] 3) := by
  have mixed : Tryz.prog.follows .mixedOrders = true := by kernel_rfl
  have t22 := Tryz.underlying69
  have q22 : ∀ (w : World) (a : Option Addr) (n c n' c' : Nat), (binOp .eql 69 (.slice a n c) (.slice none n' c')).run Tryz.prog w = .ok (.bool a.isNone) w := fun w a n c n' c' => Lib.run_eql_slice_nil w _ _ a n c n' c' t22
  go_enter Tryz.func173, Tryz.ntmps173
  go_wp2
  go_ret
  exact ⟨rfl, rfl⟩
theorem clone_none {k : FuncId} {e : TypeId} {f : Bool} (hen : ∀ vs w, (callFunc k vs).run Tryz.prog w = .ok (.enter k vs) w) (hnil : ∀ w, Calls Tryz.prog k #[.slice none 0 0] w fun en w' => en = .returned (.slice none 0 0) ∧ w' = w)
    (h0 : ∀ ad cap w, Calls Tryz.prog k #[.slice (some ad) 0 cap] w fun en w' => en = .returned (.slice (some ⟨w.heap.size, 0, none⟩) 0 0) ∧ w' = w.alloc (.cells #[] e)) : OK2 k [.slc f 0 []] (.slc true 0 []) := by
  refine ⟨hen, fun I w vs hI hgl hl hr => ?_⟩
  obtain ⟨v, rfl⟩ := one_arg hl
  have hv := hr 0 _ v rfl rfl
  rcases hv.slc_inv with ⟨_, _, rfl⟩ | ⟨ad, cap, us, rfl, _⟩
  · refine (hnil w).mono ?_
    rintro en w' ⟨rfl, rfl⟩
    exact ⟨_, rfl, .slcn _, .refl _ _⟩
  · refine (h0 ad cap w).mono ?_
    rintro en w' ⟨rfl, rfl⟩
    exact ⟨_, rfl, .slc true 0 [] _ 0 (fun _ => undef) (fun h => by simp at h) (fun _ => rfl) (Nat.le_refl _) (fun j d hj => by simp at hj) (fun j d hj => by simp at hj), (Below.refl _ _).alloc (Nat.le_refl _) _⟩
def lcloneI_ren : Go.Shelf.Ren := ⟨fun | 41 => 173 | n => n, fun | 22 => 69 | 23 => 3 | 4 => 4 | n => n, fun | n => n⟩
theorem lcloneI : Go.Proofs.SlLaysE0.n41 Tryz.prog lcloneI_ren := {
  mixed := by kernel_rfl
  f41 := ⟨Tryz.f173.name, by decide, Tryz.func173.trans (congrArg some (by kernel_rfl))⟩
  t4 := Tryz.underlying4
  a4 := Tryz.isAgg4
  z4 := Tryz.sizeOf4
  v4 := Tryz.zeroValue4
  t22 := Tryz.underlying69
  a22 := Tryz.isAgg69
  z22 := Tryz.sizeOf69
  v22 := Tryz.zeroValue69 }
noncomputable def intI : TypeInfo := (Tryz.prog.info? 3).get (by kernel_rfl)
theorem cloneP_own {f : Bool} {n : Nat} {cs : List D} (hn : 0 < n) (hm : n ≤ maxLen) (hl : cs.length = n * 2) (hb : n * 16 ≤ 140737488355328) (hp : cs.all D.plain = true) (h1 : cs.all D.one = true) : OwnC Tryz.prog glO 81 23 2 [.slc f n cs] n cs :=
  clone_own lcloneP placeI (.agg #[.int .i64 0, .int .i64 0]) 2 16 (by kernel_rfl) (by kernel_rfl) (by kernel_rfl) (by kernel_rfl) rfl (by decide) Tryz.sizeOf23 hn hm hl hb hp h1
theorem cloneI_own {f : Bool} {n : Nat} {cs : List D} (hn : 0 < n) (hm : n ≤ maxLen) (hl : cs.length = n * 1) (hb : n * 8 ≤ 140737488355328) (hp : cs.all D.plain = true) (h1 : cs.all D.one = true) : OwnC Tryz.prog glO 173 3 1 [.slc f n cs] n cs :=
  clone_own lcloneI intI (.int .i64 0) 1 8 (by kernel_rfl) (by kernel_rfl) (by kernel_rfl) (by kernel_rfl) rfl (by decide) Tryz.sizeOf3 hn hm hl hb hp h1
def cpD (n : Nat) (cs : List D) : D := match n with
  | 0 => .slc true 0 []
  | m + 1 => .slc false (m + 1) cs
theorem en81 : ∀ vs w, (callFunc 81 vs).run Tryz.prog w = .ok (.enter 81 vs) w := enters_of Tryz.func81 (by kernel_rfl) rfl
theorem en173 : ∀ vs w, (callFunc 173 vs).run Tryz.prog w = .ok (.enter 173 vs) w := enters_of Tryz.func173 (by kernel_rfl) rfl
theorem ok81 {f : Bool} {n : Nat} {cs : List D} (hm : n ≤ 1000000) (hl : cs.length = n * 2) (hp : cs.all D.plain = true) (h1 : cs.all D.one = true) : OK2 81 [.slc f n cs] (cpD n cs) := by
  cases n with
  | zero =>
    have : cs = [] := List.eq_nil_of_length_eq_zero (by omega)
    subst this
    exact clone_none en81 (AnyE.slices_Clone_nil lcloneP 0 0) cloneP0
  | succ n => exact own_call en81 (cloneP_own (by omega) (by unfold maxLen; omega) hl (by omega) hp h1)
theorem ok173 {f : Bool} {n : Nat} {cs : List D} (hm : n ≤ 1000000) (hl : cs.length = n * 1) (hp : cs.all D.plain = true) (h1 : cs.all D.one = true) : OK2 173 [.slc f n cs] (cpD n cs) := by
  cases n with
  | zero =>
    have : cs = [] := List.eq_nil_of_length_eq_zero (by omega)
    subst this
    exact clone_none en173 (AnyE.slices_Clone_nil lcloneI 0 0) cloneI0
  | succ n => exact own_call en173 (cloneI_own (by omega) (by unfold maxLen; omega) hl (by omega) hp h1)
end Go.Pd
end
section
namespace Go.Pd
open Go Go.Proofs
set_option maxRecDepth 100000
def N20 : NTab := fun p => match p with
  | 122 => some { keep := [5, 6, 24, 25, 26], kl := [1, 8, 20], ren := [(1, 1), (6, 6), (8, 8), (20, 20), (24, 24)] }
  | _ => none
def O20 : Ord := fun id => match id with
  | 4 => some { l := some [0, 1, 2, 3, 4], ks := [6] }
  | 5 => some { fs := [(20, 20), (24, 24)] }
  | _ => none
noncomputable def F20_122 (call : CL) (L : Nat) (C : Nat → Nat) (z : Nat) (V : Int) (K : Nat) (M O S U : Int) (J : List D) : Option D :=
 loopAt (TEk call L C) O20 N20 FinM.canon Tryz.f20 [true, true, true, false, true, false] []  z (St.mk (jn 5 (D.int .i64 V :: D.loc 6 0 0 :: jn 17 (D.own 24 0 K :: D.int .i64 M :: D.int .i64 O :: jn 19 []))) (zn 6 ((1, some (Ob.box [D.int .i64 S, D.int .i64 U] false)) :: zn 17 ((1, some (Ob.arr 23 2 J false)) :: zn 21 []))))
theorem F20_122_eq (call : CL) (L : Nat) (C : Nat → Nat) (U : Nat) (O : Int) (K : Nat) (M z V W : Int) (J : List D) : F20_122 call L C  (U + 1)  O K M z V W J =
 (ifK (decide (z < M))
 (chkK (decide (0 ≤ z ∧ z < (K : Int)))
 (cellK J (Int.toNat z * 2 + 0) fun d =>
 (intK .i64 d fun X =>
 (cellK J (Int.toNat z * 2 + 1) fun a0 =>
 (intK .i64 a0 fun Y =>
 (optK (call 83 [D.agg [D.int .i64 V, D.int .i64 W], D.agg [D.int .i64 X, D.int .i64 Y]]) fun a3 =>
 (intK .i64 a3 fun a5 =>
 (optK (call 82 [D.int .i64 a5]) fun a4 =>
 (tupK a4 2 fun S =>
 (cellK S 0 fun a1 =>
 (intK .i64 a1 fun a6 =>
 (cellK S 1 fun a2 =>
 (intK .i64 a2 fun Z =>
 (ifK (Z != 0)
 (some (D.tup [D.int .i64 0, D.int .i64 Z]))
 (F20_122 call L C U (IntKind.wrap .i64 (O + a6)) K M (IntKind.wrap .i64 (z + 1)) X Y J)))))))))))))))
 (some (D.tup [D.int .i64 O, D.int .i64 0]))) := by kernel_rfl
theorem F20_eq (call : CL) (L : Nat) (C : Nat → Nat) (V : ByteArray) (z J K M : Int) (S : Bool) (U : Nat) (O : List D) (X : Bool) (Y : Nat) (W : List D) : evFnT (TEk call L C) O20 N20 FinM.canon Tryz.f20 [D.agg [D.str V, D.int .i64 z, D.int .i64 J, D.int .i64 K, D.int .i64 M, D.slc S U O, D.slc X Y W]] =
 (optK (call 21 [D.agg [D.str V, D.int .i64 z, D.int .i64 J, D.int .i64 K, D.int .i64 M, D.slc S U O, D.slc X Y W]]) fun r =>
 (intK .i64 r fun x =>
 (ifK (x != 0)
 (some (D.tup [D.int .i64 0, D.int .i64 x]))
 (optK (call 81 [D.slc S U O]) fun Z =>
 (slcK Z fun f n c =>
 (ifK f
 (chkK (decide (0 < 1 ∧ List.length c = n * 2 ∧ (n + 1) * 16 ≤ limit ∧ n + 1 ≤ 4611686018427387903))
 (F20_122 call L C L 0 (n + 1) ((((n + 1) : Nat) : Int)) 0 z J (c ++ [D.int .i64 K, D.int .i64 M])))
 (chkK (List.all c D.plain)
 (chkK (decide (List.length c = n * 2))
 (chkK (decide ((n + 1) * 16 ≤ limit ∧ n + 1 ≤ 9223372036854775807))
 (F20_122 call L C L 0 (n + 1) ((((n + 1) : Nat) : Int)) 0 z J (c ++ [D.int .i64 K, D.int .i64 M]))))))))))) := by kernel_rfl
end Go.Pd
end
section
namespace Go.Pd
open Go Go.Proofs Go.RowKit
set_option maxRecDepth 100000
theorem exFo (l : List Fam) (h : AllGood l) (hn : newF (l.map Fam.f) = true) : ∃ B, CallsT B ∧ AllF B l ∧ ∀ k ds r, callOf B k ds = some r → cstG k ds = some r ∨ ∃ F ∈ l, ∃ i : F.ι, F.f = k ∧ F.a i = ds ∧ F.r i = r := by
  refine ⟨bFam l, bFam_ok h, allF_of fun F hF i => ?_, fun k ds r hr => ?_⟩
  · obtain ⟨_, h2, h3⟩ := allGood_mem h F hF
    rw [callOf_b (h3 i)]
    have hx : ∃ r, ∃ F' ∈ l, ∃ j : F'.ι, F'.f = F.f ∧ F'.a j = F.a i ∧ F'.r j = r := ⟨F.r i, F, hF, i, rfl, rfl, rfl⟩
    unfold bFam
    rw [dif_pos hx]
    obtain ⟨F', hF', j, h4, h5, h6⟩ := hx.choose_spec
    obtain rfl := newF_eq hn F' hF' F hF h4
    rw [← h6, h2 j i h5]
  · unfold callOf at hr
    split at hr
    · rename_i x hx
      cases hr
      exact .inl hx
    · unfold bFam at hr
      split at hr
      · rename_i hx
        cases hr
        exact .inr hx.choose_spec
      · cases hr
theorem pt_plain : ∀ l : List Pt, (ptsC l).all D.plain = true
  | [] => rfl
  | _ :: l => pt_plain l
theorem pt_one : ∀ l : List Pt, (ptsC l).all D.one = true
  | [] => rfl
  | _ :: l => pt_one l
theorem ptsC_len : ∀ l : List Pt, (ptsC l).length = l.length * 2
  | [] => rfl
  | _ :: l => by
    show (_ :: _ :: ptsC l).length = _
    simp only [List.length_cons, ptsC_len l]
    omega
theorem fnO {base : FuncId → List D → Option D} (hb : CallsT base) (h81 : ∀ ds len cs, callOf base 81 ds = some (.slc false len cs) → OwnC Tryz.prog glO 81 23 2 ds len cs) (h173 : ∀ ds len cs, callOf base 173 ds = some (.slc false len cs) → OwnC Tryz.prog glO 173 3 1 ds len cs)
    {f : FuncId} {fn : Func} (hf : Tryz.prog.funcs[f]? = some fn) {ord : Ord} {N : NTab} (hok : okFn Tryz.prog ord fn = true) {ds : List D} {r : D} (he : evFnT (TEk (callOf base) LL C1) ord N .canon fn ds = some r) : OK2 f ds r := by
  refine evFnT_ok (Te := TEk (callOf base) LL C1) mixedT ⟨callOf_ok hb, fun k g hg => ?_, fun k e n hg => ?_⟩ callOf_cst rfl sqT_ok hf (by simp) hok he
  · have hg : wrO k = some g := hg
    unfold wrO at hg
    split at hg
    · cases hg; exact ⟨en81, by intros; rename_i h _ _; cases h⟩
    · cases hg; exact ⟨en173, by intros; rename_i h _ _; cases h⟩
    · cases hg
  · have hg : wrO k = some (.own e n) := hg
    unfold wrO at hg
    split at hg
    · cases hg; exact h81
    · cases hg; exact h173
    · cases hg
def sumLen : Pt → List Pt → Nat
  | _, [] => 0
  | a, p :: r => rootN (sqN a p) + sumLen p r
theorem sum_lenN (cup : Pt) : ∀ (r : List Pt) (a : Pt), sumLen a (r ++ [cup]) = lenN cup a r
  | [], _ => rfl
  | p :: r, a => by
    show rootN (sqN a p) + sumLen p (r ++ [cup]) = _
    rw [sum_lenN cup r p]
    rfl
theorem go20 {call : CL} (h83 : ∀ a b : Pt, call 83 [ptD a, ptD b] = some (.int .i64 (sqW a b))) (h82 : ∀ n : Nat, n < 9223372036854775808 → call 82 [.int .i64 (n : Int)] = some (.tup [.int .i64 (rootN n), .int .i64 0]))
    {l : List Pt} (hl : l.length ≤ 1001) (hin : ∀ p ∈ l, InP p) : ∀ (r pre : List Pt) (fuel : Nat) (a : Pt) (n : Nat), pre ++ r = l → r.length < fuel → InP a → n ≤ pre.length * 2828428 →
      F20_122 call LL C1 fuel (n : Int) l.length (l.length : Int) (pre.length : Int) a.1 a.2 (ptsC l) = some (.tup [.int .i64 ((n + sumLen a r : Nat) : Int), .int .i64 0]) := by
  intro r
  induction r with
  | nil =>
    intro pre fuel a n hn hf ha hb
    cases fuel with
    | zero => exact absurd hf (Nat.not_lt_zero _)
    | succ fuel =>
      have hlen : pre.length = l.length := by rw [← hn]; simp
      rw [F20_122_eq, hlen, nlt_nat, ifK_false]
      rfl
  | cons x r ih =>
    intro pre fuel a n hn hf ha hb
    cases fuel with
    | zero => exact absurd hf (Nat.not_lt_zero _)
    | succ fuel =>
      have hx : InP x := hin x (by rw [← hn]; simp)
      have hs := sq_eq ha hx
      have hr := rootN_le hs.2
      have ih := ih (pre ++ [x]) fuel x (n + rootN (sqN a x)) (by rw [app1]; exact hn) (by simp at hf; omega) hx (by rw [List.length_append, List.length_singleton]; omega)
      rw [List.length_append, List.length_singleton] at ih
      have hlt : pre.length < l.length := by rw [← hn]; simp
      have c0 : ∀ k : D → Option D, cellK (ptsC l) (Int.toNat (pre.length : Int) * 2 + 0) k = k (.int .i64 x.1) := fun k => by rw [← hn]; exact q0 pre x r
      have c1' : ∀ k : D → Option D, cellK (ptsC l) (Int.toNat (pre.length : Int) * 2 + 1) k = k (.int .i64 x.2) := fun k => by rw [← hn]; exact q1 pre x r
      have e83 : call 83 [D.agg [D.int .i64 a.1, D.int .i64 a.2], D.agg [D.int .i64 x.1, D.int .i64 x.2]] = some (.int .i64 (sqW a x)) := h83 a x
      have w : IntKind.wrap .i64 ((n : Int) + (rootN (sqN a x) : Int)) = ((n + rootN (sqN a x) : Nat) : Int) := (wrap_in (by omega)).trans (by omega)
      have tk : ∀ (u v : Int) (k : Int → Int → Option D), (tupK (.tup [.int .i64 u, .int .i64 v]) 2 fun c => cellK c 0 fun d => intK .i64 d fun p => cellK c 1 fun d' => intK .i64 d' fun q => k p q) = k u v := fun _ _ _ => rfl
      rw [F20_122_eq, lt_nat hlt, ifK_true, in_nat hlt, chkK_true, c0, intK_int, c1', intK_int, e83, optK_some, intK_int, hs.1, h82 _ (by omega), optK_some, tk,
        show ((0 : Int) != 0) = false from rfl, ifK_false, show IntKind.wrap .i64 ((pre.length : Int) + 1) = ((pre.length + 1 : Nat) : Int) from wrap_add _ 1 (by omega), w, ih,
        show sumLen a (x :: r) = rootN (sqN a x) + sumLen x r from rfl, Nat.add_assoc]
theorem Nat.cast_zero_int : ((0 : Nat) : Int) = 0 := rfl
theorem okf20 : okFn Tryz.prog O20 Tryz.f20 = true := by kernel_rfl
theorem firstZ_zero : ∀ {l : List Int}, firstZ l = 0 → ∀ x ∈ l, x = 0
  | [], _, x, hx => by cases hx
  | y :: l, h, x, hx => by
    rw [show firstZ (y :: l) = ifK (y != 0) y (firstZ l) from rfl] at h
    by_cases hy : y = 0
    · rw [show (y != 0) = false by simpa using hy, ifK_false] at h
      rcases List.mem_cons.1 hx with rfl | hx
      · exact hy
      · exact firstZ_zero h x hx
    · rw [show (y != 0) = true by simpa using hy, ifK_true] at h
      exact absurd h hy
theorem ifK_zero {b : Bool} (h : ifK b (3 : Int) 0 = 0) : b = false := by
  cases b
  · rfl
  · cases h
theorem hole_in {h : Hl} (hz : holeE h = 0) : outP h.tee = false ∧ outP h.cup = false ∧ h.line.any outP = false ∧ h.line.length ≤ 16 := by
  unfold holeE at hz
  by_cases hp : preE h = 0
  · have h1 := firstZ_zero hp
    refine ⟨?_, ?_, ?_, ?_⟩
    · have := h1 (ifK ([h.tee, h.cup].any outP) 3 0) (by simp)
      have := ifK_zero this
      simp at this
      exact this.1
    · have := h1 (ifK ([h.tee, h.cup].any outP) 3 0) (by simp)
      have := ifK_zero this
      simp at this
      exact this.2
    · exact ifK_zero (h1 (ifK (h.line.any outP) 3 0) (by simp))
    · have h2 := h1 (ifK (decide ((h.line.length : Int) > 16)) 5 0) (by simp)
      have h3 : decide ((h.line.length : Int) > 16) = false := by
        cases hd : decide ((h.line.length : Int) > 16)
        · rfl
        · rw [hd] at h2; cases h2
      simp at h3
      omega
  · rw [show (preE h != 0) = true by simpa using hp, ifK_true] at hz
    exact absurd hz hp
theorem ok20 (h : Hl) (hk : h.Ok) : OK2 20 [holeD h] (errOr (holeE h) ((lenN h.cup h.tee h.line : Nat) : Int)) := by
  obtain ⟨B, hb, ⟨e21, e81, e83, e82, _⟩, hB⟩ := exFo [one 21 [holeD h] (.int .i64 (holeE h)), one 81 [.slc h.lf h.line.length (ptsC h.line)] (cpD h.line.length (ptsC h.line)), famPP 83 fun a b => .int .i64 (sqW a b), ⟨82, {n : Nat // n < 9223372036854775808}, fun n => [.int .i64 (n.1 : Int)], fun n => .tup [.int .i64 (rootN n.1), .int .i64 0]⟩]
    ⟨one_good (ok21 h hk) rfl, one_good (ok81 (by have := hk.l; omega) (ptsC_len _) (pt_plain _) (pt_one _)) rfl, famPP_good ok83 (fun _ _ => rfl), ⟨fun n => ok82 n.2, fun x y e => by
      have e : [D.int .i64 (x.1 : Int)] = [D.int .i64 (y.1 : Int)] := e
      simp only [List.cons.injEq, D.int.injEq, true_and, and_true] at e
      show D.tup _ = D.tup _
      rw [show x.1 = y.1 by omega], fun _ => rfl⟩, trivial⟩ rfl
  have h81 : ∀ ds len cs, callOf B 81 ds = some (.slc false len cs) → OwnC Tryz.prog glO 81 23 2 ds len cs := fun ds len cs hc => by
    rcases hB _ _ _ hc with h1 | ⟨F, hF, i, q1, q2, q3⟩
    · cases h1
    · simp only [List.mem_cons, List.not_mem_nil, or_false] at hF
      rcases hF with rfl | rfl | rfl | rfl
      · cases q1
      · have q2 : [D.slc h.lf h.line.length (ptsC h.line)] = ds := q2
        have q3 : cpD h.line.length (ptsC h.line) = .slc false len cs := q3
        subst q2
        have hl := hk.l
        cases hn : h.line.length with
        | zero => rw [hn] at q3; cases q3
        | succ m =>
          rw [hn] at q3
          cases q3
          rw [← hn]
          exact cloneP_own (by omega) (by unfold maxLen; omega) (ptsC_len _) (by omega) (pt_plain _) (pt_one _)
      · cases q1
      · cases q1
  have h173 : ∀ ds len cs, callOf B 173 ds = some (.slc false len cs) → OwnC Tryz.prog glO 173 3 1 ds len cs := fun ds len cs hc => by
    rcases hB _ _ _ hc with h1 | ⟨F, hF, i, q1, q2, q3⟩
    · cases h1
    · simp only [List.mem_cons, List.not_mem_nil, or_false] at hF
      rcases hF with rfl | rfl | rfl | rfl <;> cases q1
  refine fnO hb h81 h173 Tryz.func20 (ord := O20) (N := N20) okf20 ((F20_eq _ _ _ h.name h.tee.1 h.tee.2 h.cup.1 h.cup.2 h.lf h.line.length (ptsC h.line) h.af h.areas.length (arsC h.areas)).trans ?_)
  have g21 : callOf B 21 [holeD h] = some (.int .i64 (holeE h)) := e21 ()
  have g81 : callOf B 81 [.slc h.lf h.line.length (ptsC h.line)] = some (cpD h.line.length (ptsC h.line)) := e81 ()
  rw [g21, optK_some, intK_int]
  unfold errOr
  by_cases hz : holeE h = 0
  · rw [show (holeE h != 0) = false by simpa using hz, ifK_false, ifK_false, hz]
    obtain ⟨i1, i2, i3, i4⟩ := hole_in hz
    have hin : ∀ p ∈ h.line ++ [h.cup], InP p := fun p hp => by
      rcases List.mem_append.1 hp with hp | hp
      · exact inP_of (by simpa using List.any_eq_false.1 i3 p hp)
      · rw [List.mem_singleton.1 hp]; exact inP_of i2
    have main := go20 (call := callOf B) (l := h.line ++ [h.cup]) (fun a b => e83 (a, b)) (fun n hn => e82 ⟨n, hn⟩) (by simp; omega) hin (h.line ++ [h.cup]) [] LL h.tee 0 rfl (by simp; unfold LL; omega) (inP_of i1) (Nat.zero_le _)
    have hcup : ptsC [h.cup] = [D.int .i64 h.cup.1, D.int .i64 h.cup.2] := rfl
    rw [ptsC_app, List.length_append, sum_lenN, Nat.zero_add, hcup, List.length_singleton, List.length_nil, Nat.cast_zero_int] at main
    rcases Nat.eq_zero_or_pos h.line.length with hn | hn
    · have hl0 : ptsC h.line = [] := by rw [List.eq_nil_of_length_eq_zero hn]; rfl
      have g : callOf B 81 [.slc h.lf h.line.length (ptsC h.line)] = some (.slc true 0 []) := by rw [g81, hn]; rfl
      rw [g, optK_some, slcK_slc, ifK_true, show decide (0 < 1 ∧ ([] : List D).length = 0 * 2 ∧ (0 + 1) * 16 ≤ limit ∧ 0 + 1 ≤ 4611686018427387903) = true from rfl, chkK_true]
      rw [hn, hl0] at main
      exact main
    · have hlen := ptsC_len h.line
      have g : callOf B 81 [.slc h.lf h.line.length (ptsC h.line)] = some (.slc false h.line.length (ptsC h.line)) := by
        rw [g81]
        obtain ⟨m, hm⟩ : ∃ m, h.line.length = m + 1 := ⟨h.line.length - 1, by omega⟩
        rw [hm]
        rfl
      rw [g, optK_some, slcK_slc, ifK_false, pt_plain, chkK_true, show decide ((ptsC h.line).length = h.line.length * 2) = true by simpa using hlen, chkK_true, show decide ((h.line.length + 1) * 16 ≤ limit ∧ h.line.length + 1 ≤ 9223372036854775807) = true by simp [limit]; omega, chkK_true]
      exact main
  · rw [show (holeE h != 0) = true by simpa using hz, ifK_true, ifK_true]
end Go.Pd
end
