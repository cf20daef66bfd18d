/-
  Chapter 5: equations of the functions of the reference about texts of numbers (printed).
  Chapter 5: equations of the sum of the reference (printed).
  Chapter 5: equations of the functions of the reference about digits (printed).
  Chapter 5: insertion sort makes the list that sorting makes; halves upwards, in plain numbers.
  Chapter 5: rows of numbers, steps of printed equations.
  Chapter 5: the reference: digits, texts of numbers, the place of a slash, the greatest common divisor.
  Chapter 5: the reference: fractions as texts: quick reads them, Of writes them.
  Chapter 5: the reference: Of writes a fraction in its lowest terms.
  Chapter 5: the reference: sums, products, signs and comparisons of texts of fractions with few digits.
-/
import Derived.Test.YtanpmgfaieekhaaGreatDoorFmA
import Derived.KernelRfl
import Derived.Test.YtanpmgfaieekhaaGreatDoorPdFf
import Derived.Test.YtanpmgfaieekhaaGreatDoorFmBa
import Derived.Laws.Strings
section
namespace Go.Pd
open Go Go.Proofs
set_option maxRecDepth 100000
def N189 : NTab := fun p => match p with
  | 26 => some { keep := [0, 3], kl := [], ren := [] }
  | _ => none
noncomputable def F189_26 (call : CL) (L : Nat) (C : Nat → Nat) (n : Nat) (vs : ByteArray) (e : Int) : Option D :=
 loopAt (TEf call L C) O0 N189 FinM.canon Tryz.f189 [true, false, true, false] []  n (St.mk (D.str vs :: J :: J :: D.int .i64 e :: jn 13 []) (zn 17 []))
theorem F189_26_eq (call : CL) (L : Nat) (C : Nat → Nat) (n : Nat) (vs : ByteArray) (e : Int) : F189_26 call L C  (n + 1) vs e =
 (ifK (decide (e < ((ByteArray.size vs) : Int)))
 (chkK (decide (0 ≤ e ∧ Int.toNat e < ByteArray.size vs))
 (ifK (byteAt vs (Int.toNat e) == 47)
 (some (D.int .i64 e))
 (F189_26 call L C n vs (IntKind.wrap .i64 (e + 1)))))
 (some (D.int .i64 ((ByteArray.size vs) : Int)))) := by kernel_rfl
theorem F189_eq (call : CL) (L : Nat) (C : Nat → Nat) (vs : ByteArray) : evFnT (TEf call L C) O0 N189 FinM.canon Tryz.f189 [D.str vs] =
 (F189_26 call L C L vs 0) := by kernel_rfl
def N190 : NTab := fun p => match p with
  | 58 => some { keep := [0, 3, 4], kl := [], ren := [] }
  | _ => none
noncomputable def F190_58 (call : CL) (L : Nat) (C : Nat → Nat) (n : Nat) (vs : ByteArray) (h e : Int) : Option D :=
 loopAt (TEf call L C) O0 N190 FinM.canon Tryz.f190 [true, true, false, true, false] []  n (St.mk (D.str vs :: J :: J :: D.int .i64 h :: D.int .i64 e :: jn 15 []) (zn 20 []))
theorem F190_58_eq (call : CL) (L : Nat) (C : Nat → Nat) (n : Nat) (vs : ByteArray) (h e : Int) : F190_58 call L C  (n + 1) vs h e =
 (ifK (decide (e < ((ByteArray.size vs) : Int)))
 (chkK (decide (0 ≤ e ∧ Int.toNat e < ByteArray.size vs))
 (F190_58 call L C n vs (IntKind.wrap .i64 (IntKind.wrap .i64 (IntKind.wrap .i64 (10 * h) + IntKind.wrap .i64 (byteAt vs (Int.toNat e))) - 48)) (IntKind.wrap .i64 (e + 1))))
 (some (D.int .i64 h))) := by kernel_rfl
theorem F190_eq (call : CL) (L : Nat) (C : Nat → Nat) (vs : ByteArray) : evFnT (TEf call L C) O0 N190 FinM.canon Tryz.f190 [D.str vs] =
 (F190_58 call L C L vs 0 0) := by kernel_rfl
def N171 : NTab := fun p => match p with
  | 28 => some { keep := [0, 1, 5], kl := [], ren := [] }
  | _ => none
noncomputable def F171_28 (call : CL) (L : Nat) (C : Nat → Nat) (n : Nat) (e h : Int) (vs : ByteArray) : Option D :=
 loopAt (TEf call L C) O0 N171 FinM.canon Tryz.f171 [true, true, false, false] []  n (St.mk (D.int .i64 h :: D.int .i64 e :: J :: J :: J :: D.str vs :: jn 19 []) (zn 25 []))
theorem F171_28_eq (call : CL) (L : Nat) (C : Nat → Nat) (n : Nat) (h e : Int) (vs : ByteArray) : F171_28 call L C  (n + 1) h e vs =
 (ifK (decide (e > 0))
 (chkK (decide (0 ≤ Int.tmod e 10 ∧ Int.tmod e 10 ≤ IntKind.wrap .i64 (Int.tmod e 10 + 1) ∧ IntKind.wrap .i64 (Int.tmod e 10 + 1) ≤ (10 : Int)))
 (chkK (!decide (((ByteArray.size (ByteArray.extract (ByteArray.mk #[48, 49, 50, 51, 52, 53, 54, 55, 56, 57]) (Int.toNat (Int.tmod e 10)) (Int.toNat (IntKind.wrap .i64 (Int.tmod e 10 + 1)))) + ByteArray.size vs) : Int) > 9223372036854775807))
 (F171_28 call L C n h (IntKind.wrap .i64 (Int.tdiv e 10)) (ByteArray.extract (ByteArray.mk #[48, 49, 50, 51, 52, 53, 54, 55, 56, 57]) (Int.toNat (Int.tmod e 10)) (Int.toNat (IntKind.wrap .i64 (Int.tmod e 10 + 1))) ++ vs))))
 (ifK (decide (((ByteArray.size vs) : Int) < h))
 (chkK (decide (0 ≤ Int.tmod e 10 ∧ Int.tmod e 10 ≤ IntKind.wrap .i64 (Int.tmod e 10 + 1) ∧ IntKind.wrap .i64 (Int.tmod e 10 + 1) ≤ (10 : Int)))
 (chkK (!decide (((ByteArray.size (ByteArray.extract (ByteArray.mk #[48, 49, 50, 51, 52, 53, 54, 55, 56, 57]) (Int.toNat (Int.tmod e 10)) (Int.toNat (IntKind.wrap .i64 (Int.tmod e 10 + 1)))) + ByteArray.size vs) : Int) > 9223372036854775807))
 (F171_28 call L C n h (IntKind.wrap .i64 (Int.tdiv e 10)) (ByteArray.extract (ByteArray.mk #[48, 49, 50, 51, 52, 53, 54, 55, 56, 57]) (Int.toNat (Int.tmod e 10)) (Int.toNat (IntKind.wrap .i64 (Int.tmod e 10 + 1))) ++ vs))))
 (some (D.str vs)))) := by kernel_rfl
theorem F171_eq (call : CL) (L : Nat) (C : Nat → Nat) (h e : Int) : evFnT (TEf call L C) O0 N171 FinM.canon Tryz.f171 [D.int .i64 h, D.int .i64 e] =
 (F171_28 call L C L e h (ByteArray.mk #[])) := by kernel_rfl
def N170 : NTab := fun p => match p with
  | 12 => some { keep := [0, 1], kl := [], ren := [] }
  | _ => none
noncomputable def F170_12 (call : CL) (L : Nat) (C : Nat → Nat) (n : Nat) (e h : Int) : Option D :=
 loopAt (TEf call L C) O0 N170 FinM.canon Tryz.f170 [true, false, false] []  n (St.mk (D.int .i64 e :: D.int .i64 h :: jn 10 []) (zn 12 []))
theorem F170_12_eq (call : CL) (L : Nat) (C : Nat → Nat) (n : Nat) (h e : Int) : F170_12 call L C  (n + 1)  h e =
 (ifK (decide (e > 0))
 (chkK (!decide (e = 0))
 (F170_12 call L C n e (Int.tmod h e)))
 (some (D.int .i64 h))) := by kernel_rfl
theorem F170_eq (call : CL) (L : Nat) (C : Nat → Nat) (e h : Int) : evFnT (TEf call L C) O0 N170 FinM.canon Tryz.f170 [D.int .i64 e, D.int .i64 h] =
 (F170_12 call L C L e h) := by kernel_rfl
def N165 : NTab := fun p => match p with
  | 31 => some { keep := [5, 6], kl := [], ren := [] }
  | 63 => some { keep := [5, 6], kl := [], ren := [] }
  | 255 => some { keep := [5, 6, 7], kl := [], ren := [] }
  | _ => none
noncomputable def F165_255 (call : CL) (L : Nat) (C : Nat → Nat) (vs : ByteArray) (h : Bool) (e : Int) : Option D :=
 cutAt (TEf call L C) O0 N165 FinM.canon Tryz.f165 [true, true, true, true, true, true, true] []  (C 255) (St.mk (jn 5 (D.str vs :: D.bool h :: D.int .i64 e :: jn 46 [])) (zn 54 []))
noncomputable def F165_63 (call : CL) (L : Nat) (C : Nat → Nat) (e : Bool) (vs : ByteArray) : Option D :=
 cutAt (TEf call L C) O0 N165 FinM.canon Tryz.f165 [true, true, true, true, true] []  (C 63) (St.mk (jn 5 (D.str vs :: D.bool e :: jn 47 [])) (zn 54 []))
noncomputable def F165_31 (call : CL) (L : Nat) (C : Nat → Nat) (e : ByteArray) (h : Bool) : Option D :=
 cutAt (TEf call L C) O0 N165 FinM.canon Tryz.f165 [true, true, true, true] []  (C 31) (St.mk (jn 5 (D.str e :: D.bool h :: jn 47 [])) (zn 54 []))
theorem F165_255_eq (call : CL) (L : Nat) (C : Nat → Nat) (vs : ByteArray) (j : Bool) (e : Int) (hC : ∀ t, C t = 1) : F165_255 call L C  vs j e =
 (chkK (decide (0 ≤ (0 : Int) ∧ (0 : Int) ≤ e ∧ e ≤ ((ByteArray.size vs) : Int)))
 (optK (call 190 [D.str (ByteArray.extract vs 0 (Int.toNat e))]) fun r =>
 (intK .i64 r fun h =>
 (ifK (decide (e < ((ByteArray.size vs) : Int)))
 (chkK (decide (0 ≤ IntKind.wrap .i64 (e + 1) ∧ IntKind.wrap .i64 (e + 1) ≤ ((ByteArray.size vs) : Int) ∧ ((ByteArray.size vs) : Int) ≤ ((ByteArray.size vs) : Int)))
 (optK (call 190 [D.str (ByteArray.extract vs (Int.toNat (IntKind.wrap .i64 (e + 1))) (Int.toNat ((ByteArray.size vs) : Int)))]) fun z =>
 (intK .i64 z fun q =>
 (ifK j
 (some (D.tup [D.int .i64 (IntKind.wrap .i64 (0 - h)), D.int .i64 q, D.bool true]))
 (some (D.tup [D.int .i64 h, D.int .i64 q, D.bool true]))))))
 (ifK j
 (some (D.tup [D.int .i64 (IntKind.wrap .i64 (0 - h)), D.int .i64 1, D.bool true]))
 (some (D.tup [D.int .i64 h, D.int .i64 1, D.bool true]))))))) := by
  unfold F165_255
  rw [hC]
  kernel_rfl
theorem F165_63_eq (call : CL) (L : Nat) (C : Nat → Nat) (e : Bool) (vs : ByteArray) (hC : ∀ t, C t = 1) : F165_63 call L C  e vs =
 (optK (call 189 [D.str vs]) fun r =>
 (intK .i64 r fun x =>
 (ifK (decide (x > 9))
 (some (D.tup [D.int .i64 0, D.int .i64 0, D.bool false]))
 (ifK (decide (IntKind.wrap .i64 (((ByteArray.size vs) : Int) - x) > 10))
 (some (D.tup [D.int .i64 0, D.int .i64 0, D.bool false]))
 (F165_255 call L C vs e x))))) := by
  unfold F165_63
  rw [hC]
  kernel_rfl
theorem F165_31_eq (call : CL) (L : Nat) (C : Nat → Nat) (e : ByteArray) (h : Bool) (hC : ∀ t, C t = 1) : F165_31 call L C  e h =
 (ifK h
 (chkK (decide ((0 : Int) ≤ 1 ∧ 1 ≤ ((ByteArray.size e) : Int) ∧ ((ByteArray.size e) : Int) ≤ ((ByteArray.size e) : Int)))
 (F165_63 call L C h (ByteArray.extract e 1 (Int.toNat ((ByteArray.size e) : Int)))))
 (F165_63 call L C h e)) := by
  unfold F165_31
  rw [hC]
  kernel_rfl
theorem F165_eq (call : CL) (L : Nat) (C : Nat → Nat) (e : ByteArray) : evFnT (TEf call L C) O0 N165 FinM.canon Tryz.f165 [D.str e] =
 (ifK (decide (((ByteArray.size e) : Int) > 20))
 (some (D.tup [D.int .i64 0, D.int .i64 0, D.bool false]))
 (ifK (decide (((ByteArray.size e) : Int) > 0))
 (chkK (decide ((0 : Int) ≤ 0 ∧ 0 < ByteArray.size e))
 (F165_31 call L C e (byteAt e 0 == 45)))
 (F165_31 call L C e false))) := by kernel_rfl
def N141 : NTab := fun p => match p with
  | 7 => some { keep := [0, 1], kl := [], ren := [] }
  | 13 => some { keep := [0, 1, 20], kl := [], ren := [] }
  | 15 => some { keep := [0, 1], kl := [], ren := [] }
  | _ => none
noncomputable def F141_15 (call : CL) (L : Nat) (C : Nat → Nat) (h e : Int) : Option D :=
 cutAt (TEf call L C) O0 N141 FinM.canon Tryz.f141 [true, true, true] []  (C 15) (St.mk (D.int .i64 h :: D.int .i64 e :: jn 59 []) (zn 61 []))
noncomputable def F141_7 (call : CL) (L : Nat) (C : Nat → Nat) (h e : Int) : Option D :=
 cutAt (TEf call L C) O0 N141 FinM.canon Tryz.f141 [true, true] []  (C 7) (St.mk (D.int .i64 h :: D.int .i64 e :: jn 59 []) (zn 61 []))
noncomputable def F141_13 (call : CL) (L : Nat) (C : Nat → Nat) (j h : Int) (e : Bool) : Option D :=
 cutAt (TEf call L C) O0 N141 FinM.canon Tryz.f141 [true, false, true] []  (C 13) (St.mk (D.int .i64 j :: D.int .i64 h :: jn 18 (D.bool e :: jn 40 [])) (zn 61 []))
theorem F141_15_eq (call : CL) (L : Nat) (C : Nat → Nat) (e h : Int) (hC : ∀ t, C t = 1) : F141_15 call L C   e h =
 (optK (call 170 [D.int .i64 (if IntKind.wrap .i64 (0 - e) > e then IntKind.wrap .i64 (0 - e) else e), D.int .i64 h]) fun J =>
 (intK .i64 J fun x =>
 (chkK (!decide (x = 0))
 (chkK (!decide (x = 0))
 (ifK (decide (IntKind.wrap .i64 (Int.tdiv e x) < 0))
 (optK (call 171 [D.int .i64 (if IntKind.wrap .i64 (0 - IntKind.wrap .i64 (Int.tdiv e x)) > IntKind.wrap .i64 (Int.tdiv e x) then IntKind.wrap .i64 (0 - IntKind.wrap .i64 (Int.tdiv e x)) else IntKind.wrap .i64 (Int.tdiv e x)), D.int .i64 1]) fun K =>
 (strK K fun j =>
 (chkK (!decide (((1 + ByteArray.size j) : Int) > 9223372036854775807))
 (ifK (decide (IntKind.wrap .i64 (Int.tdiv h x) > 1))
 (chkK (!decide (((ByteArray.size (ByteArray.mk #[45] ++ j) + 1) : Int) > 9223372036854775807))
 (optK (call 171 [D.int .i64 (IntKind.wrap .i64 (Int.tdiv h x)), D.int .i64 1]) fun O =>
 (strK O fun r =>
 (chkK (!decide (((ByteArray.size (ByteArray.mk #[45] ++ j ++ ByteArray.mk #[47]) + ByteArray.size r) : Int) > 9223372036854775807))
 (some (D.str (ByteArray.mk #[45] ++ j ++ ByteArray.mk #[47] ++ r)))))))
 (some (D.str (ByteArray.mk #[45] ++ j)))))))
 (optK (call 171 [D.int .i64 (if IntKind.wrap .i64 (0 - IntKind.wrap .i64 (Int.tdiv e x)) > IntKind.wrap .i64 (Int.tdiv e x) then IntKind.wrap .i64 (0 - IntKind.wrap .i64 (Int.tdiv e x)) else IntKind.wrap .i64 (Int.tdiv e x)), D.int .i64 1]) fun S =>
 (strK S fun q =>
 (chkK (!decide (((0 + ByteArray.size q) : Int) > 9223372036854775807))
 (ifK (decide (IntKind.wrap .i64 (Int.tdiv h x) > 1))
 (chkK (!decide (((ByteArray.size (ByteArray.mk #[] ++ q) + 1) : Int) > 9223372036854775807))
 (optK (call 171 [D.int .i64 (IntKind.wrap .i64 (Int.tdiv h x)), D.int .i64 1]) fun U =>
 (strK U fun z =>
 (chkK (!decide (((ByteArray.size (ByteArray.mk #[] ++ q ++ ByteArray.mk #[47]) + ByteArray.size z) : Int) > 9223372036854775807))
 (some (D.str (ByteArray.mk #[] ++ q ++ ByteArray.mk #[47] ++ z)))))))
 (some (D.str (ByteArray.mk #[] ++ q)))))))))))) := by
  unfold F141_15
  rw [hC]
  kernel_rfl
theorem F141_7_eq (call : CL) (L : Nat) (C : Nat → Nat) (h e : Int) (hC : ∀ t, C t = 1) : F141_7 call L C  h e  =
 (ifK (decide (e < 0))
 (F141_15 call L C (IntKind.wrap .i64 (0 - h)) (IntKind.wrap .i64 (0 - e)))
 (F141_15 call L C h e)) := by
  unfold F141_7
  rw [hC]
  kernel_rfl
theorem F141_13_eq (call : CL) (L : Nat) (C : Nat → Nat) (h e : Int) (q : Bool) (hC : ∀ t, C t = 1) : F141_13 call L C  h e q =
 (ifK q
 (optK (call 169 [D.int .i64 h]) fun r =>
 (aggK r 2 fun c =>
 (cellK c 0 fun d =>
 (boolK d fun b =>
 (cellK c 1 fun O =>
 (slcK O fun f W J =>
 (optK (call 169 [D.int .i64 e]) fun Y =>
 (aggK Y 2 fun j =>
 (cellK j 0 fun S =>
 (boolK S fun z =>
 (cellK j 1 fun U =>
 (slcK U fun V X K =>
 (optK (call 166 [D.agg [D.bool b, D.slc f W J], D.agg [D.bool z, D.slc V X K]]) fun Z =>
 (strK Z fun s =>
 (some (D.str s))))))))))))))))
 (F141_7 call L C h e)) := by
  unfold F141_13
  rw [hC]
  kernel_rfl
theorem F141_eq (call : CL) (L : Nat) (C : Nat → Nat) (h e : Int) : evFnT (TEf call L C) O0 N141 FinM.canon Tryz.f141 [D.int .i64 h, D.int .i64 e] =
 (ifK (decide (h < -4000000000000000000))
 (F141_13 call L C h e true)
 (ifK (decide (h > 4000000000000000000))
 (F141_13 call L C h e true)
 (ifK (decide (e < -4000000000000000000))
 (F141_13 call L C h e true)
 (F141_13 call L C h e (decide (e > 4000000000000000000)))))) := by kernel_rfl
end Go.Pd
end
section
namespace Go.Pd
open Go Go.Proofs
set_option maxRecDepth 100000
def N140 : NTab := fun p => match p with
  | 31 => some { keep := [0, 1], kl := [11, 12, 13, 14], ren := [(11, 11), (12, 12), (13, 13), (14, 14)] }
  | 61 => some { keep := [0, 1, 5, 6, 8, 9, 30], kl := [11, 12, 13, 14], ren := [(11, 11), (12, 12), (13, 13), (14, 14)] }
  | _ => none
noncomputable def F140_31 (call : CL) (L : Nat) (C : Nat → Nat) (e h : ByteArray) : Option D :=
 cutAt (TEf call L C) O0 N140 FinM.canon Tryz.f140 [true, true, true, true] []  (C 31) (St.mk (D.str e :: D.str h :: jn 61 []) (zn 63 []))
noncomputable def F140_61 (call : CL) (L : Nat) (C : Nat → Nat) (h j : ByteArray) (K q z r : Int) (e : Bool) : Option D :=
 cutAt (TEf call L C) O0 N140 FinM.canon Tryz.f140 [true, true, true, false, true] []  (C 61) (St.mk (D.str h :: D.str j :: J :: J :: J :: D.int .i64 K :: D.int .i64 q :: J :: D.int .i64 z :: D.int .i64 r :: jn 20 (D.bool e :: jn 32 [])) (zn 63 []))
theorem F140_61_eq (call : CL) (L : Nat) (C : Nat → Nat) (q r : ByteArray) (J e z h : Int) (j : Bool) (hC : ∀ t, C t = 1) : F140_61 call L C  q r J e z h j =
 (ifK j
 (optK (call 141 [D.int .i64 (IntKind.wrap .i64 (IntKind.wrap .i64 (J * h) + IntKind.wrap .i64 (z * e))), D.int .i64 (IntKind.wrap .i64 (e * h))]) fun K =>
 (strK K fun s =>
 (some (D.str s))))
 (F140_31 call L C q r)) := by
  unfold F140_61
  rw [hC]
  kernel_rfl
theorem F140_eq (call : CL) (L : Nat) (C : Nat → Nat) (e h : ByteArray) : evFnT (TEf call L C) O0 N140 FinM.canon Tryz.f140 [D.str e, D.str h] =
 (optK (call 165 [D.str e]) fun r =>
 (tupK r 3 fun c =>
 (cellK c 0 fun d =>
 (intK .i64 d fun x =>
 (cellK c 1 fun O =>
 (intK .i64 O fun q =>
 (cellK c 2 fun S =>
 (boolK S fun b =>
 (optK (call 165 [D.str h]) fun X =>
 (tupK X 3 fun j =>
 (cellK j 0 fun U =>
 (intK .i64 U fun z =>
 (cellK j 1 fun V =>
 (intK .i64 V fun J =>
 (cellK j 2 fun W =>
 (boolK W fun K =>
 (ifK b
 (F140_61 call L C e h x q z J K)
 (F140_61 call L C e h x q z J false)))))))))))))))))) := by kernel_rfl
end Go.Pd
end
section
namespace Go.Pd
open Go Go.Proofs
set_option maxRecDepth 100000
def N210 : NTab := fun p => match p with
  | 12 => some { keep := [0], kl := [], ren := [] }
  | _ => none
noncomputable def F210_12 (call : CL) (L : Nat) (C : Nat → Nat) (n : Nat) (h : Bool) (j : Nat) (e : List D) : Option D :=
 loopAt (TEf call L C) O0 N210 FinM.canon Tryz.f210 [true, false, false] []  n (St.mk (D.slc h j e :: jn 20 []) (zn 21 []))
theorem F210_12_eq (call : CL) (L : Nat) (C : Nat → Nat) (n : Nat) (j : Bool) (e : Nat) (h : List D) : F210_12 call L C  (n + 1)  j e h =
 (ifK (decide ((e : Int) > 0))
 (chkK (decide (0 ≤ IntKind.wrap .i64 ((e : Int) - 1) ∧ IntKind.wrap .i64 ((e : Int) - 1) < (e : Int)))
 (cellK h (Int.toNat (IntKind.wrap .i64 ((e : Int) - 1)) * 1) fun d =>
 (intK .i64 d fun x =>
 (ifK (x == 0)
 (chkK (decide (0 ≤ (0 : Int) ∧ (0 : Int) ≤ IntKind.wrap .i64 ((e : Int) - 1) ∧ IntKind.wrap .i64 ((e : Int) - 1) ≤ (e : Int)))
 (F210_12 call L C n (j && decide (IntKind.wrap .i64 ((e : Int) - 1) = (e : Int))) (Int.toNat (IntKind.wrap .i64 ((e : Int) - 1) - (0 : Int))) (List.take (Int.toNat (IntKind.wrap .i64 ((e : Int) - 1) - (0 : Int)) * 1) h)))
 (some (D.slc j e h))))))
 (some (D.slc j e h))) := by kernel_rfl
theorem F210_eq (call : CL) (L : Nat) (C : Nat → Nat) (h : Bool) (j : Nat) (e : List D) : evFnT (TEf call L C) O0 N210 FinM.canon Tryz.f210 [D.slc h j e] =
 (F210_12 call L C L h j e) := by kernel_rfl
theorem F191_eq (call : CL) (L : Nat) (C : Nat → Nat) (e j : Bool) (q : Nat) (h : List D) : evFnT (TEf call L C) O0 N0 FinM.canon Tryz.f191 [D.bool e, D.slc j q h] =
 (optK (call 210 [D.slc j q h]) fun r =>
 (slcK r fun f n c =>
 (ifK e
 (some (D.agg [D.bool (decide ((n : Int) > 0)), D.slc f n c]))
 (some (D.agg [D.bool false, D.slc f n c]))))) := by kernel_rfl
theorem F213_eq (call : CL) (L : Nat) (C : Nat → Nat) (q : Bool) (h : Nat) (j : List D) (e : Int) : evFnT (TEf call L C) O0 N0 FinM.canon Tryz.f213 [D.slc q h j, D.int .i64 e] =
 (ifK (decide (e < (h : Int)))
 (chkK (decide (0 ≤ e ∧ e < (h : Int)))
 (cellK j (Int.toNat e * 1) fun d =>
 (intK .i64 d fun x =>
 (some (D.int .i64 x)))))
 (some (D.int .i64 0))) := by kernel_rfl
def N193 : NTab := fun p => match p with
  | 122 => some { keep := [0, 1, 5, 6, 7], kl := [], ren := [(38, 38)] }
  | 489 => some { keep := [0, 1, 5, 6, 7], kl := [], ren := [(38, 38)] }
  | _ => none
noncomputable def F193_489 (call : CL) (L : Nat) (C : Nat → Nat) (n : Nat) (j : Bool) (q : Nat) (h : List D) (z : Bool) (K : Nat) (r : List D) (O S : Int) (e : Ow) : Option D :=
 cutAt (TEf call L C) O0 N193 FinM.canon Tryz.f193 [true, true, true, false, true, false, false, true] [n]  (C 489) (St.mk (D.slc j q h :: D.slc z K r :: J :: J :: J :: ownD 38 e :: D.int .i64 O :: D.int .i64 S :: jn 34 []) (zn 38 [ownO 3 1 e, Z, Z, Z]))
noncomputable def F193_122 (call : CL) (L : Nat) (C : Nat → Nat) (n : Nat) (j : Bool) (q : Nat) (h : List D) (z : Bool) (K : Nat) (r : List D) (e : Ow) (O S : Int) : Option D :=
 loopAt (TEf call L C) O0 N193 FinM.canon Tryz.f193 [true, true, true, false, true, false] []  n (St.mk (D.slc j q h :: D.slc z K r :: J :: J :: J :: ownD 38 e :: D.int .i64 O :: D.int .i64 S :: jn 34 []) (zn 38 [ownO 3 1 e, Z, Z, Z]))
theorem F193_489_eqn (call : CL) (L : Nat) (C : Nat → Nat) (n : Nat) (j : Bool) (q : Nat) (h : List D) (J : Bool) (K : Nat) (z : List D) (O e : Int) (hC : ∀ t, C t = 1) : F193_489 call L C n j q h J K z O e (Ow.nil) =
 (optK (call 213 [D.slc j q h, D.int .i64 e]) fun r =>
 (intK .i64 r fun x =>
 (optK (call 213 [D.slc J K z, D.int .i64 e]) fun U =>
 (intK .i64 U fun S =>
 (F193_122 call L C n j q h J K z (Ow.own 1 [D.int .i64 (Int.tmod (IntKind.wrap .i64 (IntKind.wrap .i64 (x + S) + O)) 1000000000)]) (IntKind.wrap .i64 (Int.tdiv (IntKind.wrap .i64 (IntKind.wrap .i64 (x + S) + O)) 1000000000)) (IntKind.wrap .i64 (e + 1))))))) := by
  unfold F193_489
  rw [hC]
  kernel_rfl
theorem F193_489_eqo (call : CL) (L : Nat) (C : Nat → Nat) (n : Nat) (q : Bool) (r : Nat) (j : List D) (J : Bool) (K : Nat) (z : List D) (O e : Int) (h : Nat) (S : List D) (hC : ∀ t, C t = 1) : F193_489 call L C n q r j J K z O e (Ow.own h S) =
 (optK (call 213 [D.slc q r j, D.int .i64 e]) fun W =>
 (intK .i64 W fun U =>
 (optK (call 213 [D.slc J K z, D.int .i64 e]) fun X =>
 (intK .i64 X fun V =>
 (chkK (decide ((h + 1) * 8 ≤ limit ∧ h + 1 ≤ 9223372036854775807))
 (F193_122 call L C n q r j J K z (Ow.own (h + 1) (S ++ [D.int .i64 (Int.tmod (IntKind.wrap .i64 (IntKind.wrap .i64 (U + V) + O)) 1000000000)])) (IntKind.wrap .i64 (Int.tdiv (IntKind.wrap .i64 (IntKind.wrap .i64 (U + V) + O)) 1000000000)) (IntKind.wrap .i64 (e + 1)))))))) := by
  unfold F193_489
  rw [hC]
  kernel_rfl
theorem F193_122_eqn (call : CL) (L : Nat) (C : Nat → Nat) (n : Nat) (z : Bool) (h : Nat) (r : List D) (K : Bool) (j : Nat) (J : List D) (q e : Int) : F193_122 call L C  (n + 1) z h r K j J (Ow.nil) q e =
 (ifK (decide (e < (h : Int)))
 (F193_489 call L C n z h r K j J q e (Ow.nil))
 (ifK (decide (e < (j : Int)))
 (F193_489 call L C n z h r K j J q e (Ow.nil))
 (ifK (decide (q > 0))
 (F193_489 call L C n z h r K j J q e (Ow.nil))
 (some (D.slc true 0 []))))) := by kernel_rfl
theorem F193_122_eqo (call : CL) (L : Nat) (C : Nat → Nat) (n : Nat) (K : Bool) (h : Nat) (J : List D) (S : Bool) (j : Nat) (O : List D) (z : Nat) (r : List D) (q e : Int) : F193_122 call L C  (n + 1) K h J S j O (Ow.own z r) q e =
 (ifK (decide (e < (h : Int)))
 (F193_489 call L C n K h J S j O q e (Ow.own z r))
 (ifK (decide (e < (j : Int)))
 (F193_489 call L C n K h J S j O q e (Ow.own z r))
 (ifK (decide (q > 0))
 (F193_489 call L C n K h J S j O q e (Ow.own z r))
 (some (D.slc false z r))))) := by kernel_rfl
theorem F193_eq (call : CL) (L : Nat) (C : Nat → Nat) (h : Bool) (j : Nat) (e : List D) (r : Bool) (z : Nat) (q : List D) : evFnT (TEf call L C) O0 N193 FinM.canon Tryz.f193 [D.slc h j e, D.slc r z q] =
 (F193_122 call L C L h j e r z q (Ow.nil) 0 0) := by kernel_rfl
def N196 : NTab := fun p => match p with
  | 58 => some { keep := [0, 1, 5], kl := [], ren := [] }
  | _ => none
noncomputable def F196_58 (call : CL) (L : Nat) (C : Nat → Nat) (n : Nat) (h : Bool) (j : Nat) (e : List D) (r : Bool) (z : Nat) (q : List D) (K : Int) : Option D :=
 loopAt (TEf call L C) O0 N196 FinM.canon Tryz.f196 [true, true, false, true, false] []  n (St.mk (D.slc h j e :: D.slc r z q :: J :: J :: J :: D.int .i64 K :: jn 35 []) (zn 41 []))
theorem F196_58_eq (call : CL) (L : Nat) (C : Nat → Nat) (n : Nat) (z : Bool) (j : Nat) (h : List D) (J : Bool) (r : Nat) (q : List D) (e : Int) : F196_58 call L C  (n + 1) z j h J r q e =
 (ifK (decide (e ≥ 0))
 (chkK (decide (0 ≤ e ∧ e < (j : Int)))
 (cellK h (Int.toNat e * 1) fun d =>
 (intK .i64 d fun x =>
 (chkK (decide (0 ≤ e ∧ e < (r : Int)))
 (cellK q (Int.toNat e * 1) fun K =>
 (intK .i64 K fun U =>
 (ifK (decide (x < U))
 (some (D.int .i64 (-1)))
 (chkK (decide (0 ≤ e ∧ e < (j : Int)))
 (cellK h (Int.toNat e * 1) fun O =>
 (intK .i64 O fun V =>
 (chkK (decide (0 ≤ e ∧ e < (r : Int)))
 (cellK q (Int.toNat e * 1) fun S =>
 (intK .i64 S fun W =>
 (ifK (decide (V > W))
 (some (D.int .i64 1))
 (F196_58 call L C n z j h J r q (IntKind.wrap .i64 (e - 1)))))))))))))))))
 (some (D.int .i64 0))) := by kernel_rfl
theorem F196_eq (call : CL) (L : Nat) (C : Nat → Nat) (q : Bool) (e : Nat) (j : List D) (z : Bool) (h : Nat) (r : List D) : evFnT (TEf call L C) O0 N196 FinM.canon Tryz.f196 [D.slc q e j, D.slc z h r] =
 (ifK ((e : Int) != (h : Int))
 (ifK (decide ((e : Int) < (h : Int)))
 (some (D.int .i64 (-1)))
 (some (D.int .i64 1)))
 (F196_58 call L C L q e j z h r (IntKind.wrap .i64 ((e : Int) - 1)))) := by kernel_rfl
def N211 : NTab := fun p => match p with
  | 122 => some { keep := [0, 1, 6, 7, 8], kl := [], ren := [(12, 12)] }
  | _ => none
noncomputable def F211_122 (call : CL) (L : Nat) (C : Nat → Nat) (n : Nat) (j : Bool) (q : Nat) (h : List D) (r : Int) (K : Nat) (O z : Int) (e : List D) : Option D :=
 loopAt (TEf call L C) O0 N211 FinM.canon Tryz.f211 [true, true, true, false, true, false] []  n (St.mk (D.slc j q h :: D.int .i64 r :: J :: J :: J :: J :: D.own 12 0 K :: D.int .i64 O :: D.int .i64 z :: jn 30 []) (zn 12 ((1, some (Ob.arr 3 1 e false)) :: zn 26 [])))
theorem F211_122_eq (call : CL) (L : Nat) (C : Nat → Nat) (n : Nat) (O : Bool) (K : Nat) (J : List D) (h : Int) (q : Nat) (z e : Int) (j : List D) : F211_122 call L C  (n + 1) O K J h q z e j =
 (ifK (decide (e ≥ 0))
 (chkK (decide (0 ≤ e ∧ e < (K : Int)))
 (cellK J (Int.toNat e * 1) fun d =>
 (intK .i64 d fun x =>
 (chkK (!decide (h = 0))
 (chkK (decide (0 ≤ e ∧ e < (q : Int)))
 (chkK (decide (Int.toNat e * 1 + 1 ≤ List.length j))
 (chkK (!decide (h = 0))
 (F211_122 call L C n O K J h q (Int.tmod (IntKind.wrap .i64 (IntKind.wrap .i64 (z * 1000000000) + x)) h) (IntKind.wrap .i64 (e - 1)) (writeAt j (Int.toNat e * 1) [D.int .i64 (IntKind.wrap .i64 (Int.tdiv (IntKind.wrap .i64 (IntKind.wrap .i64 (z * 1000000000) + x)) h))])))))))))
 (optK (call 210 [D.slc false q j]) fun r =>
 (slcK r fun f S c =>
 (some (D.tup [D.slc f S c, D.int .i64 z]))))) := by kernel_rfl
theorem F211_eq (call : CL) (L : Nat) (C : Nat → Nat) (j : Bool) (e : Nat) (h : List D) (q : Int) : evFnT (TEf call L C) O0 N211 FinM.canon Tryz.f211 [D.slc j e h, D.int .i64 q] =
 (chkK (decide (0 ≤ (e : Int) ∧ (e : Int) ≤ (e : Int) ∧ (e : Int) * (8 : Int) ≤ 140737488355328 ∧ (e : Int) ≤ 9223372036854775807))
 (F211_122 call L C L j e h q (Int.toNat (e : Int)) 0 (IntKind.wrap .i64 ((e : Int) - 1)) (repD (Int.toNat (e : Int)) [D.int .i64 0]))) := by kernel_rfl
def N163 : NTab := fun p => match p with
  | 122 => some { keep := [1, 3, 4], kl := [], ren := [(1, 1)] }
  | _ => none
noncomputable def F163_122 (call : CL) (L : Nat) (C : Nat → Nat) (n : Nat) (e j : Bool) (q : Nat) (h : List D) (vs : ByteArray) (r : Int) : Option D :=
 loopAt (TEf call L C) O0 N163 FinM.canon Tryz.f163 [true, true, true, false, true, false] []  n (St.mk (J :: D.loc 1 0 0 :: J :: D.str vs :: D.int .i64 r :: jn 34 []) (Z :: (1, some (Ob.box [D.bool e, D.slc j q h] false)) :: zn 37 []))
theorem F163_122_eq (call : CL) (L : Nat) (C : Nat → Nat) (n : Nat) (h z : Bool) (q : Nat) (j : List D) (vs : ByteArray) (e : Int) : F163_122 call L C  (n + 1) h z q j vs e =
 (ifK (decide (e ≥ 0))
 (chkK (decide (0 ≤ e ∧ e < (q : Int)))
 (cellK j (Int.toNat e * 1) fun J =>
 (intK .i64 J fun O =>
 (optK (call 171 [D.int .i64 O, D.int .i64 9]) fun K =>
 (strK K fun r =>
 (chkK (!decide (((ByteArray.size vs + ByteArray.size r) : Int) > 9223372036854775807))
 (F163_122 call L C n h z q j (vs ++ r) (IntKind.wrap .i64 (e - 1)))))))))
 (ifK h
 (chkK (!decide (((1 + ByteArray.size vs) : Int) > 9223372036854775807))
 (some (D.str (ByteArray.mk #[45] ++ vs))))
 (some (D.str vs)))) := by kernel_rfl
theorem F163_eq (call : CL) (L : Nat) (C : Nat → Nat) (j q : Bool) (e : Nat) (h : List D) : evFnT (TEf call L C) O0 N163 FinM.canon Tryz.f163 [D.agg [D.bool j, D.slc q e h]] =
 (ifK ((e : Int) == 0)
 (some (D.str (ByteArray.mk #[48])))
 (chkK (decide (0 ≤ IntKind.wrap .i64 ((e : Int) - 1) ∧ IntKind.wrap .i64 ((e : Int) - 1) < (e : Int)))
 (cellK h (Int.toNat (IntKind.wrap .i64 ((e : Int) - 1)) * 1) fun d =>
 (intK .i64 d fun x =>
 (optK (call 171 [D.int .i64 x, D.int .i64 1]) fun r =>
 (strK r fun s =>
 (F163_122 call L C L j q e h s (IntKind.wrap .i64 ((e : Int) - 2))))))))) := by kernel_rfl
def N161 : NTab := fun p => match p with
  | 7 => some { keep := [0, 2, 3], kl := [27, 38], ren := [(2, 2), (27, 27), (38, 27)] }
  | 15 => some { keep := [0, 2, 3], kl := [27, 38], ren := [(2, 2), (27, 27), (38, 27)] }
  | 124 => some { keep := [0, 2, 3, 4], kl := [38], ren := [(2, 2), (27, 27), (38, 27)] }
  | _ => none
noncomputable def F161_124 (call : CL) (L : Nat) (C : Nat → Nat) (h : Nat) (j : Bool) (q : ByteArray) (e : Ow) : Option D :=
 loopAt (TEf call L C) O0 N161 FinM.canon Tryz.f161 [true, true, true, true, false, false] []  h (St.mk (D.str q :: J :: D.loc 2 0 0 :: D.bool j :: ownD 27 e :: jn 35 []) (Z :: Z :: (1, some (Ob.box [D.bool false, D.nils] false)) :: zn 24 (ownO 3 1 e :: zn 12 [])))
noncomputable def F161_15 (call : CL) (L : Nat) (C : Nat → Nat) (e : Bool) (h : ByteArray) : Option D :=
 cutAt (TEf call L C) O0 N161 FinM.canon Tryz.f161 [true, true, true] []  (C 15) (St.mk (D.str h :: J :: D.loc 2 0 0 :: D.bool e :: jn 36 []) (Z :: Z :: (1, some (Ob.box [D.bool false, D.nils] false)) :: zn 37 []))
noncomputable def F161_7 (call : CL) (L : Nat) (C : Nat → Nat) (vs : ByteArray) (e : Bool) : Option D :=
 cutAt (TEf call L C) O0 N161 FinM.canon Tryz.f161 [true, true] []  (C 7) (St.mk (D.str vs :: J :: D.loc 2 0 0 :: D.bool e :: jn 36 []) (Z :: Z :: (1, some (Ob.box [D.bool false, D.nils] false)) :: zn 37 []))
theorem F161_124_eqn (call : CL) (L : Nat) (C : Nat → Nat) (j : Nat) (h : Bool) (e : ByteArray) : F161_124 call L C  (j + 1) h e (Ow.nil) =
 (ifK (decide (((ByteArray.size e) : Int) > 9))
 (chkK (decide (0 ≤ IntKind.wrap .i64 (((ByteArray.size e) : Int) - 9) ∧ IntKind.wrap .i64 (((ByteArray.size e) : Int) - 9) ≤ ((ByteArray.size e) : Int) ∧ ((ByteArray.size e) : Int) ≤ ((ByteArray.size e) : Int)))
 (optK (call 190 [D.str (ByteArray.extract e (Int.toNat (IntKind.wrap .i64 (((ByteArray.size e) : Int) - 9))) (Int.toNat ((ByteArray.size e) : Int)))]) fun r =>
 (intK .i64 r fun x =>
 (chkK (decide (0 ≤ (0 : Int) ∧ (0 : Int) ≤ IntKind.wrap .i64 (((ByteArray.size e) : Int) - 9) ∧ IntKind.wrap .i64 (((ByteArray.size e) : Int) - 9) ≤ ((ByteArray.size e) : Int)))
 (F161_124 call L C j h (ByteArray.extract e 0 (Int.toNat (IntKind.wrap .i64 (((ByteArray.size e) : Int) - 9)))) (Ow.own 1 [D.int .i64 x]))))))
 (optK (call 190 [D.str e]) fun K =>
 (intK .i64 K fun S =>
 (optK (call 191 [D.bool h, D.slc false 1 [D.int .i64 S]]) fun O =>
 (aggK O 2 fun c =>
 (cellK c 0 fun d =>
 (boolK d fun b =>
 (cellK c 1 fun z =>
 (slcK z fun f J q =>
 (some (D.agg [D.bool b, D.slc f J q]))))))))))) := by kernel_rfl
theorem F161_124_eqo (call : CL) (L : Nat) (C : Nat → Nat) (z : Nat) (j : Bool) (e : ByteArray) (h : Nat) (q : List D) : F161_124 call L C  (z + 1) j e (Ow.own h q) =
 (ifK (decide (((ByteArray.size e) : Int) > 9))
 (chkK (decide (0 ≤ IntKind.wrap .i64 (((ByteArray.size e) : Int) - 9) ∧ IntKind.wrap .i64 (((ByteArray.size e) : Int) - 9) ≤ ((ByteArray.size e) : Int) ∧ ((ByteArray.size e) : Int) ≤ ((ByteArray.size e) : Int)))
 (optK (call 190 [D.str (ByteArray.extract e (Int.toNat (IntKind.wrap .i64 (((ByteArray.size e) : Int) - 9))) (Int.toNat ((ByteArray.size e) : Int)))]) fun W =>
 (intK .i64 W fun Z =>
 (chkK (decide ((h + 1) * 8 ≤ limit ∧ h + 1 ≤ 9223372036854775807))
 (chkK (decide (0 ≤ (0 : Int) ∧ (0 : Int) ≤ IntKind.wrap .i64 (((ByteArray.size e) : Int) - 9) ∧ IntKind.wrap .i64 (((ByteArray.size e) : Int) - 9) ≤ ((ByteArray.size e) : Int)))
 (F161_124 call L C z j (ByteArray.extract e 0 (Int.toNat (IntKind.wrap .i64 (((ByteArray.size e) : Int) - 9)))) (Ow.own (h + 1) (q ++ [D.int .i64 Z]))))))))
 (optK (call 190 [D.str e]) fun X =>
 (intK .i64 X fun a0 =>
 (chkK (decide ((h + 1) * 8 ≤ limit ∧ h + 1 ≤ 9223372036854775807))
 (optK (call 191 [D.bool j, D.slc false (h + 1) (q ++ [D.int .i64 a0])]) fun Y =>
 (aggK Y 2 fun r =>
 (cellK r 0 fun O =>
 (boolK O fun J =>
 (cellK r 1 fun S =>
 (slcK S fun U V K =>
 (some (D.agg [D.bool J, D.slc U V K])))))))))))) := by kernel_rfl
theorem F161_15_eq (call : CL) (L : Nat) (C : Nat → Nat) (e : Bool) (h : ByteArray) (hC : ∀ t, C t = 1) : F161_15 call L C  e h =
 (F161_124 call L C L e h (Ow.nil)) := by
  unfold F161_15
  rw [hC]
  kernel_rfl
theorem F161_7_eq (call : CL) (L : Nat) (C : Nat → Nat) (vs : ByteArray) (e : Bool) (hC : ∀ t, C t = 1) : F161_7 call L C  vs e =
 (ifK e
 (chkK (decide ((0 : Int) ≤ 1 ∧ 1 ≤ ((ByteArray.size vs) : Int) ∧ ((ByteArray.size vs) : Int) ≤ ((ByteArray.size vs) : Int)))
 (F161_15 call L C e (ByteArray.extract vs 1 (Int.toNat ((ByteArray.size vs) : Int)))))
 (F161_15 call L C e vs)) := by
  unfold F161_7
  rw [hC]
  kernel_rfl
theorem F161_eq (call : CL) (L : Nat) (C : Nat → Nat) (vs : ByteArray) : evFnT (TEf call L C) O0 N161 FinM.canon Tryz.f161 [D.str vs] =
 (ifK (decide (((ByteArray.size vs) : Int) > 0))
 (chkK (decide ((0 : Int) ≤ 0 ∧ 0 < ByteArray.size vs))
 (F161_7 call L C vs (byteAt vs 0 == 45)))
 (F161_7 call L C vs false)) := by kernel_rfl
end Go.Pd
end
section
namespace Go.Pd
open Go
/-! ### Insertion -/
def insR : List Int → Int → List Int → List Int
  | [], x, b => x :: b
  | y :: r, x, b => if x < y then insR r x (y :: b) else (y :: r).reverse ++ x :: b
def insAll : List Int → List Int → List Int
  | p, [] => p
  | p, x :: r => insAll (insR p.reverse x []) r
theorem insR_perm : ∀ (r : List Int) (x : Int) (b : List Int), (insR r x b).Perm (x :: (r.reverse ++ b))
  | [], x, b => List.Perm.refl _
  | y :: r, x, b => by
    unfold insR
    split
    · refine (insR_perm r x (y :: b)).trans ?_
      rw [List.reverse_cons, List.append_assoc, List.singleton_append]
    · exact List.perm_middle
theorem insR_len (r : List Int) (x : Int) (b : List Int) : (insR r x b).length = r.length + b.length + 1 := by
  rw [(insR_perm r x b).length_eq, List.length_cons, List.length_append, List.length_reverse]
def Asc (l : List Int) : Prop := l.Pairwise fun x y => decide (x ≤ y) = true
theorem insR_asc : ∀ (r : List Int) (x : Int) (b : List Int), Asc (r.reverse ++ b) → (∀ y ∈ b, x ≤ y) → Asc (insR r x b)
  | [], x, b, h, hb => by
    unfold insR Asc
    exact List.pairwise_cons.2 ⟨fun y hy => decide_eq_true (hb y hy), by simpa [Asc] using h⟩
  | y :: r, x, b, h, hb => by
    unfold insR
    split
    · rename_i hlt
      refine insR_asc r x (y :: b) (by rw [List.reverse_cons, List.append_assoc, List.singleton_append] at h; exact h) fun z hz => ?_
      rcases List.mem_cons.1 hz with rfl | hz
      · omega
      · exact hb z hz
    · rename_i hge
      unfold Asc at h ⊢
      rw [List.pairwise_append] at h ⊢
      refine ⟨h.1, List.pairwise_cons.2 ⟨fun z hz => decide_eq_true (hb z hz), h.2.1⟩, fun a ha c hc => ?_⟩
      rcases List.mem_cons.1 hc with rfl | hc
      · rw [List.reverse_cons] at ha h
        have h1 := h.1
        rw [List.pairwise_append] at h1
        rcases List.mem_append.1 ha with ha | ha
        · have := h1.2.2 a ha y (List.mem_singleton.2 rfl)
          simp only [decide_eq_true_eq] at this ⊢
          omega
        · rw [List.mem_singleton] at ha
          subst ha
          simp only [decide_eq_true_eq]
          omega
      · exact h.2.2 a ha c hc
theorem insAll_ok : ∀ (r p : List Int), Asc p → Asc (insAll p r) ∧ (insAll p r).Perm (p ++ r)
  | [], p, h => ⟨h, by rw [List.append_nil]; exact List.Perm.refl _⟩
  | x :: r, p, h => by
    have h1 : Asc (insR p.reverse x []) := insR_asc _ _ _ (by rw [List.reverse_reverse, List.append_nil]; exact h) fun _ h => by cases h
    obtain ⟨h2, h3⟩ := insAll_ok r _ h1
    refine ⟨h2, h3.trans ?_⟩
    have := insR_perm p.reverse x []
    rw [List.reverse_reverse, List.append_nil] at this
    exact (this.append_right r).trans List.perm_middle.symm
theorem insAll_sort (l : List Int) : insAll [] l = sortI l := by
  obtain ⟨h1, h2⟩ := insAll_ok l [] List.Pairwise.nil
  rw [← sortI_eq]
  refine List.Perm.eq_of_pairwise (le := fun x y => decide (x ≤ y) = true) (fun a b _ _ h3 h4 => ?_) h1 ?_ (h2.trans (List.mergeSort_perm _ _).symm)
  · simp only [decide_eq_true_eq] at h3 h4
    omega
  · refine List.pairwise_mergeSort (fun a b c h3 h4 => ?_) (fun a b => ?_) l
    · simp only [decide_eq_true_eq] at h3 h4 ⊢
      omega
    · rw [Bool.or_eq_true, decide_eq_true_eq, decide_eq_true_eq]
      omega
theorem gcd_cut {n : Int} {d : Nat} (h : 0 < d) : ∃ (g a : Int) (b : Nat), 0 < g ∧ 1 ≤ b ∧ n = g * a ∧ (d : Int) = g * (b : Int) ∧ Int.tdiv n ((Nat.gcd n.natAbs d : Nat) : Int) = a ∧ d / Nat.gcd n.natAbs d = b := by
  have hg : 0 < Nat.gcd n.natAbs d := Nat.gcd_pos_of_pos_right _ h
  obtain ⟨b, hb⟩ := Nat.gcd_dvd_right n.natAbs d
  have h1 : ((Nat.gcd n.natAbs d : Nat) : Int) ∣ n := Int.ofNat_dvd_left.2 (Nat.gcd_dvd_left _ _)
  revert h1 hb hg
  generalize Nat.gcd n.natAbs d = g
  intro hg hb h1
  obtain ⟨a, ha⟩ := h1
  refine ⟨(g : Int), a, b, by omega, ?_, ha, ?_, ?_, ?_⟩
  · rcases Nat.eq_zero_or_pos b with h0 | h0
    · rw [h0, Nat.mul_zero] at hb; omega
    · exact h0
  · rw [hb]; exact Int.natCast_mul ..
  · rw [ha]
    exact Int.mul_tdiv_cancel_left _ (by omega)
  · rw [hb]
    exact Nat.mul_div_cancel_left b hg
theorem mul_cancel_div {g x y : Int} (hg : 0 < g) : (g * x) / (g * y) = x / y := Int.mul_ediv_mul_of_pos _ _ hg
theorem fl_of {n : Int} {d : Nat} (h : 0 < d) : (Int.tdiv n ((Nat.gcd n.natAbs d : Nat) : Int)) / ((d / Nat.gcd n.natAbs d : Nat) : Int) = n / (d : Int) := by
  obtain ⟨g, a, b, hg, _, h1, h2, h3, h4⟩ := gcd_cut (n := n) h
  rw [h3, h4, h1, h2, mul_cancel_div hg]
theorem half_of {n : Int} {d : Nat} (h : 0 < d) : ((Int.tdiv n ((Nat.gcd n.natAbs d : Nat) : Int)) * ((2 : Nat) : Int) + 1 * ((d / Nat.gcd n.natAbs d : Nat) : Int)) / ((d / Nat.gcd n.natAbs d * 2 : Nat) : Int) = (2 * n + (d : Int)) / (2 * (d : Int)) := by
  obtain ⟨g, a, b, hg, _, h1, h2, h3, h4⟩ := gcd_cut (n := n) h
  rw [h3, h4, Int.natCast_mul]
  conv => rhs; rw [h1, h2]
  rw [show 2 * (g * a) + g * (b : Int) = g * (a * ((2 : Nat) : Int) + 1 * (b : Int)) by rw [Int.mul_add, Int.one_mul, show a * ((2 : Nat) : Int) = 2 * a from Int.mul_comm _ _, Int.mul_left_comm], show 2 * (g * (b : Int)) = g * ((b : Int) * ((2 : Nat) : Int)) by rw [show (b : Int) * ((2 : Nat) : Int) = 2 * (b : Int) from Int.mul_comm _ _, Int.mul_left_comm], mul_cancel_div hg]
end Go.Pd
end
section
namespace Go.Pd
open Go Go.Proofs Go.RowKit
set_option maxRecDepth 100000
abbrev OK2 (k : FuncId) (ds : List D) (r : D) : Prop := OK5 k ds r
def updF {α : Type} (f : Nat → α) (v : Nat) (x : α) : Nat → α := fun k => if k = v then x else f k
theorem updF_same {α : Type} (f : Nat → α) (v : Nat) (x : α) : updF f v x v = x := by simp [updF]
theorem updF_ne {α : Type} (f : Nat → α) {v k : Nat} (x : α) (h : k ≠ v) : updF f v x k = f k := by simp [updF, h]
/-! ### Rows -/
theorem ints_app1 (l : List Int) (x : Int) : ints l ++ [D.int .i64 x] = ints (l ++ [x]) := by simp [ints]
def rowF (n : Nat) (f : Nat → Int) : List Int := (List.range n).map f
theorem rowF_len (n : Nat) (f : Nat → Int) : (rowF n f).length = n := by simp [rowF]
theorem rowF_get {n k : Nat} (f : Nat → Int) (h : k < n) : (rowF n f)[k]? = some (f k) := by simp [rowF, h]
theorem rowF_set (n : Nat) (f : Nat → Int) (v : Nat) (x : Int) : (rowF n f).set v x = rowF n (updF f v x) := by
  apply List.ext_getElem?
  intro k
  by_cases hk : k < n
  · rw [rowF_get _ hk]
    by_cases e : v = k
    · subst e
      rw [List.getElem?_set_self (by rw [rowF_len]; exact hk), updF_same]
    · rw [List.getElem?_set_ne e, rowF_get _ hk, updF_ne _ _ (fun h => e h.symm)]
  · rw [List.getElem?_eq_none (by simp [rowF_len]; omega), List.getElem?_eq_none (by rw [rowF_len]; omega)]
theorem rowF_ext {n : Nat} {f g : Nat → Int} (h : ∀ k, k < n → f k = g k) : rowF n f = rowF n g :=
  List.map_congr_left fun k hk => h k (List.mem_range.1 hk)
theorem rep_row (n : Nat) : List.replicate n (0 : Int) = rowF n fun _ => 0 := by
  apply List.ext_getElem?
  intro k
  by_cases hk : k < n
  · rw [rowF_get _ hk]; simp [hk]
  · rw [List.getElem?_eq_none (by simp; omega), List.getElem?_eq_none (by rw [rowF_len]; omega)]
theorem rep_rowI (n : Nat) : repD n [D.int .i64 0] = ints (rowF n fun _ => 0) := by
  rw [← rep_row]
  induction n with
  | zero => rfl
  | succ n ih => rw [List.replicate_succ]; show D.int .i64 0 :: repD n [D.int .i64 0] = D.int .i64 0 :: ints (List.replicate n 0); rw [ih]
/-! ### A row turned round in place -/
/-! ### Steps of printed equations -/
section
variable {α : Type} {r : Option α}
theorem cell_step {cs : List D} {i : Nat} {d : D} {k : D → Option α} (h : cs[i]? = some d) (h2 : k d = r) : cellK cs i k = r := (cellK_some h k).trans h2
theorem int_step {kd : IntKind} {n : Int} {k : Int → Option α} (h2 : k n = r) : intK kd (.int kd n) k = r := by
  rw [intK_int]
  exact h2
theorem chk_step {b : Bool} {t : Option α} (h : b = true) (h2 : t = r) : chkK b t = r := by
  subst h
  exact h2
theorem opt_step {β : Type} {o : Option β} {x : β} {k : β → Option α} (h : o = some x) (h2 : k x = r) : optK o k = r := by
  subst h
  exact h2
theorem slc_step {f : Bool} {n : Nat} {cs : List D} {k : Bool → Nat → List D → Option α} (h2 : k f n cs = r) : slcK (.slc f n cs) k = r := h2
end
/-! ### Tables -/
theorem cell_at {l : List Int} {i : Nat} {u : Int} (h : l[i]? = some u) (k : D → Option D) : cellK (ints l) (Int.toNat (i : Int) * 1) k = k (.int .i64 u) := cellK_some (by simp [ints, h]) k
theorem ints_inj : ∀ {a b : List Int}, ints a = ints b → a = b
  | [], [], _ => rfl
  | [], y :: b, h => by cases h
  | x :: a, [], h => by cases h
  | x :: a, y :: b, h => by
    have h : D.int .i64 x :: ints a = D.int .i64 y :: ints b := h
    simp only [List.cons.injEq, D.int.injEq, true_and] at h
    rw [h.1, ints_inj h.2]
theorem ints_set (l : List Int) (i : Nat) (v : Int) : writeAt (ints l) (i * 1) [D.int .i64 v] = ints (l.set i v) := by
  simp [writeAt, ints, List.map_set]
end Go.Pd
end
section
namespace Go.Pd
open Go Go.Proofs Go.RowKit
set_option maxRecDepth 100000
/-! ### Texts as lists of bytes -/
def bs (l : List UInt8) : ByteArray := ByteArray.mk l.toArray
theorem bs_size (l : List UInt8) : (bs l).size = l.length := by simp [bs, ByteArray.size]
theorem bs_at {l : List UInt8} {i : Nat} {b : UInt8} (h : l[i]? = some b) : byteAt (bs l) i = (b.toNat : Int) := by
  obtain ⟨h1, h2⟩ := List.getElem?_eq_some_iff.1 h
  rw [byteAt_get (by rw [bs_size]; exact h1)]
  have : (bs l)[i]'(by rw [bs_size]; exact h1) = l[i] := by
    show (bs l).data[i]'_ = _
    simp [bs]
  rw [this, h2]
theorem bs_app (a b : List UInt8) : bs a ++ bs b = bs (a ++ b) := by
  apply ByteArray.ext
  simp [bs, ByteArray.data_append]
theorem bs_ext (l : List UInt8) (i j : Nat) : ByteArray.extract (bs l) i j = bs ((l.take j).drop i) := by
  apply ByteArray.ext
  simp [bs, ByteArray.data_extract, List.drop_take]
/-! ### The slash -/
def slN : List UInt8 → Nat
  | [] => 0
  | c :: r => if c = 47 then 0 else slN r + 1
theorem u8_eq (c : UInt8) (k : UInt8) : ((c.toNat : Int) == (k.toNat : Int)) = decide (c = k) := by
  rw [Bool.eq_iff_iff]
  simp only [beq_iff_eq, decide_eq_true_eq]
  exact ⟨fun h => UInt8.toNat_inj.1 (by omega), fun h => by rw [h]⟩
theorem go189 {call : CL} : ∀ (r pre : List UInt8) (fuel : Nat), (pre ++ r).length ≤ 100000 → r.length < fuel → F189_26 call LL C1 fuel (bs (pre ++ r)) (pre.length : Int) = some (.int .i64 ((pre.length + slN r : Nat) : Int)) := by
  intro r
  induction r with
  | nil =>
    intro pre fuel hl hf
    obtain ⟨fuel, rfl⟩ : ∃ n, fuel = n + 1 := ⟨fuel - 1, by omega⟩
    rw [F189_26_eq, bs_size, List.append_nil, decide_eq_false (by omega), ifK_false]
    rfl
  | cons c r ih =>
    intro pre fuel hl hf
    obtain ⟨fuel, rfl⟩ : ∃ n, fuel = n + 1 := ⟨fuel - 1, by omega⟩
    have hlen : pre.length < (pre ++ c :: r).length := by simp
    have ih := ih (pre ++ [c]) fuel (by simp at hl ⊢; omega) (by simp at hf; omega)
    rw [List.append_assoc, List.singleton_append] at ih
    rw [F189_26_eq, bs_size, decide_eq_true (show (pre.length : Int) < ((pre ++ c :: r).length : Int) by omega), ifK_true]
    refine chk_step (decide_eq_true ⟨by omega, by rw [Int.toNat_natCast]; exact hlen⟩) ?_
    rw [Int.toNat_natCast, bs_at (b := c) (by simp), show (47 : Int) = ((47 : UInt8).toNat : Int) from rfl, u8_eq, show IntKind.wrap .i64 ((pre.length : Int) + 1) = ((pre ++ [c]).length : Int) from (wrap_in (by omega)).trans (by simp)]
    unfold slN
    by_cases h : c = 47
    · rw [decide_eq_true h, ifK_true, if_pos h]
      rfl
    · rw [decide_eq_false h, ifK_false, if_neg h, ih]
      congr 3
      simp
      omega
theorem ok189 (l : List UInt8) (hl : l.length ≤ 100000) : OK2 189 [.str (bs l)] (.int .i64 (slN l : Int)) :=
  fnT none_ok Tryz.func189 (ord := O0) (N := N189) (by kernel_rfl) ((F189_eq _ _ _ _).trans ((go189 l [] LL (by simpa using hl) (by unfold LL; omega)).trans (by simp)))
/-! ### Digits to a number -/
def IsDg (c : UInt8) : Prop := 48 ≤ c.toNat ∧ c.toNat ≤ 57
def vN : Nat → List UInt8 → Nat
  | a, [] => a
  | a, c :: r => vN (10 * a + (c.toNat - 48)) r
theorem vN_app : ∀ (l : List UInt8) (a : Nat) (r : List UInt8), vN a (l ++ r) = vN (vN a l) r
  | [], _, _ => rfl
  | c :: l, a, r => vN_app l (10 * a + (c.toNat - 48)) r
theorem vN_lt : ∀ (l : List UInt8) (a k : Nat), (∀ c ∈ l, IsDg c) → a < 10 ^ k → vN a l < 10 ^ (k + l.length)
  | [], _, _, _, h => h
  | c :: l, a, k, hd, h => by
    have hc := hd c (List.mem_cons_self ..)
    have := vN_lt l (10 * a + (c.toNat - 48)) (k + 1) (fun x hx => hd x (List.mem_cons_of_mem _ hx)) (by
      have := hc.2
      rw [Nat.pow_succ]
      omega)
    rw [List.length_cons, show k + (l.length + 1) = k + 1 + l.length by omega]
    exact this
theorem go190 {call : CL} : ∀ (r pre : List UInt8) (fuel a : Nat), (∀ c ∈ r, IsDg c) → (pre ++ r).length ≤ 18 → a < 10 ^ pre.length → r.length < fuel → F190_58 call LL C1 fuel (bs (pre ++ r)) (a : Int) (pre.length : Int) = some (.int .i64 ((vN a r : Nat) : Int)) := by
  intro r
  induction r with
  | nil =>
    intro pre fuel a hd hl ha hf
    obtain ⟨fuel, rfl⟩ : ∃ n, fuel = n + 1 := ⟨fuel - 1, by omega⟩
    rw [F190_58_eq, bs_size, List.append_nil, decide_eq_false (by omega), ifK_false]
    rfl
  | cons c r ih =>
    intro pre fuel a hd hl ha hf
    obtain ⟨fuel, rfl⟩ : ∃ n, fuel = n + 1 := ⟨fuel - 1, by omega⟩
    have hlen : pre.length < (pre ++ c :: r).length := by simp
    have hc := hd c (List.mem_cons_self ..)
    obtain ⟨c1, c2⟩ := hc
    have h18 : pre.length ≤ 17 := by simp at hl; omega
    have ha17 : a < 10 ^ 17 := Nat.lt_of_lt_of_le ha (Nat.pow_le_pow_right (by omega) h18)
    have ih := ih (pre ++ [c]) fuel (10 * a + (c.toNat - 48)) (fun x hx => hd x (List.mem_cons_of_mem _ hx)) (by simp at hl ⊢; omega) (by
      rw [List.length_append, List.length_singleton, Nat.pow_succ]
      omega) (by simp at hf; omega)
    rw [List.append_assoc, List.singleton_append] at ih
    rw [F190_58_eq, bs_size, decide_eq_true (show (pre.length : Int) < ((pre ++ c :: r).length : Int) by omega), ifK_true]
    refine chk_step (decide_eq_true ⟨by omega, by rw [Int.toNat_natCast]; exact hlen⟩) ?_
    rw [Int.toNat_natCast, bs_at (b := c) (by simp), show IntKind.wrap .i64 ((pre.length : Int) + 1) = ((pre ++ [c]).length : Int) from (wrap_in (by omega)).trans (by simp),
      wrap_in (y := 10 * (a : Int)) (by omega), wrap_in (y := (c.toNat : Int)) (by omega), wrap_in (y := 10 * (a : Int) + (c.toNat : Int)) (by omega), wrap_in (y := 10 * (a : Int) + (c.toNat : Int) - 48) (by omega),
      show 10 * (a : Int) + (c.toNat : Int) - 48 = ((10 * a + (c.toNat - 48) : Nat) : Int) by omega]
    exact ih
theorem ok190 (l : List UInt8) (hd : ∀ c ∈ l, IsDg c) (hl : l.length ≤ 18) : OK2 190 [.str (bs l)] (.int .i64 ((vN 0 l : Nat) : Int)) :=
  fnT none_ok Tryz.func190 (ord := O0) (N := N190) (by kernel_rfl) ((F190_eq _ _ _ _).trans (go190 l [] LL 0 hd (by simpa using hl) (by simp) (by unfold LL; omega)))
/-! ### A number's digits -/
def dgt (d : Nat) : UInt8 := UInt8.ofNat (48 + d)
theorem dgt_nat {d : Nat} (h : d < 10) : (dgt d).toNat = 48 + d := by
  unfold dgt
  rw [UInt8.toNat_ofNat']
  omega
theorem dgt_dg {d : Nat} (h : d < 10) : IsDg (dgt d) := by
  unfold IsDg
  rw [dgt_nat h]
  omega
def dgs (n : Nat) : List UInt8 := if n = 0 then [] else dgs (n / 10) ++ [dgt (n % 10)]
termination_by n
decreasing_by omega
theorem dgs_zero : dgs 0 = [] := by rw [dgs]; rfl
theorem dgs_pos {n : Nat} (h : n ≠ 0) : dgs n = dgs (n / 10) ++ [dgt (n % 10)] := by rw [dgs, if_neg h]
theorem dgs_dg (n : Nat) : ∀ c ∈ dgs n, IsDg c := by
  induction n using Nat.strongRecOn with
  | ind n ih =>
    by_cases h : n = 0
    · subst h
      rw [dgs_zero]
      exact fun c hc => by cases hc
    · rw [dgs_pos h]
      intro c hc
      rcases List.mem_append.1 hc with hc | hc
      · exact ih (n / 10) (by omega) c hc
      · rw [List.mem_singleton] at hc
        subst hc
        exact dgt_dg (by omega)
theorem vN_dgs (n : Nat) : vN 0 (dgs n) = n := by
  induction n using Nat.strongRecOn with
  | ind n ih =>
    by_cases h : n = 0
    · subst h
      rw [dgs_zero]
      rfl
    · rw [dgs_pos h, vN_app, ih (n / 10) (by omega)]
      show 10 * (n / 10) + ((dgt (n % 10)).toNat - 48) = n
      rw [dgt_nat (by omega)]
      omega
theorem dgs_len : ∀ (k n : Nat), n < 10 ^ k → (dgs n).length ≤ k
  | 0, n, h => by
    have : n = 0 := by simpa using h
    subst this
    rw [dgs_zero]
    exact Nat.le_refl _
  | k + 1, n, h => by
    by_cases h0 : n = 0
    · subst h0
      rw [dgs_zero]
      simp
    · rw [dgs_pos h0, List.length_append, List.length_singleton]
      have := dgs_len k (n / 10) (by rw [Nat.pow_succ] at h; omega)
      omega
def padL (least : Nat) (l : List UInt8) : List UInt8 := List.replicate (least - l.length) 48 ++ l
theorem dig_at : ∀ {d : Nat}, d < 10 → ByteArray.extract (ByteArray.mk #[48, 49, 50, 51, 52, 53, 54, 55, 56, 57]) d (d + 1) = bs [dgt d]
  | 0, _ => by decide
  | 1, _ => by decide
  | 2, _ => by decide
  | 3, _ => by decide
  | 4, _ => by decide
  | 5, _ => by decide
  | 6, _ => by decide
  | 7, _ => by decide
  | 8, _ => by decide
  | 9, _ => by decide
  | _ + 10, h => by omega
theorem go171 {call : CL} {least : Nat} (hL : least ≤ 100) : ∀ (k n fuel : Nat) (s : List UInt8), n < 10 ^ k → k ≤ 18 → s.length ≤ 200 - k → k + (least - s.length) < fuel → F171_28 call LL C1 fuel (least : Int) (n : Int) (bs s) = some (.str (bs (padL least (dgs n ++ s)))) := by
  have dig : ∀ n : Nat, n ≤ 1000000000000000000 → decide ((0 : Int) ≤ Int.tmod (n : Int) 10 ∧ Int.tmod (n : Int) 10 ≤ IntKind.wrap IntKind.i64 (Int.tmod (n : Int) 10 + 1) ∧ IntKind.wrap IntKind.i64 (Int.tmod (n : Int) 10 + 1) ≤ (10 : Int)) = true ∧
      ByteArray.extract (ByteArray.mk #[48, 49, 50, 51, 52, 53, 54, 55, 56, 57]) (Int.toNat (Int.tmod (n : Int) 10)) (Int.toNat (IntKind.wrap IntKind.i64 (Int.tmod (n : Int) 10 + 1))) = bs [dgt (n % 10)] ∧ IntKind.wrap IntKind.i64 (Int.tdiv (n : Int) 10) = ((n / 10 : Nat) : Int) := fun n hn => by
    have e1 : Int.tmod (n : Int) 10 = ((n % 10 : Nat) : Int) := rfl
    have e2 : IntKind.wrap IntKind.i64 (((n % 10 : Nat) : Int) + 1) = ((n % 10 + 1 : Nat) : Int) := (wrap_in (by omega)).trans (by omega)
    rw [e1, e2]
    refine ⟨decide_eq_true ⟨by omega, by omega, by omega⟩, ?_, ?_⟩
    · rw [Int.toNat_natCast, Int.toNat_natCast]
      exact dig_at (by omega)
    · rw [show Int.tdiv (n : Int) 10 = ((n / 10 : Nat) : Int) from rfl]
      exact wrap_in (by omega)
  have zero : ∀ (m fuel : Nat) (s : List UInt8), least - s.length = m → m < fuel → F171_28 call LL C1 fuel (least : Int) ((0 : Nat) : Int) (bs s) = some (.str (bs (List.replicate m 48 ++ s))) := by
    intro m
    induction m with
    | zero =>
      intro fuel s hm hf
      obtain ⟨fuel, rfl⟩ : ∃ n, fuel = n + 1 := ⟨fuel - 1, by omega⟩
      rw [F171_28_eq, decide_eq_false (show ¬ (((0 : Nat) : Int) > 0) by omega), ifK_false, bs_size, decide_eq_false (show ¬ ((s.length : Int) < (least : Int)) by omega), ifK_false]
      rfl
    | succ m ih =>
      intro fuel s hm hf
      obtain ⟨fuel, rfl⟩ : ∃ n, fuel = n + 1 := ⟨fuel - 1, by omega⟩
      obtain ⟨d1, d2, d3⟩ := dig 0 (by omega)
      have ih := ih fuel (48 :: s) (by simp; omega) (by omega)
      rw [F171_28_eq, decide_eq_false (show ¬ (((0 : Nat) : Int) > 0) by omega), ifK_false, bs_size, decide_eq_true (show (s.length : Int) < (least : Int) by omega), ifK_true, d1, chkK_true, d2, d3, bs_size, bs_app]
      refine chk_step ?_ ?_
      · rw [decide_eq_false]
        · rfl
        · simp only [List.length_singleton]; omega
      · refine ih.trans ?_
        rw [List.replicate_succ', List.append_assoc]
        rfl
  intro k
  induction k with
  | zero =>
    intro n fuel s hn hk hs hf
    have : n = 0 := by simpa using hn
    subst this
    rw [zero _ fuel s rfl (by omega), dgs_zero]
    rfl
  | succ k ih =>
    intro n fuel s hn hk hs hf
    by_cases h0 : n = 0
    · subst h0
      rw [zero _ fuel s rfl (by omega), dgs_zero]
      rfl
    · obtain ⟨fuel, rfl⟩ : ∃ n, fuel = n + 1 := ⟨fuel - 1, by omega⟩
      have hn18 : n < 10 ^ 18 := Nat.lt_of_lt_of_le hn (Nat.pow_le_pow_right (by omega) hk)
      obtain ⟨d1, d2, d3⟩ := dig n (by omega)
      have ih := ih (n / 10) fuel (dgt (n % 10) :: s) (by rw [Nat.pow_succ] at hn; omega) (by omega) (by simp; omega) (by simp; omega)
      rw [F171_28_eq, decide_eq_true (show (n : Int) > 0 by omega), ifK_true, d1, chkK_true, d2, d3, bs_size, bs_size, bs_app]
      refine chk_step ?_ ?_
      · rw [decide_eq_false]
        · rfl
        · simp only [List.length_singleton]; omega
      · refine ih.trans ?_
        rw [dgs_pos h0, List.append_assoc]
        rfl
theorem ok171 (n least : Nat) (hn : n < 1000000000000000000) (hL : least ≤ 100) : OK2 171 [.int .i64 (n : Int), .int .i64 (least : Int)] (.str (bs (padL least (dgs n)))) :=
  fnT none_ok Tryz.func171 (ord := O0) (N := N171) (by kernel_rfl) ((F171_eq _ _ _ _ _).trans ((go171 hL 18 n LL [] (by omega) (by omega) (by simp) (by unfold LL; simp; omega)).trans (by rw [List.append_nil])))
/-! ### The greatest common divisor -/
theorem go170 {call : CL} : ∀ (b a fuel : Nat), b < fuel → F170_12 call LL C1 fuel (a : Int) (b : Int) = some (.int .i64 ((Nat.gcd a b : Nat) : Int)) := by
  intro b
  induction b using Nat.strongRecOn with
  | ind b ih =>
    intro a fuel hf
    obtain ⟨fuel, rfl⟩ : ∃ n, fuel = n + 1 := ⟨fuel - 1, by omega⟩
    rw [F170_12_eq]
    by_cases h0 : b = 0
    · subst h0
      rw [decide_eq_false (show ¬ (((0 : Nat) : Int) > 0) by omega), ifK_false, Nat.gcd_zero_right]
    · rw [decide_eq_true (show (b : Int) > 0 by omega), ifK_true, decide_eq_false (show ¬ ((b : Int) = 0) by omega)]
      have hm : a % b < b := Nat.mod_lt _ (by omega)
      refine Eq.trans (ih (a % b) hm b fuel (by omega)) ?_
      rw [Nat.gcd_comm a b, Nat.gcd_rec b a, Nat.gcd_comm]
theorem ok170 (a b : Nat) (hb : b < 4611686018427387904) : OK2 170 [.int .i64 (a : Int), .int .i64 (b : Int)] (.int .i64 ((Nat.gcd a b : Nat) : Int)) :=
  fnT none_ok Tryz.func170 (ord := O0) (N := N170) (by kernel_rfl) ((F170_eq _ _ _ _ _).trans (go170 b a LL (by unfold LL; omega)))
end Go.Pd
end
section
namespace Go.Pd
open Go Go.Proofs Go.RowKit
set_option maxRecDepth 100000
theorem bs_inj {a b : List UInt8} (h : bs a = bs b) : a = b := by
  have := congrArg (fun x : ByteArray => x.data.toList) h
  simpa [bs] using this
def num1 (n : Nat) : List UInt8 := padL 1 (dgs n)
theorem num1_zero : num1 0 = [48] := by unfold num1 padL; rw [dgs_zero]; rfl
theorem num1_pos {n : Nat} (h : n ≠ 0) : num1 n = dgs n := by
  unfold num1 padL
  rw [show 1 - (dgs n).length = 0 by rw [dgs_pos h]; simp]
  rfl
theorem num1_dg (n : Nat) : ∀ c ∈ num1 n, IsDg c := by
  by_cases h : n = 0
  · subst h
    rw [num1_zero]
    intro c hc
    rw [List.mem_singleton] at hc
    subst hc
    exact ⟨by decide, by decide⟩
  · rw [num1_pos h]
    exact dgs_dg n
theorem num1_val (n : Nat) : vN 0 (num1 n) = n := by
  by_cases h : n = 0
  · subst h
    rw [num1_zero]
    rfl
  · rw [num1_pos h]
    exact vN_dgs n
theorem num1_len {n k : Nat} (h : n < 10 ^ k) (hk : 1 ≤ k) : 1 ≤ (num1 n).length ∧ (num1 n).length ≤ k := by
  by_cases h0 : n = 0
  · subst h0
    rw [num1_zero]
    exact ⟨Nat.le_refl _, hk⟩
  · rw [num1_pos h0]
    refine ⟨by rw [dgs_pos h0]; simp, dgs_len k n h⟩
def tailL (d : Nat) : List UInt8 := if 1 < d then 47 :: num1 d else []
def sgnL (n : Int) : List UInt8 := if n < 0 then [45] else []
def ratL (n : Int) (d : Nat) : List UInt8 := sgnL n ++ (num1 n.natAbs ++ tailL d)
theorem slN_dg : ∀ (l r : List UInt8), (∀ c ∈ l, IsDg c) → slN (l ++ r) = l.length + slN r
  | [], r, _ => by simp
  | c :: l, r, h => by
    have hc := h c (List.mem_cons_self ..)
    rw [List.cons_append]
    unfold slN
    rw [if_neg (fun e => by rw [e] at hc; exact absurd hc.1 (by decide)), slN_dg l r fun x hx => h x (List.mem_cons_of_mem _ hx), List.length_cons]
    cases r <;> simp [slN] <;> omega
theorem slN_body (n d : Nat) : slN (num1 n ++ tailL d) = (num1 n).length := by
  rw [slN_dg _ _ (num1_dg n)]
  unfold tailL
  split
  · simp [slN]
  · simp [slN]
def fam189 : Fam := ⟨189, {l : List UInt8 // l.length ≤ 100000}, fun l => [.str (bs l.1)], fun l => .int .i64 (slN l.1 : Int)⟩
theorem fam189_good : fam189.Good := ⟨fun l => ok189 l.1 l.2, fun (x y : {l : List UInt8 // l.length ≤ 100000}) e => by
  have e : [D.str (bs x.1)] = [D.str (bs y.1)] := e
  simp only [List.cons.injEq, D.str.injEq, and_true] at e
  show D.int .i64 (slN x.1 : Int) = .int .i64 (slN y.1 : Int)
  rw [bs_inj e], fun _ => rfl⟩
def fam190 : Fam := ⟨190, {l : List UInt8 // (∀ c ∈ l, IsDg c) ∧ l.length ≤ 18}, fun l => [.str (bs l.1)], fun l => .int .i64 ((vN 0 l.1 : Nat) : Int)⟩
theorem fam190_good : fam190.Good := ⟨fun l => ok190 l.1 l.2.1 l.2.2, fun (x y : {l : List UInt8 // (∀ c ∈ l, IsDg c) ∧ l.length ≤ 18}) e => by
  have e : [D.str (bs x.1)] = [D.str (bs y.1)] := e
  simp only [List.cons.injEq, D.str.injEq, and_true] at e
  show D.int .i64 ((vN 0 x.1 : Nat) : Int) = .int .i64 ((vN 0 y.1 : Nat) : Int)
  rw [bs_inj e], fun _ => rfl⟩
def fam171 : Fam := ⟨171, {n : Nat // n < 1000000000000000000}, fun n => [.int .i64 (n.1 : Int), .int .i64 1], fun n => .str (bs (num1 n.1))⟩
theorem fam171_good : fam171.Good := ⟨fun n => ok171 n.1 1 n.2 (by omega), fun (x y : {n : Nat // n < 1000000000000000000}) e => by
  have e : [D.int .i64 (x.1 : Int), .int .i64 1] = [D.int .i64 (y.1 : Int), .int .i64 1] := e
  simp only [List.cons.injEq, D.int.injEq, and_true, true_and] at e
  show D.str (bs (num1 x.1)) = .str (bs (num1 y.1))
  rw [show x.1 = y.1 by omega], fun _ => rfl⟩
def fam170 : Fam := ⟨170, {x : Nat × Nat // x.2 < 4611686018427387904}, fun x => [.int .i64 (x.1.1 : Int), .int .i64 (x.1.2 : Int)], fun x => .int .i64 ((Nat.gcd x.1.1 x.1.2 : Nat) : Int)⟩
theorem fam170_good : fam170.Good := ⟨fun x => ok170 x.1.1 x.1.2 x.2, fun (x y : {x : Nat × Nat // x.2 < 4611686018427387904}) e => by
  have e : [D.int .i64 (x.1.1 : Int), .int .i64 (x.1.2 : Int)] = [D.int .i64 (y.1.1 : Int), .int .i64 (y.1.2 : Int)] := e
  simp only [List.cons.injEq, D.int.injEq, and_true, true_and] at e
  show D.int .i64 ((Nat.gcd x.1.1 x.1.2 : Nat) : Int) = .int .i64 ((Nat.gcd y.1.1 y.1.2 : Nat) : Int)
  rw [show x.1.1 = y.1.1 by omega, show x.1.2 = y.1.2 by omega], fun _ => rfl⟩
/-! ### quick -/
theorem mid165 {B : FuncId → List D → Option D} (h4 : ∀ l : List UInt8, l.length ≤ 100000 → callOf B 189 [.str (bs l)] = some (.int .i64 (slN l : Int))) (h5 : ∀ l : List UInt8, (∀ c ∈ l, IsDg c) → l.length ≤ 18 → callOf B 190 [.str (bs l)] = some (.int .i64 ((vN 0 l : Nat) : Int)))
    {N d : Nat} (hN : N < 1000000000) (h1 : 1 ≤ d) (hd : d < 1000000000) (neg : Bool) : F165_63 (callOf B) LL C1 neg (bs (num1 N ++ tailL d)) = some (.tup [.int .i64 (ifK neg (-(N : Int)) (N : Int)), .int .i64 (d : Int), .bool true]) := by
  obtain ⟨n1, n2⟩ := num1_len (n := N) (k := 9) (by omega) (by omega)
  obtain ⟨m1, m2⟩ := num1_len (n := d) (k := 9) (by omega) (by omega)
  have hlen : (num1 N ++ tailL d).length ≤ (num1 N).length + 10 := by
    rw [List.length_append]
    unfold tailL
    split
    · simp; omega
    · simp
  have hw : ∀ N : Nat, N < 1000000000 → IntKind.wrap IntKind.i64 (0 - (N : Int)) = -(N : Int) := fun N h => (wrap_in (by omega)).trans (by omega)
  rw [F165_63_eq (C := C1) (hC := fun _ => rfl)]
  refine opt_step (h4 _ (by omega)) (int_step ?_)
  rw [slN_body, bs_size, decide_eq_false (show ¬ (((num1 N).length : Int) > 9) by omega), ifK_false, wrap_in (by omega), decide_eq_false (show ¬ (((num1 N ++ tailL d).length : Int) - ((num1 N).length : Int) > 10) by omega), ifK_false,
    F165_255_eq (C := C1) (hC := fun _ => rfl)]
  refine chk_step (decide_eq_true ⟨by omega, by omega, by rw [bs_size, List.length_append]; omega⟩) ?_
  have e1 : ByteArray.extract (bs (num1 N ++ tailL d)) 0 (Int.toNat ((num1 N).length : Int)) = bs (num1 N) := by
    rw [bs_ext, Int.toNat_natCast, List.take_left, List.drop_zero]
  rw [e1]
  refine opt_step (h5 _ (num1_dg N) (by omega)) (int_step ?_)
  rw [num1_val, bs_size]
  by_cases hd1 : 1 < d
  · have et : tailL d = 47 :: num1 d := by unfold tailL; rw [if_pos hd1]
    have el : (num1 N ++ tailL d).length = (num1 N).length + 1 + (num1 d).length := by rw [et]; simp; omega
    have e2 : IntKind.wrap IntKind.i64 (((num1 N).length : Int) + 1) = (((num1 N).length + 1 : Nat) : Int) := (wrap_in (by omega)).trans (by omega)
    rw [decide_eq_true (show ((num1 N).length : Int) < ((num1 N ++ tailL d).length : Int) by omega), ifK_true, e2]
    refine chk_step (decide_eq_true ⟨by omega, by omega, by omega⟩) ?_
    have e3 : ByteArray.extract (bs (num1 N ++ tailL d)) (Int.toNat (((num1 N).length + 1 : Nat) : Int)) (Int.toNat ((num1 N ++ tailL d).length : Int)) = bs (num1 d) := by
      rw [bs_ext, Int.toNat_natCast, Int.toNat_natCast, List.take_length, et, show num1 N ++ 47 :: num1 d = (num1 N ++ [47]) ++ num1 d by simp, show (num1 N).length + 1 = (num1 N ++ [47]).length by simp, List.drop_left]
    rw [e3]
    refine opt_step (h5 _ (num1_dg d) (by omega)) (int_step ?_)
    rw [num1_val, hw N hN]
    cases neg <;> rfl
  · have et : tailL d = [] := by unfold tailL; rw [if_neg hd1]
    have : d = 1 := by omega
    subst this
    rw [et, List.append_nil, decide_eq_false (by omega), ifK_false, hw N hN]
    cases neg <;> rfl
theorem ok165 (n : Int) (d : Nat) (hn : n.natAbs < 1000000000) (h1 : 1 ≤ d) (hd : d < 1000000000) : OK2 165 [.str (bs (ratL n d))] (.tup [.int .i64 n, .int .i64 (d : Int), .bool true]) := by
  obtain ⟨B, hB, e4, e5, _⟩ := exF [fam189, fam190] ⟨fam189_good, fam190_good, trivial⟩ rfl
  have h4 : ∀ l : List UInt8, l.length ≤ 100000 → callOf B 189 [.str (bs l)] = some (.int .i64 (slN l : Int)) := fun l hl => e4 ⟨l, hl⟩
  have h5 : ∀ l : List UInt8, (∀ c ∈ l, IsDg c) → l.length ≤ 18 → callOf B 190 [.str (bs l)] = some (.int .i64 ((vN 0 l : Nat) : Int)) := fun l h hl => e5 ⟨l, h, hl⟩
  refine fnT hB Tryz.func165 (ord := O0) (N := N165) (by kernel_rfl) ((F165_eq _ _ _ _).trans ?_)
  obtain ⟨n1, n2⟩ := num1_len (n := n.natAbs) (k := 9) (by omega) (by omega)
  obtain ⟨m1, m2⟩ := num1_len (n := d) (k := 9) (by omega) (by omega)
  have ht : (tailL d).length ≤ 10 := by unfold tailL; split <;> simp; omega
  have hs : (sgnL n).length ≤ 1 := by unfold sgnL; split <;> simp
  have hl : (ratL n d).length = (sgnL n).length + ((num1 n.natAbs).length + (tailL d).length) := by unfold ratL; simp
  rw [bs_size, decide_eq_false (show ¬ (((ratL n d).length : Int) > 20) by omega), ifK_false, decide_eq_true (show ((ratL n d).length : Int) > 0 by omega), ifK_true]
  refine chk_step (decide_eq_true ⟨by omega, by omega⟩) ?_
  by_cases h0 : n < 0
  · have es : ratL n d = 45 :: (num1 n.natAbs ++ tailL d) := by unfold ratL sgnL; rw [if_pos h0]; rfl
    rw [es, bs_at (b := 45) rfl, show (((45 : UInt8).toNat : Int) == 45) = true from rfl, F165_31_eq (C := C1) (hC := fun _ => rfl), ifK_true]
    refine chk_step (decide_eq_true ⟨by omega, by rw [bs_size]; simp; omega, by omega⟩) ?_
    rw [bs_ext, bs_size, Int.toNat_natCast, List.take_length, List.drop_one, List.tail_cons, mid165 h4 h5 hn h1 hd true, ifK_true, show -((n.natAbs : Nat) : Int) = n by omega]
  · have es : ratL n d = num1 n.natAbs ++ tailL d := by unfold ratL sgnL; rw [if_neg h0]; rfl
    have hb : (byteAt (bs (ratL n d)) 0 == 45) = false := by
      rw [es]
      cases hq : num1 n.natAbs with
      | nil => rw [hq] at n1; simp at n1
      | cons c r =>
        have hc := num1_dg n.natAbs c (by rw [hq]; exact List.mem_cons_self ..)
        rw [bs_at (b := c) rfl]
        refine beq_eq_false_iff_ne.2 ?_
        have := hc.1
        omega
    rw [hb, F165_31_eq (C := C1) (hC := fun _ => rfl), ifK_false, es, mid165 h4 h5 hn h1 hd false, ifK_false, show ((n.natAbs : Nat) : Int) = n by omega]
end Go.Pd
end
section
namespace Go.Pd
open Go Go.Proofs Go.RowKit
set_option maxRecDepth 100000
def ofL (n : Int) (d : Nat) : List UInt8 := ratL (Int.tdiv n ((Nat.gcd n.natAbs d : Nat) : Int)) (d / Nat.gcd n.natAbs d)
theorem abs_if {n : Int} (h : n.natAbs < 1000000000000000000) : (if IntKind.wrap IntKind.i64 (0 - n) > n then IntKind.wrap IntKind.i64 (0 - n) else n) = (n.natAbs : Int) := by
  rw [wrap_in (by omega)]
  split <;> omega
theorem tail_big {d : Nat} (h : 1 < d) : tailL d = 47 :: num1 d := by unfold tailL; rw [if_pos h]
theorem tail_one {d : Nat} (h : ¬ 1 < d) : tailL d = [] := by unfold tailL; rw [if_neg h]
theorem num1_small {n : Nat} (h : n < 1000000000000000000) : (num1 n).length ≤ 18 := (num1_len (n := n) (k := 18) (by omega) (by omega)).2
theorem go141 {B : FuncId → List D → Option D} (h9 : ∀ a b : Nat, b < 4611686018427387904 → callOf B 170 [.int .i64 (a : Int), .int .i64 (b : Int)] = some (.int .i64 ((Nat.gcd a b : Nat) : Int))) (h0 : ∀ n : Nat, n < 1000000000000000000 → callOf B 171 [.int .i64 (n : Int), .int .i64 1] = some (.str (bs (num1 n))))
    {n : Int} {d : Nat} (hn : n.natAbs < 1000000000000000000) (h1 : 0 < d) (hd : d < 1000000000000000000) : F141_15 (callOf B) LL C1 n (d : Int) = some (.str (bs (ofL n d))) := by
  have hg : 0 < Nat.gcd n.natAbs d := Nat.gcd_pos_of_pos_right _ h1
  have hq : (Int.tdiv n ((Nat.gcd n.natAbs d : Nat) : Int)).natAbs ≤ n.natAbs := by
    rw [Int.natAbs_tdiv]
    exact Nat.div_le_self _ _
  have he : d / Nat.gcd n.natAbs d ≤ d := Nat.div_le_self _ _
  rw [F141_15_eq (C := C1) (hC := fun _ => rfl), abs_if hn]
  unfold ofL
  refine opt_step (h9 _ _ (by omega)) (int_step ?_)
  generalize Nat.gcd n.natAbs d = g at *
  have ed : Int.tdiv (d : Int) (g : Int) = ((d / g : Nat) : Int) := rfl
  rw [ed]
  generalize Int.tdiv n (g : Int) = q at *
  generalize d / g = e at *
  rw [decide_eq_false (show ¬ ((g : Int) = 0) by omega), Bool.not_false, chkK_true, chkK_true, wrap_in (y := q) (by omega), wrap_in (y := (e : Int)) (by omega), abs_if (n := q) (by omega)]
  have s1 := num1_small (n := q.natAbs) (by omega)
  have s2 := num1_small (n := e) (by omega)
  by_cases hneg : q < 0
  · have er : ratL q e = 45 :: (num1 q.natAbs ++ tailL e) := by unfold ratL sgnL; rw [if_pos hneg]; rfl
    rw [decide_eq_true hneg, ifK_true, er]
    refine opt_step (h0 q.natAbs (by omega)) ?_
    rw [strK_str, bs_size]
    refine chk_step ?_ ?_
    · rw [decide_eq_false]
      · rfl
      · omega
    rw [show ByteArray.mk #[45] = bs [45] from rfl, show ByteArray.mk #[47] = bs [47] from rfl, bs_app, bs_app, bs_size]
    by_cases h2 : 1 < e
    · rw [decide_eq_true (show (e : Int) > 1 by omega), ifK_true, tail_big h2]
      refine chk_step ?_ ?_
      · rw [decide_eq_false]
        · rfl
        · simp only [List.length_append, List.length_singleton]; omega
      refine opt_step (h0 e (by omega)) ?_
      rw [strK_str, bs_size, bs_size, bs_app]
      refine chk_step ?_ ?_
      · rw [decide_eq_false]
        · rfl
        · simp only [List.length_append, List.length_singleton]; omega
      simp only [List.append_assoc, List.cons_append, List.nil_append]
    · rw [decide_eq_false (show ¬ ((e : Int) > 1) by omega), ifK_false, tail_one h2, List.append_nil]
      rfl
  · have er : ratL q e = num1 q.natAbs ++ tailL e := by unfold ratL sgnL; rw [if_neg hneg]; rfl
    rw [decide_eq_false hneg, ifK_false, er]
    refine opt_step (h0 q.natAbs (by omega)) ?_
    rw [strK_str, bs_size]
    refine chk_step ?_ ?_
    · rw [decide_eq_false]
      · rfl
      · omega
    rw [show ByteArray.mk #[] = bs [] from rfl, show ByteArray.mk #[47] = bs [47] from rfl, bs_app, bs_app, bs_size, List.nil_append]
    by_cases h2 : 1 < e
    · rw [decide_eq_true (show (e : Int) > 1 by omega), ifK_true, tail_big h2]
      refine chk_step ?_ ?_
      · rw [decide_eq_false]
        · rfl
        · omega
      refine opt_step (h0 e (by omega)) ?_
      rw [strK_str, bs_size, bs_size, bs_app]
      refine chk_step ?_ ?_
      · rw [decide_eq_false]
        · rfl
        · simp only [List.length_append, List.length_singleton]; omega
      simp only [List.append_assoc, List.singleton_append]
    · rw [decide_eq_false (show ¬ ((e : Int) > 1) by omega), ifK_false, tail_one h2, List.append_nil]
theorem ok141 (n : Int) (d : Nat) (hn : n.natAbs < 1000000000000000000) (h1 : 0 < d) (hd : d < 1000000000000000000) : OK2 141 [.int .i64 n, .int .i64 (d : Int)] (.str (bs (ofL n d))) := by
  obtain ⟨B, hB, e9, e0, _⟩ := exF [fam170, fam171] ⟨fam170_good, fam171_good, trivial⟩ rfl
  refine fnT hB Tryz.func141 (ord := O0) (N := N141) (by kernel_rfl) ((F141_eq _ _ _ _ _).trans ?_)
  have key := go141 (B := B) (fun a b hb => e9 ⟨(a, b), hb⟩) (fun m hm => e0 ⟨m, hm⟩) hn h1 hd
  rw [decide_eq_false (show ¬ (n < -4000000000000000000) by omega), ifK_false, decide_eq_false (show ¬ (n > 4000000000000000000) by omega), ifK_false, decide_eq_false (show ¬ ((d : Int) < -4000000000000000000) by omega), ifK_false,
    decide_eq_false (show ¬ ((d : Int) > 4000000000000000000) by omega), F141_13_eq (C := C1) (hC := fun _ => rfl), ifK_false, F141_7_eq (C := C1) (hC := fun _ => rfl), decide_eq_false (show ¬ ((d : Int) < 0) by omega), ifK_false]
  exact key
end Go.Pd
end
section
namespace Go.Pd
open Go Go.Proofs Go.RowKit
set_option maxRecDepth 100000
/-! ### A text tells its fraction -/
def decB (b : List UInt8) : Nat × Nat := (vN 0 (b.take (slN b)), if slN b < b.length then vN 0 (b.drop (slN b + 1)) else 1)
def decR (l : List UInt8) : Int × Nat := if l.head? = some 45 then (-((decB l.tail).1 : Int), (decB l.tail).2) else (((decB l).1 : Int), (decB l).2)
theorem decB_body {N d : Nat} (h1 : 1 ≤ d) : decB (num1 N ++ tailL d) = (N, d) := by
  unfold decB
  rw [slN_body, List.take_left, num1_val]
  by_cases h : 1 < d
  · rw [tail_big h, if_pos (by simp), show num1 N ++ 47 :: num1 d = (num1 N ++ [47]) ++ num1 d by simp, show (num1 N).length + 1 = (num1 N ++ [47]).length by simp, List.drop_left, num1_val]
  · rw [tail_one h, if_neg (by simp)]
    have : d = 1 := by omega
    rw [this]
theorem num1_head (N : Nat) (r : List UInt8) : ∃ c t, num1 N ++ r = c :: t ∧ IsDg c := by
  cases hq : num1 N with
  | nil =>
    have := (num1_len (n := N) (k := N + 1) (Nat.lt_of_lt_of_le (Nat.lt_pow_self (by omega)) (Nat.pow_le_pow_right (by omega) (Nat.le_succ N))) (by omega)).1
    rw [hq] at this
    simp at this
  | cons c t => exact ⟨c, t ++ r, rfl, num1_dg N c (by rw [hq]; exact List.mem_cons_self ..)⟩
theorem decR_rat (n : Int) {d : Nat} (h1 : 1 ≤ d) : decR (ratL n d) = (n, d) := by
  unfold decR
  by_cases h : n < 0
  · have e : ratL n d = 45 :: (num1 n.natAbs ++ tailL d) := by unfold ratL sgnL; rw [if_pos h]; rfl
    rw [e, List.head?_cons, if_pos rfl, List.tail_cons, decB_body h1]
    show (-((n.natAbs : Nat) : Int), d) = (n, d)
    rw [show -((n.natAbs : Nat) : Int) = n by omega]
  · have e : ratL n d = num1 n.natAbs ++ tailL d := by unfold ratL sgnL; rw [if_neg h]; rfl
    obtain ⟨c, t, h2, h3⟩ := num1_head n.natAbs (tailL d)
    rw [e, if_neg, decB_body h1]
    · show (((n.natAbs : Nat) : Int), d) = (n, d)
      rw [show ((n.natAbs : Nat) : Int) = n by omega]
    · rw [h2]
      intro hh
      cases hh
      exact absurd h3.1 (by decide)
theorem rat_inj {n m : Int} {d e : Nat} (h1 : 1 ≤ d) (h2 : 1 ≤ e) (h : ratL n d = ratL m e) : n = m ∧ d = e := by
  have := decR_rat n h1
  rw [h, decR_rat m h2] at this
  simp only [Prod.mk.injEq] at this
  exact ⟨this.1.symm, this.2.symm⟩
structure Sm (x : Int × Nat) : Prop where
  n : x.1.natAbs < 1000000000
  l : 1 ≤ x.2
  d : x.2 < 1000000000
def ratB (x : Int × Nat) : ByteArray := bs (ratL x.1 x.2)
def fam165 : Fam := ⟨165, {x : Int × Nat // Sm x}, fun x => [.str (ratB x.1)], fun x => .tup [.int .i64 x.1.1, .int .i64 (x.1.2 : Int), .bool true]⟩
theorem fam165_good : fam165.Good := ⟨fun x => ok165 x.1.1 x.1.2 x.2.n x.2.l x.2.d, fun (x y : {x : Int × Nat // Sm x}) e => by
  have e : [D.str (ratB x.1)] = [D.str (ratB y.1)] := e
  simp only [List.cons.injEq, D.str.injEq, and_true] at e
  obtain ⟨e1, e2⟩ := rat_inj x.2.l y.2.l (bs_inj e)
  show D.tup [.int .i64 x.1.1, .int .i64 (x.1.2 : Int), .bool true] = .tup [.int .i64 y.1.1, .int .i64 (y.1.2 : Int), .bool true]
  rw [e1, e2], fun _ => rfl⟩
theorem rd_quick {γ : Type} (n d : Int) (b : Bool) (k : Int → Int → Bool → Option γ) : (tupK (.tup [.int .i64 n, .int .i64 d, .bool b]) 3 fun c => cellK c 0 fun d => intK .i64 d fun x => cellK c 1 fun d => intK .i64 d fun y => cellK c 2 fun d => boolK d fun z => k x y z) = k n d b := rfl
theorem mul_abs {a b : Int} (ha : a.natAbs < 1000000000) (hb : b.natAbs < 1000000000) : (a * b).natAbs < 1000000000000000000 := by
  rw [Int.natAbs_mul]
  exact Nat.lt_of_le_of_lt (Nat.mul_le_mul (Nat.le_of_lt_succ (by omega : a.natAbs < 999999999 + 1)) (Nat.le_of_lt_succ (by omega : b.natAbs < 999999999 + 1))) (by decide)
def addN (x y : Int × Nat) : Int := x.1 * (y.2 : Int) + y.1 * (x.2 : Int)
theorem ok140 {x y : Int × Nat} (hx : Sm x) (hy : Sm y) (hs : (addN x y).natAbs < 1000000000000000000) : OK2 140 [.str (ratB x), .str (ratB y)] (.str (bs (ofL (addN x y) (x.2 * y.2)))) := by
  have b1 := mul_abs hx.n (b := (y.2 : Int)) (by have := hy.d; omega)
  have b2 := mul_abs hy.n (b := (x.2 : Int)) (by have := hx.d; omega)
  have b3 := mul_abs (a := (x.2 : Int)) (b := (y.2 : Int)) (by have := hx.d; omega) (by have := hy.d; omega)
  have hc : (x.2 : Int) * (y.2 : Int) = ((x.2 * y.2 : Nat) : Int) := (Int.natCast_mul ..).symm
  have hp : 0 < x.2 * y.2 := Nat.mul_pos hx.l hy.l
  have hb : x.2 * y.2 < 1000000000000000000 := by rw [hc, Int.natAbs_natCast] at b3; exact b3
  obtain ⟨B, hB, e7, e2, _⟩ := exF [fam165, one 141 [.int .i64 (addN x y), .int .i64 ((x.2 * y.2 : Nat) : Int)] (.str (bs (ofL (addN x y) (x.2 * y.2))))] ⟨fam165_good, one_good (ok141 _ _ hs hp hb) rfl, trivial⟩ rfl
  have h7 : ∀ z : Int × Nat, Sm z → callOf B 165 [.str (ratB z)] = some (.tup [.int .i64 z.1, .int .i64 (z.2 : Int), .bool true]) := fun z hz => e7 ⟨z, hz⟩
  have h2 : callOf B 141 [.int .i64 (addN x y), .int .i64 ((x.2 * y.2 : Nat) : Int)] = some (.str (bs (ofL (addN x y) (x.2 * y.2)))) := e2 ()
  refine fnT hB Tryz.func140 (ord := O0) (N := N140) (by kernel_rfl) ((F140_eq _ _ _ _ _).trans ?_)
  refine opt_step (h7 x hx) ((rd_quick _ _ _ _).trans ?_)
  refine opt_step (h7 y hy) ((rd_quick _ _ _ _).trans ?_)
  rw [ifK_true, F140_61_eq (C := C1) (hC := fun _ => rfl), ifK_true, wrap_in (y := x.1 * (y.2 : Int)) (by omega), wrap_in (y := y.1 * (x.2 : Int)) (by omega), show x.1 * (y.2 : Int) + y.1 * (x.2 : Int) = addN x y from rfl, wrap_in (y := addN x y) (by omega), wrap_in (y := (x.2 : Int) * (y.2 : Int)) (by omega), hc]
  exact opt_step h2 rfl
end Go.Pd
end
