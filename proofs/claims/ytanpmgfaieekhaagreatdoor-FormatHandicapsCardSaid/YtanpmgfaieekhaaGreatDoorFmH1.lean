/-
  Chapter 5: equations of the functions of FormatHandicaps (printed).
  Chapter 5: equations about the table of kinds of sides.
  Chapter 5: equations of the functions about kinds of sides (printed).
-/
import Derived.Test.YtanpmgfaieekhaaGreatDoorFmT
import Derived.KernelRfl
import Derived.Test.YtanpmgfaieekhaaGreatDoorFmA
section
namespace Go.Pd
open Go Go.Proofs
set_option maxRecDepth 100000
theorem F139_eq (call : CL) (L : Nat) (C : Nat → Nat) (e : ByteArray) : evFnT (TEf call L C) O0 N0 FinM.canon Tryz.f139 [D.str e] =
 (optK (call 160 [D.str e]) fun r =>
 (boolK r fun b =>
 (ifK b
 (some (D.str e))
 (optK (call 162 [D.str e]) fun a6 =>
 (tupK a6 2 fun c =>
 (cellK c 0 fun d =>
 (aggK d 2 fun h =>
 (cellK h 0 fun V =>
 (boolK V fun z =>
 (cellK h 1 fun W =>
 (slcK W fun f n O =>
 (cellK c 1 fun X =>
 (aggK X 2 fun j =>
 (cellK j 0 fun Y =>
 (boolK Y fun J =>
 (cellK j 1 fun Z =>
 (slcK Z fun a2 a4 S =>
 (optK (call 164 [D.agg [D.bool z, D.slc f n O], D.agg [D.bool J, D.slc a2 a4 S]]) fun a7 =>
 (aggK a7 2 fun q =>
 (cellK q 0 fun a0 =>
 (boolK a0 fun K =>
 (cellK q 1 fun a1 =>
 (slcK a1 fun a3 a5 U =>
 (optK (call 163 [D.agg [D.bool K, D.slc a3 a5 U]]) fun a8 =>
 (strK a8 fun s =>
 (some (D.str s))))))))))))))))))))))))))) := by kernel_rfl
def N138 : NTab := fun p => match p with
  | 7 => some { keep := [0], kl := [4], ren := [(4, 4)] }
  | 250 => some { keep := [4, 5, 6], kl := [], ren := [(4, 4)] }
  | 2003 => some { keep := [4, 5, 6], kl := [], ren := [(4, 4)] }
  | 16019 => some { keep := [4, 5, 6, 7], kl := [], ren := [(4, 4)] }
  | 32039 => some { keep := [4, 5, 6, 7], kl := [], ren := [(4, 4)] }
  | _ => none
noncomputable def F138_2003 (call : CL) (L : Nat) (C : Nat → Nat) (e : Nat) (h : Int) (j r : Bool) (z : Nat) (q : List D) (K : Int) : Option D :=
 cutAt (TEf call L C) O0 N138 FinM.canon Tryz.f138 [true, true, true, true, false, true, false, false, true, true] [e]  (C 2003) (St.mk (J :: J :: J :: J :: D.loc 4 0 0 :: D.int .i64 K :: D.int .i64 h :: jn 55 []) (Z :: Z :: Z :: Z :: (1, some (Ob.box [D.bool j, D.slc r z q] false)) :: zn 57 []))
noncomputable def F138_32039 (call : CL) (L : Nat) (C : Nat → Nat) (e : Nat) (O j h : Int) (q z : Bool) (K : Nat) (r : List D) : Option D :=
 cutAt (TEf call L C) O0 N138 FinM.canon Tryz.f138 [true, true, true, true, false, true, false, false, true, false, false, true, true, true] [e]  (C 32039) (St.mk (J :: J :: J :: J :: D.loc 4 0 0 :: D.int .i64 O :: D.int .i64 j :: D.int .i64 h :: jn 54 []) (Z :: Z :: Z :: Z :: (1, some (Ob.box [D.bool q, D.slc z K r] false)) :: zn 57 []))
noncomputable def F138_16019 (call : CL) (L : Nat) (C : Nat → Nat) (e : Nat) (O j : Int) (q z : Bool) (K : Nat) (r : List D) (h : Int) : Option D :=
 cutAt (TEf call L C) O0 N138 FinM.canon Tryz.f138 [true, true, true, true, false, true, false, false, true, false, false, true, true] [e]  (C 16019) (St.mk (J :: J :: J :: J :: D.loc 4 0 0 :: D.int .i64 O :: D.int .i64 j :: D.int .i64 h :: jn 54 []) (Z :: Z :: Z :: Z :: (1, some (Ob.box [D.bool q, D.slc z K r] false)) :: zn 57 []))
noncomputable def F138_250 (call : CL) (L : Nat) (C : Nat → Nat) (e : Nat) (K h : Int) (j r : Bool) (z : Nat) (q : List D) : Option D :=
 loopAt (TEf call L C) O0 N138 FinM.canon Tryz.f138 [true, true, true, true, false, true, false] []  e (St.mk (J :: J :: J :: J :: D.loc 4 0 0 :: D.int .i64 K :: D.int .i64 h :: jn 55 []) (Z :: Z :: Z :: Z :: (1, some (Ob.box [D.bool j, D.slc r z q] false)) :: zn 57 []))
noncomputable def F138_7 (call : CL) (L : Nat) (C : Nat → Nat) (e : ByteArray) : Option D :=
 cutAt (TEf call L C) O0 N138 FinM.canon Tryz.f138 [true, true] []  (C 7) (St.mk (D.str e :: jn 61 []) (zn 62 []))
theorem F138_2003_eq (call : CL) (L : Nat) (C : Nat → Nat) (e : Nat) (h : Int) (j r : Bool) (z : Nat) (q : List D) (J : Int) (hC : ∀ t, C t = 1) : F138_2003 call L C e h j r z q J =
 (F138_250 call L C e J (IntKind.wrap .i64 (h - 1)) j r z q) := by
  unfold F138_2003
  rw [hC]
  kernel_rfl
theorem F138_32039_eq (call : CL) (L : Nat) (C : Nat → Nat) (e : Nat) (K j h : Int) (q z : Bool) (J : Nat) (r : List D) (hC : ∀ t, C t = 1) : F138_32039 call L C e K j h q z J r  =
 (F138_2003 call L C e j q z J r (IntKind.wrap .i64 (IntKind.wrap .i64 (K * 1000000000) + h))) := by
  unfold F138_32039
  rw [hC]
  kernel_rfl
theorem F138_16019_eq (call : CL) (L : Nat) (C : Nat → Nat) (j : Nat) (e q : Int) (r J : Bool) (K : Nat) (z : List D) (h : Int) (hC : ∀ t, C t = 1) : F138_16019 call L C j e q r J K z h =
 (ifK (decide (e > 9223372036))
 (some (D.tup [D.int .i64 0, D.bool false]))
 (ifK (decide (e < -9223372036))
 (some (D.tup [D.int .i64 0, D.bool false]))
 (ifK (e == 9223372036)
 (ifK (decide (h > 854775807))
 (some (D.tup [D.int .i64 0, D.bool false]))
 (ifK (e == -9223372036)
 (ifK (decide (h < -854775808))
 (some (D.tup [D.int .i64 0, D.bool false]))
 (F138_32039 call L C j e q h r J K z))
 (F138_32039 call L C j e q h r J K z)))
 (ifK (e == -9223372036)
 (ifK (decide (h < -854775808))
 (some (D.tup [D.int .i64 0, D.bool false]))
 (F138_32039 call L C j e q h r J K z))
 (F138_32039 call L C j e q h r J K z))))) := by
  unfold F138_16019
  rw [hC]
  kernel_rfl
theorem F138_250_eq (call : CL) (L : Nat) (C : Nat → Nat) (z : Nat) (r e : Int) (h J : Bool) (q : Nat) (j : List D) : F138_250 call L C  (z + 1)  r e h J q j =
 (ifK (decide (e ≥ 0))
 (chkK (decide (0 ≤ e ∧ e < (q : Int)))
 (cellK j (Int.toNat e * 1) fun K =>
 (intK .i64 K fun x =>
 (ifK h
 (F138_16019 call L C z r e h J q j (IntKind.wrap .i64 (0 - x)))
 (F138_16019 call L C z r e h J q j x)))))
 (some (D.tup [D.int .i64 r, D.bool true]))) := by kernel_rfl
theorem F138_7_eq (call : CL) (L : Nat) (C : Nat → Nat) (h : ByteArray) (hC : ∀ t, C t = 1) : F138_7 call L C  h  =
 (optK (call 161 [D.str h]) fun z =>
 (aggK z 2 fun c =>
 (cellK c 0 fun d =>
 (boolK d fun j =>
 (cellK c 1 fun r =>
 (slcK r fun f e q =>
 (F138_250 call L C L 0 (IntKind.wrap .i64 ((e : Int) - 1)) j f e q))))))) := by
  unfold F138_7
  rw [hC]
  kernel_rfl
theorem F138_eq (call : CL) (L : Nat) (C : Nat → Nat) (e : ByteArray) : evFnT (TEf call L C) O0 N138 FinM.canon Tryz.f138 [D.str e] =
 (optK (call 160 [D.str e]) fun r =>
 (boolK r fun b =>
 (ifK (!b)
 (some (D.tup [D.int .i64 0, D.bool false]))
 (ifK (decide (((ByteArray.size e) : Int) > 20))
 (some (D.tup [D.int .i64 0, D.bool false]))
 (F138_7 call L C e))))) := by kernel_rfl
theorem F160_eq (call : CL) (L : Nat) (C : Nat → Nat) (e : ByteArray) : evFnT (TEf call L C) O0 N0 FinM.canon Tryz.f160 [D.str e] =
 (optK (call 189 [D.str e]) fun r =>
 (intK .i64 r fun x =>
 (some (D.bool (x == ((ByteArray.size e) : Int)))))) := by kernel_rfl
theorem F162_eq (call : CL) (L : Nat) (C : Nat → Nat) (e : ByteArray) : evFnT (TEf call L C) O0 N0 FinM.canon Tryz.f162 [D.str e] =
 (optK (call 189 [D.str e]) fun r =>
 (intK .i64 r fun x =>
 (ifK (x == ((ByteArray.size e) : Int))
 (optK (call 161 [D.str e]) fun a9 =>
 (aggK a9 2 fun c =>
 (cellK c 0 fun d =>
 (boolK d fun b =>
 (cellK c 1 fun W =>
 (slcK W fun f n O =>
 (optK (call 169 [D.int .i64 1]) fun aa =>
 (aggK aa 2 fun h =>
 (cellK h 0 fun X =>
 (boolK X fun z =>
 (cellK h 1 fun Y =>
 (slcK Y fun a3 a6 S =>
 (some (D.tup [D.agg [D.bool b, D.slc f n O], D.agg [D.bool z, D.slc a3 a6 S]]))))))))))))))
 (chkK (decide (0 ≤ (0 : Int) ∧ (0 : Int) ≤ x ∧ x ≤ ((ByteArray.size e) : Int)))
 (optK (call 161 [D.str (ByteArray.extract e 0 (Int.toNat x))]) fun ab =>
 (aggK ab 2 fun j =>
 (cellK j 0 fun Z =>
 (boolK Z fun J =>
 (cellK j 1 fun a0 =>
 (slcK a0 fun a4 a7 U =>
 (chkK (decide (0 ≤ IntKind.wrap .i64 (x + 1) ∧ IntKind.wrap .i64 (x + 1) ≤ ((ByteArray.size e) : Int) ∧ ((ByteArray.size e) : Int) ≤ ((ByteArray.size e) : Int)))
 (optK (call 161 [D.str (ByteArray.extract e (Int.toNat (IntKind.wrap .i64 (x + 1))) (Int.toNat ((ByteArray.size e) : Int)))]) fun ac =>
 (aggK ac 2 fun q =>
 (cellK q 0 fun a1 =>
 (boolK a1 fun K =>
 (cellK q 1 fun a2 =>
 (slcK a2 fun a5 a8 V =>
 (some (D.tup [D.agg [D.bool J, D.slc a4 a7 U], D.agg [D.bool K, D.slc a5 a8 V]]))))))))))))))))))) := by kernel_rfl
def N164 : NTab := fun p => match p with
  | 15 => some { keep := [2, 4, 5], kl := [3], ren := [(2, 2), (3, 3), (4, 4)] }
  | _ => none
noncomputable def F164_15 (call : CL) (L : Nat) (C : Nat → Nat) (e j : Bool) (q : Nat) (h : List D) (z : Bool) (K : Nat) (r : List D) : Option D :=
 cutAt (TEf call L C) O0 N164 FinM.canon Tryz.f164 [true, true, true] []  (C 15) (St.mk (J :: J :: D.loc 2 0 0 :: J :: D.loc 4 0 0 :: D.slc z K r :: jn 23 []) (Z :: Z :: (1, some (Ob.box [D.bool e, D.slc j q h] false)) :: Z :: (1, some (Ob.box [D.bool false, D.nils] false)) :: zn 24 []))
theorem F164_15_eq (call : CL) (L : Nat) (C : Nat → Nat) (h W : Bool) (X : Nat) (V : List D) (q : Bool) (r : Nat) (j : List D) (hC : ∀ t, C t = 1) : F164_15 call L C  h W X V q r j =
 (optK (call 191 [D.bool h, D.slc q r j]) fun U =>
 (aggK U 2 fun e =>
 (cellK e 0 fun J =>
 (boolK J fun b =>
 (cellK e 1 fun K =>
 (slcK K fun O S z =>
 (some (D.agg [D.bool b, D.slc O S z])))))))) := by
  unfold F164_15
  rw [hC]
  kernel_rfl
theorem F164_eq (call : CL) (L : Nat) (C : Nat → Nat) (e j : Bool) (q : Nat) (h : List D) (Z K : Bool) (O : Nat) (J : List D) : evFnT (TEf call L C) O0 N164 FinM.canon Tryz.f164 [D.agg [D.bool e, D.slc j q h], D.agg [D.bool Z, D.slc K O J]] =
 (optK (call 192 [D.slc j q h, D.slc K O J]) fun r =>
 (tupK r 2 fun c =>
 (cellK c 0 fun d =>
 (slcK d fun f n z =>
 (cellK c 1 fun U =>
 (slcK U fun _f_1 W _c_2 =>
 (ifK e
 (ifK (decide ((W : Int) > 0))
 (optK (call 193 [D.slc f n z, D.slc true 1 [D.int .i64 1]]) fun Y =>
 (slcK Y fun V X S =>
 (F164_15 call L C e j q h V X S)))
 (F164_15 call L C e j q h f n z))
 (F164_15 call L C e j q h f n z)))))))) := by kernel_rfl
def N192 : NTab := fun p => match p with
  | 1020 => some { keep := [0, 8, 9, 10, 11], kl := [76], ren := [(62, 62), (71, 62), (76, 76)] }
  | 8186 => some { keep := [8, 9, 10, 11, 12, 13], kl := [], ren := [(62, 62), (71, 62), (76, 76)] }
  | 4191386 => some { keep := [8, 9, 10, 11, 12, 13, 14, 15, 16], kl := [], ren := [(62, 62), (71, 62), (76, 76)] }
  | 536498010 => some { keep := [8, 9, 10, 11, 12, 13, 14, 19, 20], kl := [], ren := [(62, 62), (71, 62), (76, 76)] }
  | _ => none
theorem F192a_eq (call : CL) (L : Nat) (C : Nat → Nat) (h : Bool) (j : Nat) (e : List D) (z : Bool) (q : Int) : evFnT (TEf call L C) O0 N192 FinM.canon Tryz.f192 [D.slc h j e, D.slc z 1 [D.int .i64 q]] =
 (optK (call 196 [D.slc h j e, D.slc z 1 [D.int .i64 q]]) fun r =>
 (intK .i64 r fun x =>
 (ifK (decide (x < 0))
 (some (D.tup [D.slc true 0 [], D.slc h j e]))
 (optK (call 211 [D.slc h j e, D.int .i64 q]) fun V =>
 (tupK V 2 fun c =>
 (cellK c 0 fun d =>
 (slcK d fun f n J =>
 (cellK c 1 fun O =>
 (intK .i64 O fun X =>
 (optK (call 210 [D.slc true 1 [D.int .i64 X]]) fun W =>
 (slcK W fun S U K =>
 (some (D.tup [D.slc f n J, D.slc S U K]))))))))))))) := by kernel_rfl
theorem F98_eq (call : CL) (L : Nat) (C : Nat → Nat) (h e : Int) : evFnT (TEf call L C) O0 N0 FinM.canon Tryz.f98 [D.int .i64 h, D.int .i64 e] =
 (optK (call 141 [D.int .i64 h, D.int .i64 e]) fun r =>
 (strK r fun s =>
 (optK (call 140 [D.str s, D.str (ByteArray.mk #[49, 47, 50])]) fun q =>
 (strK q fun K =>
 (optK (call 139 [D.str K]) fun z =>
 (strK z fun O =>
 (optK (call 138 [D.str O]) fun J =>
 (tupK J 2 fun c =>
 (cellK c 0 fun d =>
 (intK .i64 d fun x =>
 (cellK c 1 fun j =>
 (boolK j fun _b =>
 (some (D.int .i64 x)))))))))))))) := by kernel_rfl
def N99 : NTab := fun p => match p with
  | 58 => some { keep := [3, 4], kl := [], ren := [(8, 8)] }
  | 3730 => some { keep := [3, 4, 5], kl := [], ren := [(8, 8)] }
  | _ => none
noncomputable def F99_3730 (call : CL) (L : Nat) (C : Nat → Nat) (n h : Nat) (j : Int) (e : Ow) (q : Int) : Option D :=
 loopAt (TEf call L C) O0 N99 FinM.canon Tryz.f99 [true, true, false, true, false, false, true, false, false, true, false] [n]  h (St.mk (J :: J :: J :: ownD 8 e :: D.int .i64 j :: D.int .i64 q :: jn 43 []) (zn 8 (ownO 3 1 e :: zn 40 [])))
noncomputable def F99_58 (call : CL) (L : Nat) (C : Nat → Nat) (n : Nat) (e : Ow) (h : Int) : Option D :=
 loopAt (TEf call L C) O0 N99 FinM.canon Tryz.f99 [true, true, false, true, false] []  n (St.mk (J :: J :: J :: ownD 8 e :: D.int .i64 h :: jn 44 []) (zn 8 (ownO 3 1 e :: zn 40 [])))
theorem F99_3730_eqo (call : CL) (L : Nat) (C : Nat → Nat) (n r : Nat) (q : Int) (j : Nat) (h : List D) (e : Int) : F99_3730 call L C n (r + 1) q (Ow.own j h) e =
 (ifK (decide (e > 0))
 (chkK (decide (0 ≤ e ∧ e < (j : Int)))
 (cellK h (Int.toNat e * 1) fun d =>
 (intK .i64 d fun x =>
 (chkK (decide (0 ≤ IntKind.wrap .i64 (e - 1) ∧ IntKind.wrap .i64 (e - 1) < (j : Int)))
 (cellK h (Int.toNat (IntKind.wrap .i64 (e - 1)) * 1) fun J =>
 (intK .i64 J fun S =>
 (ifK (decide (x < S))
 (chkK (decide (0 ≤ IntKind.wrap .i64 (e - 1) ∧ IntKind.wrap .i64 (e - 1) < (j : Int)))
 (cellK h (Int.toNat (IntKind.wrap .i64 (e - 1)) * 1) fun K =>
 (intK .i64 K fun z =>
 (chkK (decide (0 ≤ e ∧ e < (j : Int)))
 (cellK h (Int.toNat e * 1) fun O =>
 (intK .i64 O fun U =>
 (chkK (decide (0 ≤ e ∧ e < (j : Int)))
 (chkK (decide (Int.toNat e * 1 + 1 ≤ List.length h))
 (chkK (decide (0 ≤ IntKind.wrap .i64 (e - 1) ∧ IntKind.wrap .i64 (e - 1) < (j : Int)))
 (chkK (decide (Int.toNat (IntKind.wrap .i64 (e - 1)) * 1 + 1 ≤ List.length (writeAt h (Int.toNat e * 1) [D.int .i64 z])))
 (F99_3730 call L C n r q (Ow.own j (writeAt (writeAt h (Int.toNat e * 1) [D.int .i64 z]) (Int.toNat (IntKind.wrap .i64 (e - 1)) * 1) [D.int .i64 U])) (IntKind.wrap .i64 (e - 1)))))))))))))
 (F99_58 call L C n (Ow.own j h) (IntKind.wrap .i64 (q + 1))))))))))
 (F99_58 call L C n (Ow.own j h) (IntKind.wrap .i64 (q + 1)))) := by kernel_rfl
theorem F99_58_eqo (call : CL) (L : Nat) (C : Nat → Nat) (n h : Nat) (j : List D) (e : Int) : F99_58 call L C  (n + 1)  (Ow.own h j) e =
 (ifK (decide (e < (h : Int)))
 (F99_3730 call L C n L e (Ow.own h j) e)
 (some (D.slc false h j))) := by kernel_rfl
theorem F99_eq (call : CL) (L : Nat) (C : Nat → Nat) (j : Bool) (e : Nat) (h : List D) : evFnT (TEf call L C) O0 N99 FinM.canon Tryz.f99 [D.slc j e h] =
 (chkK (decide (List.length h = e * 1))
 (chkK (List.all h D.one)
 (ifK (decide (e = 0))
 (F99_58 call L C L (Ow.slc true 0 []) 1)
 (chkK (decide (0 < e ∧ 0 = 0 ∧ (0 + e) * 8 ≤ limit ∧ 0 + e ≤ 4611686018427387903))
 (F99_58 call L C L (Ow.own (0 + e) h) 1))))) := by kernel_rfl
def N35 : NTab := fun p => match p with
  | 250 => some { keep := [3, 4, 5, 6], kl := [], ren := [] }
  | _ => none
noncomputable def F35_250 (call : CL) (L : Nat) (C : Nat → Nat) (e : Nat) (O : Bool) (S : Nat) (K : List D) (r : Bool) (z : Nat) (q : List D) (j h : Int) : Option D :=
 loopAt (TEf call L C) O0 N35 FinM.canon Tryz.f35 [true, true, true, true, false, true, false] []  e (St.mk (J :: J :: J :: D.slc O S K :: D.slc r z q :: D.int .i64 j :: D.int .i64 h :: jn 30 []) (zn 37 []))
theorem F35_250_eq (call : CL) (L : Nat) (C : Nat → Nat) (J : Nat) (O : Bool) (z : Nat) (r : List D) (K : Bool) (h : Nat) (q : List D) (j e : Int) : F35_250 call L C  (J + 1)  O z r K h q j e =
 (ifK (decide (e < (h : Int)))
 (chkK (decide (0 ≤ e ∧ e < (h : Int)))
 (cellK q (Int.toNat e * 1) fun S =>
 (intK .i64 S fun x =>
 (chkK (decide (0 ≤ e ∧ e < (z : Int)))
 (cellK r (Int.toNat e * 1) fun U =>
 (intK .i64 U fun W =>
 (F35_250 call L C J O z r K h q (IntKind.wrap .i64 (j + IntKind.wrap .i64 (x * W))) (IntKind.wrap .i64 (e + 1)))))))))
 (optK (call 98 [D.int .i64 j, D.int .i64 100]) fun V =>
 (intK .i64 V fun X =>
 (some (D.int .i64 X))))) := by kernel_rfl
theorem F35_eq (call : CL) (L : Nat) (C : Nat → Nat) (j : Bool) (e : Nat) (h : List D) : evFnT (TEf call L C) O0 N35 FinM.canon Tryz.f35 [D.slc j e h] =
 (chkK (decide (0 ≤ IntKind.wrap .i64 ((e : Int) - 2) ∧ IntKind.wrap .i64 ((e : Int) - 2) < (3 : Int)))
 (cellK ([D.slc true 2 [D.int .i64 35, D.int .i64 15], D.slc true 3 [D.int .i64 30, D.int .i64 20, D.int .i64 10], D.slc true 4 [D.int .i64 25, D.int .i64 20, D.int .i64 15, D.int .i64 10]]) (Int.toNat (IntKind.wrap .i64 ((e : Int) - 2)) * 1) fun d =>
 (slcK d fun f n c =>
 (optK (call 99 [D.slc j e h]) fun r =>
 (slcK r fun z J q =>
 (F35_250 call L C L f n c z J q 0 0)))))) := by kernel_rfl
theorem F34_eq (call : CL) (L : Nat) (C : Nat → Nat) (q : Bool) (h : Nat) (e : List D) : evFnT (TEf call L C) O0 N0 FinM.canon Tryz.f34 [D.slc q h e] =
 (chkK (decide ((0 : Int) ≤ 0 ∧ 0 < (h : Int)))
 (cellK e 0 fun d =>
 (intK .i64 d fun x =>
 (chkK (decide ((0 : Int) ≤ 1 ∧ 1 < (h : Int)))
 (cellK e 1 fun j =>
 (intK .i64 j fun z =>
 (optK (call 98 [D.int .i64 (IntKind.wrap .i64 (x + z)), D.int .i64 2]) fun r =>
 (intK .i64 r fun J =>
 (some (D.int .i64 J)))))))))) := by kernel_rfl
theorem F36_eq (call : CL) (L : Nat) (C : Nat → Nat) (j : Bool) (q : Nat) (h : List D) (e : Int) : evFnT (TEf call L C) O0 N0 FinM.canon Tryz.f36 [D.slc j q h, D.int .i64 e] =
 (optK (call 99 [D.slc j q h]) fun r =>
 (slcK r fun f n c =>
 (chkK (decide (0 ≤ (0 : Int) ∧ (0 : Int) ≤ e ∧ e ≤ (n : Int)))
 (optK (call 100 [D.slc (f && decide (e = (n : Int))) (Int.toNat (e - (0 : Int))) (List.take (Int.toNat (e - (0 : Int)) * 1) c), D.int .i64 e]) fun z =>
 (intK .i64 z fun x =>
 (some (D.int .i64 x))))))) := by kernel_rfl
def N32 : NTab := fun p => match p with
  | 58 => some { keep := [0, 7], kl := [], ren := [] }
  | _ => none
noncomputable def F32_58 (call : CL) (L : Nat) (C : Nat → Nat) (n : Nat) (j : Bool) (q : Nat) (h : List D) (e : Int) : Option D :=
 loopAt (TEf call L C) O0 N32 FinM.canon Tryz.f32 [true, true, false, true, false] []  n (St.mk (D.slc j q h :: jn 6 (D.int .i64 e :: jn 21 [])) (zn 29 []))
theorem F32_58_eq (call : CL) (L : Nat) (C : Nat → Nat) (n : Nat) (q : Bool) (h : Nat) (j : List D) (e : Int) : F32_58 call L C  (n + 1) q h j e =
 (ifK (decide (e < (h : Int)))
 (chkK (decide (0 ≤ e ∧ e < (h : Int)))
 (cellK j (Int.toNat e * 1) fun d =>
 (intK .i64 d fun x =>
 (optK (call 86 [D.int .i64 x]) fun r =>
 (boolK r fun b =>
 (ifK b
 (some (D.int .i64 3))
 (F32_58 call L C n q h j (IntKind.wrap .i64 (e + 1)))))))))
 (some (D.int .i64 0))) := by kernel_rfl
theorem F32_eq (call : CL) (L : Nat) (C : Nat → Nat) (j : Bool) (e : Nat) (h : List D) (q r : Int) : evFnT (TEf call L C) O0 N32 FinM.canon Tryz.f32 [D.slc j e h, D.int .i64 q, D.int .i64 r] =
 (ifK (decide ((e : Int) < q))
 (some (D.int .i64 2))
 (ifK (decide ((e : Int) > r))
 (some (D.int .i64 2))
 (F32_58 call L C L j e h 0))) := by kernel_rfl
theorem F29_eq (call : CL) (L : Nat) (C : Nat → Nat) (h : Bool) (j : Nat) (e : List D) : evFnT (TEf call L C) O0 N0 FinM.canon Tryz.f29 [D.slc h j e] =
 (optK (call 92 [D.str (ByteArray.mk #[102, 111, 117, 114, 115, 111, 109, 101]), D.slc h j e]) fun r =>
 (tupK r 2 fun c =>
 (cellK c 0 fun d =>
 (intK .i64 d fun x =>
 (cellK c 1 fun q =>
 (intK .i64 q fun z =>
 (some (D.tup [D.int .i64 x, D.int .i64 z])))))))) := by kernel_rfl
theorem F30_eq (call : CL) (L : Nat) (C : Nat → Nat) (h : Bool) (j : Nat) (e : List D) : evFnT (TEf call L C) O0 N0 FinM.canon Tryz.f30 [D.slc h j e] =
 (optK (call 92 [D.str (ByteArray.mk #[115, 99, 114, 97, 109, 98, 108, 101]), D.slc h j e]) fun r =>
 (tupK r 2 fun c =>
 (cellK c 0 fun d =>
 (intK .i64 d fun x =>
 (cellK c 1 fun q =>
 (intK .i64 q fun z =>
 (some (D.tup [D.int .i64 x, D.int .i64 z])))))))) := by kernel_rfl
theorem F31_eq (call : CL) (L : Nat) (C : Nat → Nat) (q : Bool) (h : Nat) (j : List D) (e : Int) : evFnT (TEf call L C) O0 N0 FinM.canon Tryz.f31 [D.slc q h j, D.int .i64 e] =
 (optK (call 93 [D.slc q h j, D.int .i64 200]) fun r =>
 (intK .i64 r fun x =>
 (ifK (decide (e < 1))
 (optK (call 83 [D.bool true, D.int .i64 3]) fun U =>
 (intK .i64 U fun a2 =>
 (optK (call 81 [D.slc true 2 [D.int .i64 x, D.int .i64 a2]]) fun V =>
 (intK .i64 V fun J =>
 (ifK (J != 0)
 (some (D.tup [D.int .i64 0, D.int .i64 J]))
 (optK (call 95 [D.fn (Fn.func 137) [] [D.snap [D.slc q h j] 0]]) fun W =>
 (slcK W fun f n c =>
 (chkK (decide (0 ≤ (0 : Int) ∧ (0 : Int) ≤ e ∧ e ≤ (n : Int)))
 (optK (call 94 [D.slc (f && decide (e = (n : Int))) (Int.toNat (e - (0 : Int))) (List.take (Int.toNat (e - (0 : Int)) * 1) c), D.fn (Fn.func 97) [] []]) fun X =>
 (intK .i64 X fun a3 =>
 (some (D.tup [D.int .i64 a3, D.int .i64 0]))))))))))))
 (optK (call 83 [D.bool (decide (e > (h : Int))), D.int .i64 3]) fun Y =>
 (intK .i64 Y fun a4 =>
 (optK (call 81 [D.slc true 2 [D.int .i64 x, D.int .i64 a4]]) fun Z =>
 (intK .i64 Z fun K =>
 (ifK (K != 0)
 (some (D.tup [D.int .i64 0, D.int .i64 K]))
 (optK (call 95 [D.fn (Fn.func 137) [] [D.snap [D.slc q h j] 0]]) fun a0 =>
 (slcK a0 fun S z O =>
 (chkK (decide (0 ≤ (0 : Int) ∧ (0 : Int) ≤ e ∧ e ≤ (z : Int)))
 (optK (call 94 [D.slc (S && decide (e = (z : Int))) (Int.toNat (e - (0 : Int))) (List.take (Int.toNat (e - (0 : Int)) * 1) O), D.fn (Fn.func 97) [] []]) fun a1 =>
 (intK .i64 a1 fun a5 =>
 (some (D.tup [D.int .i64 a5, D.int .i64 0]))))))))))))))) := by kernel_rfl
def N5 : NTab := fun p => match p with
  | 7 => some { keep := [0, 1], kl := [], ren := [] }
  | 255 => some { keep := [0, 1, 5, 6, 7, 8, 9, 10, 11, 12, 13], kl := [], ren := [] }
  | 1023 => some { keep := [0, 1, 5, 6, 7, 8, 9, 10, 11, 12, 13, 14, 15, 16], kl := [], ren := [] }
  | 2047 => some { keep := [0, 1, 5, 6, 7, 8, 9, 10, 11, 12, 13, 14, 15, 16], kl := [], ren := [] }
  | 4095 => some { keep := [5, 6, 7, 8, 9, 10, 11, 12, 13, 14, 15, 16], kl := [], ren := [] }
  | _ => none
noncomputable def F5_4095 (call : CL) (L : Nat) (C : Nat → Nat) (J q vs r O z K U S e h j : Int) : Option D :=
 cutAt (TEf call L C) O0 N5 FinM.canon Tryz.f5 [true, true, true, true, true, true, true, true, true, true, true] []  (C 4095) (St.mk (jn 5 (D.int .i64 J :: D.int .i64 q :: D.int .i64 vs :: D.int .i64 r :: D.int .i64 O :: D.int .i64 z :: D.int .i64 K :: D.int .i64 U :: D.int .i64 S :: D.int .i64 e :: D.int .i64 h :: D.int .i64 j :: jn 91 [])) (zn 108 []))
noncomputable def F5_2047 (call : CL) (L : Nat) (C : Nat → Nat) (S : Bool) (U : Nat) (O : List D) (j K q vs r W z V Y X e h : Int) : Option D :=
 cutAt (TEf call L C) O0 N5 FinM.canon Tryz.f5 [true, true, true, true, true, true, true, true, true, true] []  (C 2047) (St.mk (D.slc S U O :: D.int .i64 j :: J :: J :: J :: D.int .i64 K :: D.int .i64 q :: D.int .i64 vs :: D.int .i64 r :: D.int .i64 W :: D.int .i64 z :: D.int .i64 V :: D.int .i64 Y :: D.int .i64 X :: D.int .i64 e :: D.int .i64 h :: D.int .i64 0 :: jn 91 []) (zn 108 []))
noncomputable def F5_1023 (call : CL) (L : Nat) (C : Nat → Nat) (O : Bool) (S : Nat) (K : List D) (h z j vs q V r U X W e : Int) : Option D :=
 cutAt (TEf call L C) O0 N5 FinM.canon Tryz.f5 [true, true, true, true, true, true, true, true, true] []  (C 1023) (St.mk (D.slc O S K :: D.int .i64 h :: J :: J :: J :: D.int .i64 z :: D.int .i64 j :: D.int .i64 vs :: D.int .i64 q :: D.int .i64 V :: D.int .i64 r :: D.int .i64 U :: D.int .i64 X :: D.int .i64 W :: D.int .i64 e :: D.int .i64 0 :: D.int .i64 0 :: jn 91 []) (zn 108 []))
noncomputable def F5_255 (call : CL) (L : Nat) (C : Nat → Nat) (K : Bool) (O : Nat) (z : List D) (e r h vs j U q S W V : Int) : Option D :=
 cutAt (TEf call L C) O0 N5 FinM.canon Tryz.f5 [true, true, true, true, true, true, true] []  (C 255) (St.mk (D.slc K O z :: D.int .i64 e :: J :: J :: J :: D.int .i64 r :: D.int .i64 h :: D.int .i64 vs :: D.int .i64 j :: D.int .i64 U :: D.int .i64 q :: D.int .i64 S :: D.int .i64 W :: D.int .i64 V :: jn 94 []) (zn 108 []))
noncomputable def F5_7 (call : CL) (L : Nat) (C : Nat → Nat) (j : Bool) (q : Nat) (h : List D) (e : Int) : Option D :=
 cutAt (TEf call L C) O0 N5 FinM.canon Tryz.f5 [true, true] []  (C 7) (St.mk (D.slc j q h :: D.int .i64 e :: jn 106 []) (zn 108 []))
theorem F5_4095_eq (call : CL) (L : Nat) (C : Nat → Nat) (J q vs r O z K U S e h j : Int) (hC : ∀ t, C t = 1) : F5_4095 call L C  J q vs r O z K U S e h j =
 (ifK (q == K)
 (ifK (J == e)
 (ifK (r == U)
 (ifK (vs == h)
 (ifK (z == S)
 (ifK (O == j)
 (optK (call 16 []) fun W =>
 (boolK W fun V =>
 (some (D.bool V))))
 (some (D.bool false)))
 (some (D.bool false)))
 (some (D.bool false)))
 (some (D.bool false)))
 (some (D.bool false)))
 (some (D.bool false))) := by
  unfold F5_4095
  rw [hC]
  kernel_rfl
theorem F5_2047_eq (call : CL) (L : Nat) (C : Nat → Nat) (W : Bool) (X : Nat) (V : List D) (U J q vs r O z K S e h j : Int) (hC : ∀ t, C t = 1) : F5_2047 call L C  W X V U J q vs r O z K S e h j =
 (ifK (e == 0)
 (optK (call 36 [D.slc W X V, D.int .i64 U]) fun Y =>
 (intK .i64 Y fun Z =>
 (F5_4095 call L C J q vs r O z K S e h j Z)))
 (F5_4095 call L C J q vs r O z K S e h j 0)) := by
  unfold F5_2047
  rw [hC]
  kernel_rfl
theorem F5_1023_eq (call : CL) (L : Nat) (C : Nat → Nat) (h : Bool) (j : Nat) (e : List D) (z S J vs K V O U q W r : Int) (hC : ∀ t, C t = 1) : F5_1023 call L C  h j e z S J vs K V O U q W r =
 (ifK (q == 0)
 (optK (call 35 [D.slc h j e]) fun X =>
 (intK .i64 X fun Y =>
 (F5_2047 call L C h j e z S J vs K V O U q W r Y)))
 (F5_2047 call L C h j e z S J vs K V O U q W r 0)) := by
  unfold F5_1023
  rw [hC]
  kernel_rfl
theorem F5_255_eq (call : CL) (L : Nat) (C : Nat → Nat) (h : Bool) (j : Nat) (e : List D) (r O z vs J S K q V U : Int) (hC : ∀ t, C t = 1) : F5_255 call L C  h j e r O z vs J S K q V U =
 (ifK (q == 0)
 (optK (call 34 [D.slc h j e]) fun W =>
 (intK .i64 W fun X =>
 (F5_1023 call L C h j e r O z vs J S K q V U X)))
 (F5_1023 call L C h j e r O z vs J S K q V U 0)) := by
  unfold F5_255
  rw [hC]
  kernel_rfl
theorem F5_7_eq (call : CL) (L : Nat) (C : Nat → Nat) (j : Bool) (e : Nat) (h : List D) (q : Int) (hC : ∀ t, C t = 1) : F5_7 call L C  j e h q  =
 (optK (call 29 [D.slc j e h]) fun a5 =>
 (tupK a5 2 fun c =>
 (cellK c 0 fun d =>
 (intK .i64 d fun x =>
 (cellK c 1 fun Y =>
 (intK .i64 Y fun J =>
 (optK (call 30 [D.slc j e h]) fun a6 =>
 (tupK a6 2 fun r =>
 (cellK r 0 fun Z =>
 (intK .i64 Z fun K =>
 (cellK r 1 fun a0 =>
 (intK .i64 a0 fun O =>
 (optK (call 31 [D.slc j e h, D.int .i64 q]) fun a7 =>
 (tupK a7 2 fun z =>
 (cellK z 0 fun a1 =>
 (intK .i64 a1 fun S =>
 (cellK z 1 fun a2 =>
 (intK .i64 a2 fun U =>
 (optK (call 32 [D.slc j e h, D.int .i64 2, D.int .i64 2]) fun a8 =>
 (intK .i64 a8 fun V =>
 (optK (call 32 [D.slc j e h, D.int .i64 2, D.int .i64 4]) fun a9 =>
 (intK .i64 a9 fun W =>
 (optK (call 33 [D.slc j e h, D.int .i64 200]) fun aa =>
 (intK .i64 aa fun X =>
 (ifK (decide (q < 1))
 (optK (call 24 [D.bool true, D.int .i64 3]) fun ab =>
 (intK .i64 ab fun ag =>
 (optK (call 22 [D.slc true 2 [D.int .i64 X, D.int .i64 ag]]) fun ac =>
 (intK .i64 ac fun ad =>
 (F5_255 call L C j e h q x J K O S U V W ad)))))
 (optK (call 24 [D.bool (decide (q > (e : Int))), D.int .i64 3]) fun a3 =>
 (intK .i64 a3 fun ae =>
 (optK (call 22 [D.slc true 2 [D.int .i64 X, D.int .i64 ae]]) fun a4 =>
 (intK .i64 a4 fun af =>
 (F5_255 call L C j e h q x J K O S U V W af)))))))))))))))))))))))))))))) := by
  unfold F5_7
  rw [hC]
  kernel_rfl
theorem F5_eq (call : CL) (L : Nat) (C : Nat → Nat) (q : Bool) (e : Nat) (j : List D) (h : Int) : evFnT (TEf call L C) O0 N5 FinM.canon Tryz.f5 [D.slc q e j, D.int .i64 h] =
 (ifK (decide ((e : Int) > 12))
 (ifK (decide ((e : Int) ≤ 200))
 (optK (call 16 []) fun r =>
 (boolK r fun b =>
 (some (D.bool b))))
 (ifK (decide ((e : Int) > 203))
 (optK (call 16 []) fun K =>
 (boolK K fun z =>
 (some (D.bool z))))
 (F5_7 call L C q e j h)))
 (ifK (decide ((e : Int) > 203))
 (optK (call 16 []) fun O =>
 (boolK O fun J =>
 (some (D.bool J))))
 (F5_7 call L C q e j h))) := by kernel_rfl
theorem F122h_eq (call : CL) (L : Nat) (C : Nat → Nat) (h : Bool) (j : Nat) (e : List D) : evFnT (TEf call L C) O0 N0 FinM.canon Tryz.f122 [D.slc h j e, D.fn (Fn.func 133) [] []] =
 (optK (call 150 [D.slc h j e, D.fn (Fn.func 133) [] []]) fun r =>
 (intK .i64 r fun x =>
 (some (D.bool (decide (x ≥ 0)))))) := by kernel_rfl
noncomputable def F150h_26 (call : CL) (L : Nat) (C : Nat → Nat) (n : Nat) (q : Bool) (r : Nat) (j : List D) (e h : Int) : Option D :=
 loopAt (TEf call L C) O0 N150 FinM.canon Tryz.f150 [true, false, true, false] []  n (St.mk (D.slc q r j :: D.fn (Fn.func 133) [] [] :: jn 5 (D.int .i64 e :: D.int .i64 h :: jn 10 [])) (zn 19 []))
theorem F150h_26_eq (call : CL) (L : Nat) (C : Nat → Nat) (n : Nat) (z : Bool) (q : Nat) (j : List D) (h e : Int) : F150h_26 call L C  (n + 1) z q j h e =
 (ifK (decide (e < h))
 (chkK (decide (0 ≤ e ∧ e < (q : Int)))
 (cellK j (Int.toNat e * 1) fun d =>
 (intK .i64 d fun x =>
 (optK (call 133 [D.int .i64 x]) fun r =>
 (boolK r fun b =>
 (ifK b
 (some (D.int .i64 e))
 (F150h_26 call L C n z q j h (IntKind.wrap .i64 (e + 1)))))))))
 (some (D.int .i64 (-1)))) := by kernel_rfl
theorem F150h_eq (call : CL) (L : Nat) (C : Nat → Nat) (j : Bool) (e : Nat) (h : List D) : evFnT (TEf call L C) O0 N150 FinM.canon Tryz.f150 [D.slc j e h, D.fn (Fn.func 133) [] []] =
 (F150h_26 call L C L j e h ((e : Int)) 0) := by kernel_rfl
end Go.Pd
end
section
namespace Go.Pd
open Go Go.Proofs
def kindsD : D := .msnap [.str (ByteArray.mk #[102, 111, 117, 114, 115, 111, 109, 101]), .str (ByteArray.mk #[115, 99, 114, 97, 109, 98, 108, 101])]
  [.agg [.int .i64 2, .int .i64 2, .fn (.func 154) [] []], .agg [.int .i64 2, .int .i64 4, .fn (.func 156) [] []]]
def cstH : Cst := fun k ds => match k, ds with
  | 132, [] => some kindsD
  | k, ds => cstG k ds
noncomputable def TEv (call : CL) (L : Nat) (C : Nat → Nat) : TE := { TEf call L C with cst := cstH }
end Go.Pd
end
section
namespace Go.Pd
open Go Go.Proofs
set_option maxRecDepth 100000
theorem F132_eq (call : CL) (L : Nat) (C : Nat → Nat) : evFnT (TEf call L C) O0 N0 FinM.canon Tryz.f132 [] =
 (some (D.msnap ([D.str (ByteArray.mk #[102, 111, 117, 114, 115, 111, 109, 101])] ++ [D.str (ByteArray.mk #[115, 99, 114, 97, 109, 98, 108, 101])]) ([D.agg [D.int .i64 2, D.int .i64 2, D.fn (Fn.func 154) [] []]] ++ [D.agg [D.int .i64 2, D.int .i64 4, D.fn (Fn.func 156) [] []]]))) := by kernel_rfl
theorem F133_eq (call : CL) (L : Nat) (C : Nat → Nat) (e : Int) : evFnT (TEf call L C) O0 N0 FinM.canon Tryz.f133 [D.int .i64 e] =
 (optK (call 84 [D.int .i64 e, D.int .i64 99]) fun r =>
 (boolK r fun b =>
 (some (D.bool b)))) := by kernel_rfl
theorem F154_eq (call : CL) (L : Nat) (C : Nat → Nat) (h : Bool) (j : Nat) (e : List D) : evFnT (TEf call L C) O0 N0 FinM.canon Tryz.f154 [D.slc h j e] =
 (optK (call 155 [D.slc h j e, D.slc true 2 [D.int .i64 50, D.int .i64 50]]) fun r =>
 (intK .i64 r fun x =>
 (some (D.int .i64 x)))) := by kernel_rfl
def N155 : NTab := fun p => match p with
  | 58 => some { keep := [1, 5, 8, 9, 10], kl := [], ren := [] }
  | _ => none
noncomputable def F155_58 (call : CL) (L : Nat) (C : Nat → Nat) (n : Nat) (O : Bool) (S : Nat) (K : List D) (q : Bool) (r : Nat) (j : List D) (z h e : Int) : Option D :=
 loopAt (TEf call L C) O0 N155 FinM.canon Tryz.f155 [true, true, false, true, false] []  n (St.mk (J :: D.slc O S K :: J :: J :: J :: D.int .i64 z :: J :: J :: D.slc q r j :: D.int .i64 h :: D.int .i64 e :: jn 14 []) (zn 25 []))
theorem F155_58_eq (call : CL) (L : Nat) (C : Nat → Nat) (n : Nat) (O : Bool) (J : Nat) (z : List D) (K : Bool) (q : Nat) (j : List D) (r h e : Int) : F155_58 call L C  (n + 1) O J z K q j r h e =
 (ifK (decide (e < h))
 (chkK (decide (0 ≤ e ∧ e < (q : Int)))
 (cellK j (Int.toNat e * 1) fun d =>
 (intK .i64 d fun x =>
 (chkK (decide (0 ≤ e ∧ e < (J : Int)))
 (cellK z (Int.toNat e * 1) fun S =>
 (intK .i64 S fun U =>
 (F155_58 call L C n O J z K q j (IntKind.wrap .i64 (r + IntKind.wrap .i64 (x * U))) h (IntKind.wrap .i64 (e + 1)))))))))
 (some (D.int .i64 r))) := by kernel_rfl
theorem F155_eq (call : CL) (L : Nat) (C : Nat → Nat) (j : Bool) (e : Nat) (h : List D) (r : Bool) (z : Nat) (q : List D) : evFnT (TEf call L C) O0 N155 FinM.canon Tryz.f155 [D.slc j e h, D.slc r z q] =
 (F155_58 call L C L r z q j e h 0 ((e : Int)) 0) := by kernel_rfl
theorem F156_eq (call : CL) (L : Nat) (C : Nat → Nat) (j : Bool) (e : Nat) (h : List D) : evFnT (TEf call L C) O0 N0 FinM.canon Tryz.f156 [D.slc j e h] =
 (chkK (decide (0 ≤ IntKind.wrap .i64 ((e : Int) - 2) ∧ IntKind.wrap .i64 ((e : Int) - 2) < (3 : Int)))
 (cellK ([D.slc true 2 [D.int .i64 35, D.int .i64 15], D.slc true 3 [D.int .i64 30, D.int .i64 20, D.int .i64 10], D.slc true 4 [D.int .i64 25, D.int .i64 20, D.int .i64 15, D.int .i64 10]]) (Int.toNat (IntKind.wrap .i64 ((e : Int) - 2)) * 1) fun d =>
 (slcK d fun f n c =>
 (optK (call 155 [D.slc j e h, D.slc f n c]) fun r =>
 (intK .i64 r fun x =>
 (some (D.int .i64 x))))))) := by kernel_rfl
def N92 : NTab := fun p => match p with
  | 7 => some { keep := [1, 6], kl := [], ren := [(6, 6)] }
  | 31 => some { keep := [1, 6], kl := [], ren := [(6, 6)] }
  | _ => none
noncomputable def F92a_31 (call : CL) (L : Nat) (C : Nat → Nat) (h : Bool) (j : Nat) (e : List D) : Option D :=
 cutAt (TEv call L C) O0 N92 FinM.canon Tryz.f92 [true, true, true, true] []  (C 31) (St.mk (J :: D.slc h j e :: J :: J :: J :: J :: D.loc 6 0 0 :: jn 37 []) (zn 6 ((1, some (Ob.box [D.int .i64 2, D.int .i64 2, D.fn (Fn.func 154) [] []] false)) :: zn 37 [])))
noncomputable def F92a_7 (call : CL) (L : Nat) (C : Nat → Nat) (h : Bool) (j : Nat) (e : List D) : Option D :=
 cutAt (TEv call L C) O0 N92 FinM.canon Tryz.f92 [true, true] []  (C 7) (St.mk (J :: D.slc h j e :: J :: J :: J :: J :: D.loc 6 0 0 :: jn 37 []) (zn 6 ((1, some (Ob.box [D.int .i64 2, D.int .i64 2, D.fn (Fn.func 154) [] []] false)) :: zn 37 [])))
theorem F92a_31_eq (call : CL) (L : Nat) (C : Nat → Nat) (h : Bool) (j : Nat) (e : List D) (hC : ∀ t, C t = 1) : F92a_31 call L C  h j e  =
 (optK (call 95 [D.fn (Fn.func 137) [] [D.snap [D.slc h j e] 0]]) fun r =>
 (slcK r fun f q c =>
 (optK (call 154 [D.slc f q c]) fun z =>
 (intK .i64 z fun K =>
 (optK (call 128 [D.int .i64 (IntKind.wrap .i64 (K + 50)), D.int .i64 100]) fun J =>
 (intK .i64 J fun O =>
 (some (D.tup [D.int .i64 O, D.int .i64 0])))))))) := by
  unfold F92a_31
  rw [hC]
  kernel_rfl
theorem F92a_7_eq (call : CL) (L : Nat) (C : Nat → Nat) (j : Bool) (e : Nat) (h : List D) (hC : ∀ t, C t = 1) : F92a_7 call L C  j e h  =
 (optK (call 122 [D.slc j e h, D.fn (Fn.func 133) [] []]) fun r =>
 (boolK r fun b =>
 (ifK (decide ((e : Int) < 2))
 (optK (call 83 [D.bool true, D.int .i64 2]) fun J =>
 (intK .i64 J fun x =>
 (optK (call 83 [D.bool b, D.int .i64 3]) fun K =>
 (intK .i64 K fun W =>
 (optK (call 81 [D.slc true 2 [D.int .i64 x, D.int .i64 W]]) fun O =>
 (intK .i64 O fun q =>
 (ifK (q != 0)
 (some (D.tup [D.int .i64 0, D.int .i64 q]))
 (F92a_31 call L C j e h))))))))
 (optK (call 83 [D.bool (decide ((e : Int) > 2)), D.int .i64 2]) fun S =>
 (intK .i64 S fun X =>
 (optK (call 83 [D.bool b, D.int .i64 3]) fun U =>
 (intK .i64 U fun Y =>
 (optK (call 81 [D.slc true 2 [D.int .i64 X, D.int .i64 Y]]) fun V =>
 (intK .i64 V fun z =>
 (ifK (z != 0)
 (some (D.tup [D.int .i64 0, D.int .i64 z]))
 (F92a_31 call L C j e h))))))))))) := by
  unfold F92a_7
  rw [hC]
  kernel_rfl
theorem F92a_eq (call : CL) (L : Nat) (C : Nat → Nat) (h : Bool) (j : Nat) (e : List D) : evFnT (TEv call L C) O0 N92 FinM.canon Tryz.f92 [D.str (ByteArray.mk #[102, 111, 117, 114, 115, 111, 109, 101]), D.slc h j e] =
 (F92a_7 call L C h j e) := by kernel_rfl
noncomputable def F92b_31 (call : CL) (L : Nat) (C : Nat → Nat) (h : Bool) (j : Nat) (e : List D) : Option D :=
 cutAt (TEv call L C) O0 N92 FinM.canon Tryz.f92 [true, true, true, true] []  (C 31) (St.mk (J :: D.slc h j e :: J :: J :: J :: J :: D.loc 6 0 0 :: jn 37 []) (zn 6 ((1, some (Ob.box [D.int .i64 2, D.int .i64 4, D.fn (Fn.func 156) [] []] false)) :: zn 37 [])))
noncomputable def F92b_7 (call : CL) (L : Nat) (C : Nat → Nat) (h : Bool) (j : Nat) (e : List D) : Option D :=
 cutAt (TEv call L C) O0 N92 FinM.canon Tryz.f92 [true, true] []  (C 7) (St.mk (J :: D.slc h j e :: J :: J :: J :: J :: D.loc 6 0 0 :: jn 37 []) (zn 6 ((1, some (Ob.box [D.int .i64 2, D.int .i64 4, D.fn (Fn.func 156) [] []] false)) :: zn 37 [])))
theorem F92b_31_eq (call : CL) (L : Nat) (C : Nat → Nat) (h : Bool) (j : Nat) (e : List D) (hC : ∀ t, C t = 1) : F92b_31 call L C  h j e  =
 (optK (call 95 [D.fn (Fn.func 137) [] [D.snap [D.slc h j e] 0]]) fun r =>
 (slcK r fun f q c =>
 (optK (call 156 [D.slc f q c]) fun z =>
 (intK .i64 z fun K =>
 (optK (call 128 [D.int .i64 (IntKind.wrap .i64 (K + 50)), D.int .i64 100]) fun J =>
 (intK .i64 J fun O =>
 (some (D.tup [D.int .i64 O, D.int .i64 0])))))))) := by
  unfold F92b_31
  rw [hC]
  kernel_rfl
theorem F92b_7_eq (call : CL) (L : Nat) (C : Nat → Nat) (j : Bool) (e : Nat) (h : List D) (hC : ∀ t, C t = 1) : F92b_7 call L C  j e h  =
 (optK (call 122 [D.slc j e h, D.fn (Fn.func 133) [] []]) fun r =>
 (boolK r fun b =>
 (ifK (decide ((e : Int) < 2))
 (optK (call 83 [D.bool true, D.int .i64 2]) fun J =>
 (intK .i64 J fun x =>
 (optK (call 83 [D.bool b, D.int .i64 3]) fun K =>
 (intK .i64 K fun W =>
 (optK (call 81 [D.slc true 2 [D.int .i64 x, D.int .i64 W]]) fun O =>
 (intK .i64 O fun q =>
 (ifK (q != 0)
 (some (D.tup [D.int .i64 0, D.int .i64 q]))
 (F92b_31 call L C j e h))))))))
 (optK (call 83 [D.bool (decide ((e : Int) > 4)), D.int .i64 2]) fun S =>
 (intK .i64 S fun X =>
 (optK (call 83 [D.bool b, D.int .i64 3]) fun U =>
 (intK .i64 U fun Y =>
 (optK (call 81 [D.slc true 2 [D.int .i64 X, D.int .i64 Y]]) fun V =>
 (intK .i64 V fun z =>
 (ifK (z != 0)
 (some (D.tup [D.int .i64 0, D.int .i64 z]))
 (F92b_31 call L C j e h))))))))))) := by
  unfold F92b_7
  rw [hC]
  kernel_rfl
theorem F92b_eq (call : CL) (L : Nat) (C : Nat → Nat) (h : Bool) (j : Nat) (e : List D) : evFnT (TEv call L C) O0 N92 FinM.canon Tryz.f92 [D.str (ByteArray.mk #[115, 99, 114, 97, 109, 98, 108, 101]), D.slc h j e] =
 (F92b_7 call L C h j e) := by kernel_rfl
end Go.Pd
end
