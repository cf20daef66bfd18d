/-
  Chapter 5: what functions make of open arguments (printed by the desk's tool, each proved by the kernel): lists of numbers.
  Chapter 5: lists of numbers: their checks, sums, count-back.
  Chapter 5: sums, count-back and ranks of lists of numbers.
  Chapter 5: ranks of lists of numbers.
  Chapter 5: lists that are ranked: their check, short ones.
  Chapter 5, FormatTies: the law.
-/
import Derived.Test.YtanpmgfaieekhaaGreatDoorFmA
import Derived.KernelRfl
import Derived.Test.YtanpmgfaieekhaaGreatDoorFmE
section
namespace Go.Pd
open Go Go.Proofs
set_option maxRecDepth 100000
def N22 : NTab := fun p => match p with
  | 26 => nm [5,6,7] [] []
  | _ => none
noncomputable def F22_26 (call : CL) (L : Nat) (C : Nat → Nat) (n : Nat) (j : Bool) (q : Nat) (i : List D) (e h : Int) : Option D :=
 loopAt (TEf call L C) O0 N22 FinM.canon Tryz.f22 [true, false, true, false] []  n (St.mk (jn 5 (D.slc j q i :: D.int .i64 e :: D.int .i64 h :: jn 7 [])) (zn 15 []))
theorem F22_26_eq (call : CL) (L : Nat) (C : Nat → Nat) (n : Nat) (q : Bool) (j : Nat) (i : List D) (h e : Int) : F22_26 call L C  (n + 1) q j i h e =
 (ifK (decide (e < h))
 (chkK (decide (0 ≤ e ∧ e < (j : Int)))
 (cellK i (Int.toNat e * 1) fun d => intK .i64 d fun x => ifK (x != 0)
 (some (D.int .i64 x))
 (F22_26 call L C n q j i h (IntKind.wrap .i64 (e + 1)))))
 (some (D.int .i64 0))) := by kernel_rfl
theorem F22_eq (call : CL) (L : Nat) (C : Nat → Nat) (i : Bool) (e : Nat) (h : List D) : evFnT (TEf call L C) O0 N22 FinM.canon Tryz.f22 [D.slc i e h] =
 (F22_26 call L C L i e h ((e : Int)) 0) := by kernel_rfl
theorem F24_eq (call : CL) (L : Nat) (C : Nat → Nat) (h : Bool) (e : Int) : evFnT (TEf call L C) O0 N0 FinM.canon Tryz.f24 [D.bool h, D.int .i64 e] =
 (ifK h
 (some (D.int .i64 e))
 (some (D.int .i64 0))) := by kernel_rfl
def N33 : NTab := fun p => match p with
  | 122 => nm [0,5] [] []
  | _ => none
noncomputable def F33_122 (call : CL) (L : Nat) (C : Nat → Nat) (n : Nat) (i : Bool) (j : Nat) (h : List D) (e : Int) : Option D :=
 loopAt (TEf call L C) O0 N33 FinM.canon Tryz.f33 (bt 6 23) []  n (St.mk (D.slc i j h :: J :: J :: J :: J :: D.int .i64 e :: jn 25 []) (zn 31 []))
theorem F33_122_eq (call : CL) (L : Nat) (C : Nat → Nat) (n : Nat) (j : Bool) (h : Nat) (i : List D) (e : Int) : F33_122 call L C  (n + 1) j h i e =
 (ifK (decide (e < (h : Int)))
 (chkK (decide (0 ≤ e ∧ e < (h : Int)))
 (cellK i (Int.toNat e * 1) fun d => intK .i64 d fun x => ifK (decide (x < -9999))
 (some (D.int .i64 3))
 (chkK (decide (0 ≤ e ∧ e < (h : Int)))
 (cellK i (Int.toNat e * 1) fun q => intK .i64 q fun r => ifK (decide (r > 9999))
 (some (D.int .i64 3))
 (F33_122 call L C n j h i (IntKind.wrap .i64 (e + 1)))))))
 (some (D.int .i64 0))) := by kernel_rfl
theorem F33_eq (call : CL) (L : Nat) (C : Nat → Nat) (i : Bool) (e : Nat) (h : List D) (j : Int) : evFnT (TEf call L C) O0 N33 FinM.canon Tryz.f33 [D.slc i e h, D.int .i64 j] =
 (ifK ((e : Int) == 0)
 (some (D.int .i64 12))
 (ifK (decide ((e : Int) > j))
 (some (D.int .i64 5))
 (F33_122 call L C L i e h 0))) := by kernel_rfl
def N46 : NTab := fun p => match p with
  | 7 => nm [0] [] []
  | 58 => nm [18,19,20] [] []
  | _ => none
noncomputable def F46_58 (call : CL) (L : Nat) (C : Nat → Nat) (e : Nat) (q : Bool) (r : Nat) (j : List D) (h i : Int) : Option D :=
 loopAt (TEf call L C) O0 N46 FinM.canon Tryz.f46 (bt 5 11) []  e (St.mk (jn 18 (D.slc q r j :: D.int .i64 h :: D.int .i64 i :: jn 7 [])) (zn 28 []))
noncomputable def F46_7 (call : CL) (L : Nat) (C : Nat → Nat) (h : Bool) (i : Nat) (e : List D) : Option D :=
 cutAt (TEf call L C) O0 N46 FinM.canon Tryz.f46 [true, true] []  (C 7) (St.mk (D.slc h i e :: jn 27 []) (zn 28 []))
theorem F46_58_eq (call : CL) (L : Nat) (C : Nat → Nat) (q : Nat) (r : Bool) (j : Nat) (i : List D) (h e : Int) : F46_58 call L C  (q + 1) r j i h e =
 (ifK (decide (e < h))
 (chkK (decide (0 ≤ e ∧ e < (j : Int)))
 (cellK i (Int.toNat e * 1) fun d => slcK d fun _f z _c => ifK (decide ((z : Int) > 39))
 (some (D.bool false))
 (F46_58 call L C q r j i h (IntKind.wrap .i64 (e + 1)))))
 (some (D.bool true))) := by kernel_rfl
theorem F46_7_eq (call : CL) (L : Nat) (C : Nat → Nat) (i : Bool) (e : Nat) (h : List D) (j : ∀ t, C t = 1) : F46_7 call L C  i e h  =
 (F46_58 call L C L i e h ((e : Int)) 0) := by
  unfold F46_7
  rw [j]
  kernel_rfl
theorem F46_eq (call : CL) (L : Nat) (C : Nat → Nat) (i : Bool) (e : Nat) (h : List D) : evFnT (TEf call L C) O0 N46 FinM.canon Tryz.f46 [D.slc i e h] =
 (ifK (decide ((e : Int) > 8))
 (ifK (decide ((e : Int) ≤ 200))
 (some (D.bool false))
 (ifK (decide ((e : Int) > 203))
 (some (D.bool false))
 (F46_7 call L C i e h)))
 (ifK (decide ((e : Int) > 203))
 (some (D.bool false))
 (F46_7 call L C i e h))) := by kernel_rfl
theorem F47_eq (call : CL) (L : Nat) (C : Nat → Nat) (j : Bool) (e : Nat) (i : List D) (z : Bool) (h : Nat) (q : List D) : evFnT (TEf call L C) O0 N0 FinM.canon Tryz.f47 [D.slc j e i, D.slc z h q] =
 (optK (call 93 [D.slc j e i, D.int .i64 36]) fun r => intK .i64 r fun x => optK (call 93 [D.slc z h q, D.int .i64 36]) fun J => intK .i64 J fun S => optK (call 83 [D.bool ((e : Int) != (h : Int)), D.int .i64 2]) fun K => intK .i64 K fun U => optK (call 81 [D.slc true 3 [D.int .i64 x, D.int .i64 S, D.int .i64 U]]) fun M => intK .i64 M fun B => ifK (B != 0)
 (some (D.tup [D.int .i64 0, D.int .i64 B]))
 (optK (call 103 [D.slc j e i, D.slc z h q]) fun O => intK .i64 O fun V => some (D.tup [D.int .i64 V, D.int .i64 0]))) := by kernel_rfl
def N48 : NTab := fun p => match p with
  | 58 => nm [0,21,22,23] [] []
  | _ => none
noncomputable def F48_58 (call : CL) (L : Nat) (C : Nat → Nat) (n : Nat) (h : Bool) (i : Nat) (e : List D) (j q : Int) : Option D :=
 loopAt (TEf call L C) O0 N48 FinM.canon Tryz.f48 (bt 5 11) []  n (St.mk (D.slc h i e :: jn 20 (D.slc h i e :: D.int .i64 j :: D.int .i64 q :: jn 21 [])) (zn 45 []))
theorem F48_58_eq (call : CL) (L : Nat) (C : Nat → Nat) (n : Nat) (q : Bool) (i : Nat) (h : List D) (j e : Int) : F48_58 call L C  (n + 1) q i h j e =
 (ifK (decide (e < j))
 (chkK (decide (0 ≤ e ∧ e < (i : Int)))
 (cellK h (Int.toNat e * 1) fun d => slcK d fun f r c => optK (call 93 [D.slc f r c, D.int .i64 36]) fun S => intK .i64 S fun X => chkK (decide ((0 : Int) ≤ (0 : Int) ∧ (0 : Int) < (i : Int)))
 (cellK h 0 fun J => slcK J fun _f_1 M _c_1 => optK (call 83 [D.bool ((r : Int) != (M : Int)), D.int .i64 2]) fun U => intK .i64 U fun Y => optK (call 81 [D.slc true 2 [D.int .i64 X, D.int .i64 Y]]) fun V => intK .i64 V fun z => ifK (z != 0)
 (some (D.tup [D.slc true 0 [], D.int .i64 z]))
 (F48_58 call L C n q i h j (IntKind.wrap .i64 (e + 1))))))
 (optK (call 104 [D.slc q i h]) fun W => slcK W fun K O B => some (D.tup [D.slc K O B, D.int .i64 0]))) := by kernel_rfl
theorem F48_eq (call : CL) (L : Nat) (C : Nat → Nat) (i : Bool) (e : Nat) (h : List D) : evFnT (TEf call L C) O0 N48 FinM.canon Tryz.f48 [D.slc i e h] =
 (optK (call 83 [D.bool ((e : Int) == 0), D.int .i64 12]) fun r => intK .i64 r fun x => optK (call 83 [D.bool (decide ((e : Int) > 200)), D.int .i64 5]) fun q => intK .i64 q fun B => optK (call 81 [D.slc true 2 [D.int .i64 x, D.int .i64 B]]) fun z => intK .i64 z fun j => ifK (j != 0)
 (some (D.tup [D.slc true 0 [], D.int .i64 j]))
 (F48_58 call L C L i e h ((e : Int)) 0)) := by kernel_rfl
def N49 : NTab := fun p => match p with
  | 58 => nm [0,1,5,6] [] []
  | _ => none
noncomputable def F49_58 (call : CL) (L : Nat) (C : Nat → Nat) (n : Nat) (h : Bool) (i : Nat) (e : List D) (q : Bool) (r : Nat) (j z : List D) (B : Int) : Option D :=
 loopAt (TEf call L C) O0 N49 FinM.canon Tryz.f49 (bt 5 11) []  n (St.mk (D.slc h i e :: D.slc q r j :: J :: J :: J :: D.slc true 5 z :: D.int .i64 B :: jn 36 []) (zn 43 []))
theorem F49_58_eq (call : CL) (L : Nat) (C : Nat → Nat) (n : Nat) (q : Bool) (i : Nat) (j : List D) (B : Bool) (J : Nat) (z h : List D) (e : Int) : F49_58 call L C  (n + 1) q i j B J z h e =
 (ifK (decide (e < (5 : Int)))
 (chkK (decide (0 ≤ e ∧ e < (5 : Int)))
 (cellK h (Int.toNat e * 1) fun d => intK .i64 d fun x => ifK (decide (x > (i : Int)))
 (F49_58 call L C n q i j B J z h (IntKind.wrap .i64 (e + 1)))
 (chkK (decide (0 ≤ e ∧ e < (5 : Int)))
 (cellK h (Int.toNat e * 1) fun O => intK .i64 O fun V => optK (call 100 [D.slc q i j, D.int .i64 V]) fun r => intK .i64 r fun K => chkK (decide (0 ≤ e ∧ e < (5 : Int)))
 (cellK h (Int.toNat e * 1) fun S => intK .i64 S fun W => optK (call 100 [D.slc B J z, D.int .i64 W]) fun U => intK .i64 U fun M => ifK (decide (K < M))
 (some (D.int .i64 (-1)))
 (ifK (decide (K > M))
 (some (D.int .i64 1))
 (F49_58 call L C n q i j B J z h (IntKind.wrap .i64 (e + 1)))))))))
 (some (D.int .i64 0))) := by kernel_rfl
theorem F49_eq (call : CL) (L : Nat) (C : Nat → Nat) (i : Bool) (e : Nat) (h : List D) (q : Bool) (r : Nat) (j : List D) : evFnT (TEf call L C) O0 N49 FinM.canon Tryz.f49 [D.slc i e h, D.slc q r j] =
 (F49_58 call L C L i e h q r j ([D.int .i64 (e : Int), D.int .i64 9, D.int .i64 6, D.int .i64 3, D.int .i64 1]) 0) := by kernel_rfl
def N50 : NTab := fun p => match p with
  | 122 => nm [0,3] [] []
  | _ => none
noncomputable def F50_122 (call : CL) (L : Nat) (C : Nat → Nat) (n : Nat) (i : Bool) (j : Nat) (h : List D) (e : Int) : Option D :=
 loopAt (TEf call L C) O0 N50 FinM.canon Tryz.f50 (bt 6 23) []  n (St.mk (D.slc i j h :: J :: J :: D.int .i64 e :: jn 35 []) (zn 39 []))
theorem F50_122_eq (call : CL) (L : Nat) (C : Nat → Nat) (n : Nat) (j : Bool) (h : Nat) (i : List D) (e : Int) : F50_122 call L C  (n + 1) j h i e =
 (ifK (decide (e < (h : Int)))
 (chkK (decide (0 ≤ e ∧ e < (h : Int)))
 (cellK i (Int.toNat e * 1) fun d => slcK d fun f B c => optK (call 33 [D.slc f B c, D.int .i64 36]) fun r => intK .i64 r fun x => ifK (x == 0)
 (chkK (decide (0 ≤ e ∧ e < (h : Int)))
 (cellK i (Int.toNat e * 1) fun q => slcK q fun _f_1 J _c_1 => chkK (decide ((0 : Int) ≤ (0 : Int) ∧ (0 : Int) < (h : Int)))
 (cellK i 0 fun z => slcK z fun _f_2 K _c_2 => ifK ((J : Int) != (K : Int))
 (some (D.int .i64 2))
 (ifK (x != 0)
 (some (D.int .i64 x))
 (F50_122 call L C n j h i (IntKind.wrap .i64 (e + 1)))))))
 (ifK (x != 0)
 (some (D.int .i64 x))
 (F50_122 call L C n j h i (IntKind.wrap .i64 (e + 1))))))
 (some (D.int .i64 0))) := by kernel_rfl
theorem F50_eq (call : CL) (L : Nat) (C : Nat → Nat) (i : Bool) (e : Nat) (h : List D) : evFnT (TEf call L C) O0 N50 FinM.canon Tryz.f50 [D.slc i e h] =
 (ifK ((e : Int) == 0)
 (some (D.int .i64 12))
 (ifK (decide ((e : Int) > 200))
 (some (D.int .i64 5))
 (F50_122 call L C L i e h 0))) := by kernel_rfl
def N51 : NTab := fun p => match p with
  | 58 => nm [0,3,4] [] [34]
  | 14922 => nm [0,3,4,5,6] [] [34]
  | _ => none
noncomputable def F51_14922 (call : CL) (L : Nat) (C : Nat → Nat) (n h : Nat) (r : Bool) (z : Nat) (q : List D) (i : Int) (e : Ow) (B j : Int) : Option D :=
 loopAt (TEf call L C) O0 N51 FinM.canon Tryz.f51 (bt 13 2635) [n]  h (St.mk (D.slc r z q :: J :: J :: ownD 34 e :: D.int .i64 i :: D.int .i64 B :: D.int .i64 j :: jn 29 []) (zn 34 [ownO 3 1 e, Z]))
noncomputable def F51_58 (call : CL) (L : Nat) (C : Nat → Nat) (n : Nat) (j : Bool) (q : Nat) (i : List D) (e : Ow) (h : Int) : Option D :=
 loopAt (TEf call L C) O0 N51 FinM.canon Tryz.f51 (bt 5 11) []  n (St.mk (D.slc j q i :: J :: J :: ownD 34 e :: D.int .i64 h :: jn 31 []) (zn 34 [ownO 3 1 e, Z]))
theorem F51_14922_eqn (call : CL) (L : Nat) (C : Nat → Nat) (n B : Nat) (q : Bool) (i : Nat) (j : List D) (e z h : Int) : F51_14922 call L C n (B + 1) q i j e (Ow.nil) z h =
 (ifK (decide (h < (i : Int)))
 (chkK (decide (0 ≤ h ∧ h < (i : Int)))
 (cellK j (Int.toNat h * 1) fun d => slcK d fun f O c => chkK (decide (0 ≤ e ∧ e < (i : Int)))
 (cellK j (Int.toNat e * 1) fun K => slcK K fun M S J => optK (call 49 [D.slc f O c, D.slc M S J]) fun r => intK .i64 r fun x => ifK (decide (x < 0))
 (F51_14922 call L C n B q i j e (Ow.nil) (IntKind.wrap .i64 (z + 1)) (IntKind.wrap .i64 (h + 1)))
 (F51_14922 call L C n B q i j e (Ow.nil) z (IntKind.wrap .i64 (h + 1))))))
 (F51_58 call L C n q i j (Ow.own 1 [D.int .i64 z]) (IntKind.wrap .i64 (e + 1)))) := by kernel_rfl
theorem F51_14922_eqo (call : CL) (L : Nat) (C : Nat → Nat) (n J : Nat) (r : Bool) (i : Nat) (j : List D) (e : Int) (q : Nat) (B : List D) (z h : Int) : F51_14922 call L C n (J + 1) r i j e (Ow.own q B) z h =
 (ifK (decide (h < (i : Int)))
 (chkK (decide (0 ≤ h ∧ h < (i : Int)))
 (cellK j (Int.toNat h * 1) fun O => slcK O fun U W K => chkK (decide (0 ≤ e ∧ e < (i : Int)))
 (cellK j (Int.toNat e * 1) fun S => slcK S fun V X M => optK (call 49 [D.slc U W K, D.slc V X M]) fun Y => intK .i64 Y fun Z => ifK (decide (Z < 0))
 (F51_14922 call L C n J r i j e (Ow.own q B) (IntKind.wrap .i64 (z + 1)) (IntKind.wrap .i64 (h + 1)))
 (F51_14922 call L C n J r i j e (Ow.own q B) z (IntKind.wrap .i64 (h + 1))))))
 (chkK (decide ((q + 1) * 8 ≤ limit ∧ q + 1 ≤ 9223372036854775807))
 (F51_58 call L C n r i j (Ow.own (q + 1) (B ++ [D.int .i64 z])) (IntKind.wrap .i64 (e + 1))))) := by kernel_rfl
theorem F51_58_eqn (call : CL) (L : Nat) (C : Nat → Nat) (n : Nat) (j : Bool) (h : Nat) (i : List D) (e : Int) : F51_58 call L C  (n + 1) j h i (Ow.nil) e =
 (ifK (decide (e < (h : Int)))
 (F51_14922 call L C n L j h i e (Ow.nil) 1 0)
 (some (D.slc true 0 []))) := by kernel_rfl
theorem F51_58_eqo (call : CL) (L : Nat) (C : Nat → Nat) (n : Nat) (r : Bool) (h : Nat) (q : List D) (j : Nat) (i : List D) (e : Int) : F51_58 call L C  (n + 1) r h q (Ow.own j i) e =
 (ifK (decide (e < (h : Int)))
 (F51_14922 call L C n L r h q e (Ow.own j i) 1 0)
 (some (D.slc false j i))) := by kernel_rfl
theorem F51_eq (call : CL) (L : Nat) (C : Nat → Nat) (h : Bool) (i : Nat) (e : List D) : evFnT (TEf call L C) O0 N51 FinM.canon Tryz.f51 [D.slc h i e] =
 (F51_58 call L C L h i e (Ow.nil) 0) := by kernel_rfl
theorem F93_eq (call : CL) (L : Nat) (C : Nat → Nat) (i : Bool) (e : Nat) (h : List D) (j : Int) : evFnT (TEf call L C) O0 N0 FinM.canon Tryz.f93 [D.slc i e h, D.int .i64 j] =
 (optK (call 122 [D.slc i e h, D.fn (Fn.func 134) [] []]) fun r => boolK r fun b => optK (call 83 [D.bool ((e : Int) == 0), D.int .i64 12]) fun q => intK .i64 q fun x => optK (call 83 [D.bool (decide ((e : Int) > j)), D.int .i64 5]) fun z => intK .i64 z fun K => optK (call 83 [D.bool b, D.int .i64 3]) fun B => intK .i64 B fun M => optK (call 81 [D.slc true 3 [D.int .i64 x, D.int .i64 K, D.int .i64 M]]) fun J => intK .i64 J fun O => some (D.int .i64 O)) := by kernel_rfl
theorem F97_eq (call : CL) (L : Nat) (C : Nat → Nat) (e : Int) : evFnT (TEf call L C) O0 N0 FinM.canon Tryz.f97 [D.int .i64 e] =
 (some (D.int .i64 e)) := by kernel_rfl
def N100 : NTab := fun p => match p with
  | 58 => nm [0,5,6] [] []
  | _ => none
noncomputable def F100_58 (call : CL) (L : Nat) (C : Nat → Nat) (n : Nat) (i : Bool) (j : Nat) (h : List D) (q e : Int) : Option D :=
 loopAt (TEf call L C) O0 N100 FinM.canon Tryz.f100 (bt 5 11) []  n (St.mk (D.slc i j h :: J :: J :: J :: J :: D.int .i64 q :: D.int .i64 e :: jn 17 []) (zn 24 []))
theorem F100_58_eq (call : CL) (L : Nat) (C : Nat → Nat) (n : Nat) (q : Bool) (h : Nat) (i : List D) (j e : Int) : F100_58 call L C  (n + 1) q h i j e =
 (ifK (decide (e < (h : Int)))
 (chkK (decide (0 ≤ e ∧ e < (h : Int)))
 (cellK i (Int.toNat e * 1) fun d => intK .i64 d fun x => F100_58 call L C n q h i (IntKind.wrap .i64 (j + x)) (IntKind.wrap .i64 (e + 1))))
 (some (D.int .i64 j))) := by kernel_rfl
theorem F100_eq (call : CL) (L : Nat) (C : Nat → Nat) (j : Bool) (e : Nat) (i : List D) (h : Int) : evFnT (TEf call L C) O0 N100 FinM.canon Tryz.f100 [D.slc j e i, D.int .i64 h] =
 (F100_58 call L C L j e i 0 (IntKind.wrap .i64 ((e : Int) - h))) := by kernel_rfl
def N103 : NTab := fun p => match p with
  | 26 => nm [0,1,11,12,13] [] []
  | _ => none
noncomputable def F103_26 (call : CL) (L : Nat) (C : Nat → Nat) (n : Nat) (j : Bool) (q : Nat) (i : List D) (z : Bool) (B : Nat) (r e : List D) (h : Int) : Option D :=
 loopAt (TEf call L C) O0 N103 FinM.canon Tryz.f103 [true, false, true, false] []  n (St.mk (D.slc j q i :: D.slc z B r :: jn 9 (D.slc true 5 e :: D.int .i64 5 :: D.int .i64 h :: jn 22 [])) (zn 36 []))
theorem F103_26_eq (call : CL) (L : Nat) (C : Nat → Nat) (n : Nat) (z : Bool) (e : Nat) (q : List D) (J : Bool) (h : Nat) (B j : List D) (i : Int) : F103_26 call L C  (n + 1) z e q J h B j i =
 (ifK (decide (i < 5))
 (chkK (decide (0 ≤ i ∧ i < (5 : Int)))
 (cellK j (Int.toNat i * 1) fun d => intK .i64 d fun x => ifK (decide (IntKind.wrap .i64 ((e : Int) - x) ≥ 0))
 (chkK (decide (0 ≤ IntKind.wrap .i64 ((e : Int) - x) ∧ IntKind.wrap .i64 ((e : Int) - x) ≤ (e : Int) ∧ (e : Int) ≤ (e : Int)))
 (optK (call 94 [D.slc (z && decide ((e : Int) = (e : Int))) (Int.toNat ((e : Int) - IntKind.wrap .i64 ((e : Int) - x))) (List.take (Int.toNat ((e : Int) - IntKind.wrap .i64 ((e : Int) - x)) * 1) (List.drop (Int.toNat (IntKind.wrap .i64 ((e : Int) - x)) * 1) q)), D.fn (Fn.func 97) [] []]) fun r => intK .i64 r fun S => chkK (decide (0 ≤ IntKind.wrap .i64 ((e : Int) - x) ∧ IntKind.wrap .i64 ((e : Int) - x) ≤ (h : Int) ∧ (h : Int) ≤ (h : Int)))
 (optK (call 94 [D.slc (J && decide ((h : Int) = (h : Int))) (Int.toNat ((h : Int) - IntKind.wrap .i64 ((e : Int) - x))) (List.take (Int.toNat ((h : Int) - IntKind.wrap .i64 ((e : Int) - x)) * 1) (List.drop (Int.toNat (IntKind.wrap .i64 ((e : Int) - x)) * 1) B)), D.fn (Fn.func 97) [] []]) fun M => intK .i64 M fun U => optK (call 113 [D.int .i64 S, D.int .i64 U]) fun O => intK .i64 O fun K => ifK (K != 0)
 (some (D.int .i64 K))
 (F103_26 call L C n z e q J h B j (IntKind.wrap .i64 (i + 1))))))
 (F103_26 call L C n z e q J h B j (IntKind.wrap .i64 (i + 1)))))
 (some (D.int .i64 0))) := by kernel_rfl
theorem F103_eq (call : CL) (L : Nat) (C : Nat → Nat) (i : Bool) (e : Nat) (h : List D) (q : Bool) (r : Nat) (j : List D) : evFnT (TEf call L C) O0 N103 FinM.canon Tryz.f103 [D.slc i e h, D.slc q r j] =
 (F103_26 call L C L i e h q r j ([D.int .i64 (e : Int), D.int .i64 9, D.int .i64 6, D.int .i64 3, D.int .i64 1]) 0) := by kernel_rfl
def N104 : NTab := fun p => match p with
  | 58 => nm [0,3,9,10,11] [] [31]
  | 59802 => nm [0,3,5,6,9,10,11,15,16,17] [] [31]
  | _ => none
noncomputable def F104_59802 (call : CL) (L : Nat) (C : Nat → Nat) (n q : Nat) (h : Bool) (i : Nat) (e : List D) (r z : Int) (j : Ow) (O : Bool) (S : Nat) (M : List D) (U B K : Int) : Option D :=
 loopAt (TEf call L C) O0 N104 FinM.canon Tryz.f104 (bt 15 11467) [n]  q (St.mk (D.slc h i e :: J :: J :: ownD 31 j :: J :: D.slc O S M :: D.int .i64 U :: J :: J :: D.slc h i e :: D.int .i64 r :: D.int .i64 z :: J :: J :: J :: D.slc h i e :: D.int .i64 B :: D.int .i64 K :: jn 16 []) (zn 31 [ownO 3 1 j, Z, Z]))
noncomputable def F104_58 (call : CL) (L : Nat) (C : Nat → Nat) (n : Nat) (h : Bool) (i : Nat) (e : List D) (j : Ow) (q r : Int) : Option D :=
 loopAt (TEf call L C) O0 N104 FinM.canon Tryz.f104 (bt 5 11) []  n (St.mk (D.slc h i e :: J :: J :: ownD 31 j :: jn 5 (D.slc h i e :: D.int .i64 q :: D.int .i64 r :: jn 22 [])) (zn 31 [ownO 3 1 j, Z, Z]))
theorem F104_59802_eqn (call : CL) (L : Nat) (C : Nat → Nat) (n S : Nat) (M : Bool) (i : Nat) (h : List D) (j q : Int) (J : Bool) (K : Nat) (B : List D) (O z e : Int) : F104_59802 call L C n (S + 1) M i h j q (Ow.nil) J K B O z e =
 (ifK (decide (e < z))
 (chkK (decide (0 ≤ e ∧ e < (i : Int)))
 (cellK h (Int.toNat e * 1) fun V => slcK V fun W X U => optK (call 103 [D.slc W X U, D.slc J K B]) fun r => intK .i64 r fun x => ifK (decide (x < 0))
 (F104_59802 call L C n S M i h j q (Ow.nil) J K B (IntKind.wrap .i64 (O + 1)) z (IntKind.wrap .i64 (e + 1)))
 (F104_59802 call L C n S M i h j q (Ow.nil) J K B O z (IntKind.wrap .i64 (e + 1)))))
 (F104_58 call L C n M i h (Ow.own 1 [D.int .i64 O]) j (IntKind.wrap .i64 (q + 1)))) := by kernel_rfl
theorem F104_59802_eqo (call : CL) (L : Nat) (C : Nat → Nat) (n U : Nat) (M : Bool) (j : Nat) (i : List D) (q r : Int) (h : Nat) (S : List D) (J : Bool) (K : Nat) (B : List D) (O z e : Int) : F104_59802 call L C n (U + 1) M j i q r (Ow.own h S) J K B O z e =
 (ifK (decide (e < z))
 (chkK (decide (0 ≤ e ∧ e < (j : Int)))
 (cellK i (Int.toNat e * 1) fun W => slcK W fun X Y V => optK (call 103 [D.slc X Y V, D.slc J K B]) fun Z => intK .i64 Z fun a0 => ifK (decide (a0 < 0))
 (F104_59802 call L C n U M j i q r (Ow.own h S) J K B (IntKind.wrap .i64 (O + 1)) z (IntKind.wrap .i64 (e + 1)))
 (F104_59802 call L C n U M j i q r (Ow.own h S) J K B O z (IntKind.wrap .i64 (e + 1)))))
 (chkK (decide ((h + 1) * 8 ≤ limit ∧ h + 1 ≤ 9223372036854775807))
 (F104_58 call L C n M j i (Ow.own (h + 1) (S ++ [D.int .i64 O])) q (IntKind.wrap .i64 (r + 1))))) := by kernel_rfl
theorem F104_58_eqn (call : CL) (L : Nat) (C : Nat → Nat) (n : Nat) (q : Bool) (h : Nat) (j : List D) (i e : Int) : F104_58 call L C  (n + 1) q h j (Ow.nil) i e =
 (ifK (decide (e < i))
 (chkK (decide (0 ≤ e ∧ e < (h : Int)))
 (cellK j (Int.toNat e * 1) fun d => slcK d fun f r c => F104_59802 call L C n L q h j i e (Ow.nil) f r c 1 ((h : Int)) 0))
 (some (D.slc true 0 []))) := by kernel_rfl
theorem F104_58_eqo (call : CL) (L : Nat) (C : Nat → Nat) (n : Nat) (z : Bool) (h : Nat) (j : List D) (r : Nat) (q : List D) (i e : Int) : F104_58 call L C  (n + 1) z h j (Ow.own r q) i e =
 (ifK (decide (e < i))
 (chkK (decide (0 ≤ e ∧ e < (h : Int)))
 (cellK j (Int.toNat e * 1) fun J => slcK J fun K M B => F104_59802 call L C n L z h j i e (Ow.own r q) K M B 1 ((h : Int)) 0))
 (some (D.slc false r q))) := by kernel_rfl
theorem F104_eq (call : CL) (L : Nat) (C : Nat → Nat) (i : Bool) (e : Nat) (h : List D) : evFnT (TEf call L C) O0 N104 FinM.canon Tryz.f104 [D.slc i e h] =
 (F104_58 call L C L i e h (Ow.nil) ((e : Int)) 0) := by kernel_rfl
theorem F134_eq (call : CL) (L : Nat) (C : Nat → Nat) (e : Int) : evFnT (TEf call L C) O0 N0 FinM.canon Tryz.f134 [D.int .i64 e] =
 (optK (call 84 [D.int .i64 e, D.int .i64 9999]) fun r => boolK r fun b => some (D.bool b)) := by kernel_rfl
def N94 : NTab := fun p => match p with
  | 58 => nm [1,5,8,9,10] [] []
  | _ => none
noncomputable def F94_58 (call : CL) (L : Nat) (C : Nat → Nat) (n : Nat) (j : Bool) (q : Nat) (i : List D) (r h e : Int) : Option D :=
 loopAt (TEf call L C) O0 N94 FinM.canon Tryz.f94 (bt 5 11) []  n (St.mk (J :: D.fn (Fn.func 97) [] [] :: J :: J :: J :: D.int .i64 r :: J :: J :: D.slc j q i :: D.int .i64 h :: D.int .i64 e :: jn 10 []) (zn 21 []))
theorem F94_58_eq (call : CL) (L : Nat) (C : Nat → Nat) (n : Nat) (z : Bool) (j : Nat) (i : List D) (q h e : Int) : F94_58 call L C  (n + 1) z j i q h e =
 (ifK (decide (e < h))
 (chkK (decide (0 ≤ e ∧ e < (j : Int)))
 (cellK i (Int.toNat e * 1) fun d => intK .i64 d fun x => optK (call 97 [D.int .i64 x]) fun r => intK .i64 r fun B => F94_58 call L C n z j i (IntKind.wrap .i64 (q + B)) h (IntKind.wrap .i64 (e + 1))))
 (some (D.int .i64 q))) := by kernel_rfl
theorem F94_eq (call : CL) (L : Nat) (C : Nat → Nat) (i : Bool) (e : Nat) (h : List D) : evFnT (TEf call L C) O0 N94 FinM.canon Tryz.f94 [D.slc i e h, D.fn (Fn.func 97) [] []] =
 (F94_58 call L C L i e h 0 ((e : Int)) 0) := by kernel_rfl
theorem F122_eq (call : CL) (L : Nat) (C : Nat → Nat) (h : Bool) (i : Nat) (e : List D) : evFnT (TEf call L C) O0 N0 FinM.canon Tryz.f122 [D.slc h i e, D.fn (Fn.func 134) [] []] =
 (optK (call 150 [D.slc h i e, D.fn (Fn.func 134) [] []]) fun r => intK .i64 r fun x => some (D.bool (decide (x ≥ 0)))) := by kernel_rfl
def N150 : NTab := fun p => match p with
  | 26 => nm [0,1,7,8] [] []
  | _ => none
noncomputable def F150_26 (call : CL) (L : Nat) (C : Nat → Nat) (n : Nat) (j : Bool) (q : Nat) (i : List D) (e h : Int) : Option D :=
 loopAt (TEf call L C) O0 N150 FinM.canon Tryz.f150 [true, false, true, false] []  n (St.mk (D.slc j q i :: D.fn (Fn.func 134) [] [] :: jn 5 (D.int .i64 e :: D.int .i64 h :: jn 10 [])) (zn 19 []))
theorem F150_26_eq (call : CL) (L : Nat) (C : Nat → Nat) (n : Nat) (q : Bool) (j : Nat) (i : List D) (h e : Int) : F150_26 call L C  (n + 1) q j i h e =
 (ifK (decide (e < h))
 (chkK (decide (0 ≤ e ∧ e < (j : Int)))
 (cellK i (Int.toNat e * 1) fun d => intK .i64 d fun x => optK (call 134 [D.int .i64 x]) fun r => boolK r fun b => ifK b
 (some (D.int .i64 e))
 (F150_26 call L C n q j i h (IntKind.wrap .i64 (e + 1)))))
 (some (D.int .i64 (-1)))) := by kernel_rfl
theorem F150_eq (call : CL) (L : Nat) (C : Nat → Nat) (i : Bool) (e : Nat) (h : List D) : evFnT (TEf call L C) O0 N150 FinM.canon Tryz.f150 [D.slc i e h, D.fn (Fn.func 134) [] []] =
 (F150_26 call L C L i e h ((e : Int)) 0) := by kernel_rfl
end Go.Pd
end
section
namespace Go.Pd
open Go Go.Proofs Go.RowKit
def numGo : List Int → Int
  | [] => 0
  | x :: r => ifK (decide (x < -9999)) 3 (ifK (decide (x > 9999)) 3 (numGo r))
def numErr (l : List Int) (most : Int) : Int := ifK ((l.length : Int) == 0) 12 (ifK (decide ((l.length : Int) > most)) 5 (numGo l))
def sumL : List Int → Int
  | [] => 0
  | x :: r => x + sumL r
def BndL (l : List Int) : Prop := ∀ x ∈ l, -9999 ≤ x ∧ x ≤ 9999
theorem numGo_zero : ∀ {l : List Int}, numGo l = 0 → BndL l
  | [], _ => fun x hx => by cases hx
  | x :: r, h => by
    unfold numGo at h
    cases h1 : decide (x < -9999) with
    | true => rw [h1, ifK_true] at h; cases h
    | false =>
      rw [h1, ifK_false] at h
      cases h2 : decide (x > 9999) with
      | true => rw [h2, ifK_true] at h; cases h
      | false =>
        rw [h2, ifK_false] at h
        simp at h1 h2
        intro y hy
        rcases List.mem_cons.1 hy with rfl | hy
        · omega
        · exact numGo_zero h y hy
theorem numErr_zero {l : List Int} {most : Int} (h : numErr l most = 0) : 0 < l.length ∧ (l.length : Int) ≤ most ∧ BndL l := by
  unfold numErr at h
  cases h1 : ((l.length : Int) == 0) with
  | true => rw [h1, ifK_true] at h; cases h
  | false =>
    rw [h1, ifK_false] at h
    cases h2 : decide ((l.length : Int) > most) with
    | true => rw [h2, ifK_true] at h; cases h
    | false =>
      rw [h2, ifK_false] at h
      have h1' : ¬ (l.length : Int) = 0 := by simpa using h1
      simp only [decide_eq_false_iff_not] at h2
      exact ⟨by omega, by omega, numGo_zero h⟩
theorem go33 {call : CL} {f : Bool} : ∀ (r pre : List Int) (fuel : Nat), (pre ++ r).length ≤ 4611686018427387904 → r.length < fuel → F33_122 call LL C1 fuel f (pre ++ r).length (ints (pre ++ r)) (pre.length : Int) = some (.int .i64 (numGo r))
  | [], pre, fuel + 1, _, _ => by rw [F33_122_eq, end_pre, ifK_false]; rfl
  | x :: r, pre, fuel + 1, hB, hf => by
    have ih := go33 (call := call) (f := f) r (pre ++ [x]) fuel (by rw [app1]; exact hB) (by simp at hf; omega)
    rw [app1] at ih
    rw [F33_122_eq, lt_pre, ifK_true, in_pre, chkK_true, cell_ints, intK_int, chkK_true, cell_ints, intK_int, step_pre _ _ _ hB, ih, show numGo (x :: r) = ifK (decide (x < -9999)) 3 (ifK (decide (x > 9999)) 3 (numGo r)) from rfl]
    cases decide (x < -9999) <;> cases decide (x > 9999) <;> rfl
theorem ok33 {f : Bool} (l : List Int) {most : Int} (hm : most ≤ 1000) : OK5 33 [.slc f l.length (ints l), .int .i64 most] (.int .i64 (numErr l most)) := by
  refine fnT none_ok Tryz.func33 (ord := O0) (N := N33) (by kernel_rfl) ((F33_eq _ _ _ _ _ _ _).trans ?_)
  unfold numErr
  cases (l.length : Int) == 0 with
  | true => rfl
  | false =>
    rw [ifK_false, ifK_false]
    cases h2 : decide ((l.length : Int) > most) with
    | true => rfl
    | false =>
      rw [ifK_false, ifK_false]
      simp only [decide_eq_false_iff_not] at h2
      exact go33 (f := f) l [] LL (by simp; omega) (by unfold LL; omega)
def outM (x most : Int) : Bool := decide (x < -most) || decide (x > most)
theorem ok84m (x most : Int) (h : 0 ≤ most ∧ most ≤ 1000000) : OK5 84 [.int .i64 x, .int .i64 most] (.bool (outM x most)) := by
  refine fnT none_ok Tryz.func84 (ord := O0) (N := N0) (by kernel_rfl) ((F84_eq _ _ _ x most).trans ?_)
  rw [wrap_id (by omega)]
  unfold outM
  rw [show (0 : Int) - most = -most by omega]
  cases decide (x < -most) <;> rfl
def b84 : FuncId → List D → Option D := fun k ds => match k, ds with
  | 84, [.int .i64 x, .int .i64 9999] => some (.bool (outM x 9999))
  | _, _ => none
theorem b84_ok : CallsT b84 := by
  intro k ds r h
  unfold b84 at h
  split at h
  · cases h; exact ok84m _ _ (by omega)
  · cases h
theorem ok134 (x : Int) : OK5 134 [.int .i64 x] (.bool (outM x 9999)) :=
  fnT b84_ok Tryz.func134 (ord := O0) (N := N0) (by kernel_rfl) ((F134_eq _ _ _ x).trans rfl)
def b134 : FuncId → List D → Option D := fun k ds => match k, ds with
  | 134, [.int .i64 x] => some (.bool (outM x 9999))
  | _, _ => none
theorem b134_ok : CallsT b134 := by
  intro k ds r h
  unfold b134 at h
  split at h
  · cases h; exact ok134 _
  · cases h
def farGo : List Int → Int → Int
  | [], _ => -1
  | x :: r, i => ifK (outM x 9999) i (farGo r (i + 1))
theorem go150 {f : Bool} : ∀ (r pre : List Int) (fuel : Nat), (pre ++ r).length ≤ 4611686018427387904 → r.length < fuel → F150_26 (callOf b134) LL C1 fuel f (pre ++ r).length (ints (pre ++ r)) (pre ++ r).length (pre.length : Int) = some (.int .i64 (farGo r pre.length))
  | [], pre, fuel + 1, _, _ => by rw [F150_26_eq, end_pre, ifK_false]; rfl
  | x :: r, pre, fuel + 1, hB, hf => by
    have ih := go150 (f := f) r (pre ++ [x]) fuel (by rw [app1]; exact hB) (by simp at hf; omega)
    rw [app1] at ih
    have hc : ∀ x, callOf b134 134 [.int .i64 x] = some (.bool (outM x 9999)) := fun _ => rfl
    rw [F150_26_eq, lt_pre, ifK_true, in_pre, chkK_true, cell_ints, intK_int, hc, optK_some, boolK_bool, step_pre _ _ _ hB, ih]
    rw [show ((pre ++ [x]).length : Int) = (pre.length : Int) + 1 by simp, show farGo (x :: r) pre.length = ifK (outM x 9999) (pre.length : Int) (farGo r ((pre.length : Int) + 1)) from rfl]
    cases outM x 9999 <;> rfl
theorem ok150 {f : Bool} (l : List Int) (hl : l.length < 4611686018427387904) : OK5 150 [.slc f l.length (ints l), .fn (.func 134) [] []] (.int .i64 (farGo l 0)) := by
  refine fnT b134_ok Tryz.func150 (ord := O0) (N := N150) (by kernel_rfl) ((F150_eq _ _ _ _ _ _).trans ?_)
  exact go150 (f := f) l [] LL (by simp; omega) (by unfold LL; omega)
def farB (l : List Int) : Bool := decide (farGo l 0 ≥ 0)
theorem ok122 {f : Bool} (l : List Int) (hl : l.length < 4611686018427387904) : OK5 122 [.slc f l.length (ints l), .fn (.func 134) [] []] (.bool (farB l)) := by
  have hb : CallsT (tabC [(150, [.slc f l.length (ints l), .fn (.func 134) [] []], .int .i64 (farGo l 0))]) := tabC_ok fun e he => by
    simp only [List.mem_singleton] at he
    subst he
    exact ok150 l hl
  refine fnT hb Tryz.func122 (ord := O0) (N := N0) (by kernel_rfl) ((F122_eq _ _ _ _ _ _).trans ?_)
  rw [callOf_tab rfl, tabC_hit, optK_some, intK_int]
  rfl
theorem farGo_num : ∀ (l : List Int) (i : Int), 0 ≤ i → ifK (decide (farGo l i ≥ 0)) 3 0 = numGo l
  | [], i, _ => rfl
  | x :: r, i, hi => by
    unfold farGo numGo
    have ih := farGo_num r (i + 1) (by omega)
    unfold outM
    cases h1 : decide (x < -9999) with
    | true =>
      rw [Bool.true_or, ifK_true, ifK_true, show decide (i ≥ 0) = true by simpa using hi, ifK_true]
    | false =>
      rw [Bool.false_or, ifK_false]
      cases h2 : decide (x > 9999) with
      | true => rw [ifK_true, ifK_true, show decide (i ≥ 0) = true by simpa using hi, ifK_true]
      | false => rw [ifK_false, ifK_false]; exact ih
def fst3 (x y z : Int) : Int := ifK (x != 0) x (ifK (y != 0) y z)
theorem ok81t (x y z : Int) : OK5 81 [.slc true 3 [.int .i64 x, .int .i64 y, .int .i64 z]] (.int .i64 (fst3 x y z)) := by
  refine fnT none_ok Tryz.func81 (ord := O0) (N := N81) (by kernel_rfl) ((F81_eq _ _ _ _ _ _).trans ?_)
  rw [show LL = (4611686018427387900 + 1) + 1 + 1 + 1 from rfl, F81_26_eq, F81_26_eq, F81_26_eq, F81_26_eq]
  have h1 : IntKind.wrap .i64 ((0 : Int) + 1) = 1 := wrap_id (by omega)
  have h2 : IntKind.wrap .i64 ((1 : Int) + 1) = 2 := wrap_id (by omega)
  have h3 : IntKind.wrap .i64 ((2 : Int) + 1) = 3 := wrap_id (by omega)
  simp only [h1, h2, h3]
  unfold fst3
  cases hx : (x != 0) with
  | true => simp [cellK, hx]
  | false =>
    cases hy : (y != 0) with
    | true => simp [cellK, hx, hy]
    | false =>
      cases hz : (z != 0) with
      | true => simp [cellK, hx, hy, hz]
      | false =>
        have : z = 0 := by simpa using hz
        simp [cellK, hx, hy, this]
theorem ok22t (x y z : Int) : OK5 22 [.slc true 3 [.int .i64 x, .int .i64 y, .int .i64 z]] (.int .i64 (fst3 x y z)) := by
  refine fnT none_ok Tryz.func22 (ord := O0) (N := N22) (by kernel_rfl) ((F22_eq _ _ _ _ _ _).trans ?_)
  rw [show LL = (4611686018427387900 + 1) + 1 + 1 + 1 from rfl, F22_26_eq, F22_26_eq, F22_26_eq, F22_26_eq]
  have h1 : IntKind.wrap .i64 ((0 : Int) + 1) = 1 := wrap_id (by omega)
  have h2 : IntKind.wrap .i64 ((1 : Int) + 1) = 2 := wrap_id (by omega)
  have h3 : IntKind.wrap .i64 ((2 : Int) + 1) = 3 := wrap_id (by omega)
  simp only [h1, h2, h3]
  unfold fst3
  cases hx : (x != 0) with
  | true => simp [cellK, hx]
  | false =>
    cases hy : (y != 0) with
    | true => simp [cellK, hx, hy]
    | false =>
      cases hz : (z != 0) with
      | true => simp [cellK, hx, hy, hz]
      | false =>
        have : z = 0 := by simpa using hz
        simp [cellK, hx, hy, this]
theorem ok24 (b : Bool) (e : Int) : OK5 24 [.bool b, .int .i64 e] (.int .i64 (ifK b e 0)) :=
  fnT none_ok Tryz.func24 (ord := O0) (N := N0) (by kernel_rfl) ((F24_eq _ _ _ b e).trans (by cases b <;> rfl))
theorem ok93 {f : Bool} (l : List Int) {most : Int} (hl : l.length < 4611686018427387904) : OK5 93 [.slc f l.length (ints l), .int .i64 most] (.int .i64 (numErr l most)) := by
  have hb : CallsT (tabC [(122, [.slc f l.length (ints l), .fn (.func 134) [] []], .bool (farB l)), (83, [.bool ((l.length : Int) == 0), .int .i64 12], .int .i64 (ifK ((l.length : Int) == 0) 12 0)),
      (83, [.bool (decide ((l.length : Int) > most)), .int .i64 5], .int .i64 (ifK (decide ((l.length : Int) > most)) 5 0)), (83, [.bool (farB l), .int .i64 3], .int .i64 (ifK (farB l) 3 0)),
      (81, [.slc true 3 [.int .i64 (ifK ((l.length : Int) == 0) 12 0), .int .i64 (ifK (decide ((l.length : Int) > most)) 5 0), .int .i64 (ifK (farB l) 3 0)]], .int .i64 (fst3 (ifK ((l.length : Int) == 0) 12 0) (ifK (decide ((l.length : Int) > most)) 5 0) (ifK (farB l) 3 0)))]) := tabC_ok fun e he => by
    simp only [List.mem_cons, List.not_mem_nil, or_false] at he
    rcases he with rfl | rfl | rfl | rfl | rfl
    · exact ok122 l hl
    · exact ok83 _ _
    · exact ok83 _ _
    · exact ok83 _ _
    · exact ok81t _ _ _
  refine fnT hb Tryz.func93 (ord := O0) (N := N0) (by kernel_rfl) ((F93_eq _ _ _ _ _ _ _).trans ?_)
  have n1 : ∀ {a b : D} {c : Int} {d : Int}, c ≠ d → [a, D.int .i64 c] ≠ [b, D.int .i64 d] := fun h e => by simp at e; exact h e.2
  rw [callOf_tab rfl, tabC_hit, optK_some, boolK_bool, callOf_tab rfl, tabC_skip (by decide), tabC_hit, optK_some, intK_int,
    callOf_tab rfl, tabC_skip (by decide), tabC_skip' (n1 (by decide)), tabC_hit, optK_some, intK_int,
    callOf_tab rfl, tabC_skip (by decide), tabC_skip' (n1 (by decide)), tabC_skip' (n1 (by decide)), tabC_hit, optK_some, intK_int,
    callOf_tab rfl, tabC_skip (by decide), tabC_skip (by decide), tabC_skip (by decide), tabC_skip (by decide), tabC_hit, optK_some, intK_int]
  have hfar : ifK (farB l) 3 0 = numGo l := farGo_num l 0 (by omega)
  rw [hfar]
  unfold numErr fst3
  cases (l.length : Int) == 0 <;> cases decide ((l.length : Int) > most) <;> rfl
end Go.Pd
end
section
namespace Go.Pd
open Go Go.Proofs Go.RowKit
theorem BndL.tail {x : Int} {r : List Int} (h : BndL (x :: r)) : BndL r := fun y hy => h y (List.mem_cons_of_mem _ hy)
theorem BndL.drop {l : List Int} (h : BndL l) (k : Nat) : BndL (l.drop k) := fun y hy => h y (List.mem_of_mem_drop hy)
theorem go100 {call : CL} {f : Bool} : ∀ (r pre : List Int) (fuel : Nat) (acc : Int), (pre ++ r).length ≤ 1000000 → BndL r → -(9999 * (pre.length : Int)) ≤ acc → acc ≤ 9999 * (pre.length : Int) → r.length < fuel →
    F100_58 call LL C1 fuel f (pre ++ r).length (ints (pre ++ r)) acc (pre.length : Int) = some (.int .i64 (acc + sumL r))
  | [], pre, fuel + 1, acc, _, _, _, _, _ => by rw [F100_58_eq, end_pre, ifK_false, show sumL [] = 0 from rfl, Int.add_zero]
  | x :: r, pre, fuel + 1, acc, hB, hr, h1, h2, hf => by
    have hx := hr x (by simp)
    have hlen : (pre ++ x :: r).length = pre.length + r.length + 1 := by simp; omega
    have ih := go100 (call := call) (f := f) r (pre ++ [x]) fuel (acc + x) (by rw [app1]; exact hB) hr.tail (by simp; omega) (by simp; omega) (by simp at hf; omega)
    rw [app1] at ih
    rw [F100_58_eq, lt_pre, ifK_true, in_pre, chkK_true, cell_ints, intK_int, step_pre pre x r (by omega), wrap_id (by omega), ih, show sumL (x :: r) = x + sumL r from rfl, Int.add_assoc]
theorem ok100 {f : Bool} (l : List Int) (hl : l.length ≤ 1000) (hb : BndL l) (k : Nat) (hk : k ≤ l.length) : OK5 100 [.slc f l.length (ints l), .int .i64 k] (.int .i64 (sumL (l.drop (l.length - k)))) := by
  refine fnT none_ok Tryz.func100 (ord := O0) (N := N100) (by kernel_rfl) ((F100_eq _ _ _ _ _ _ _).trans ?_)
  rw [wrap_id (by omega)]
  have := go100 (call := callOf fun _ _ => none) (f := f) (l.drop (l.length - k)) (l.take (l.length - k)) LL 0 (by rw [List.take_append_drop]; omega) (hb.drop _) (by omega) (by omega) (by simp; unfold LL; omega)
  rw [List.take_append_drop] at this
  rw [show ((l.take (l.length - k)).length : Int) = (l.length : Int) - k by rw [List.length_take]; omega, Int.zero_add] at this
  exact this
theorem ok97 (x : Int) : OK5 97 [.int .i64 x] (.int .i64 x) := fnT none_ok Tryz.func97 (ord := O0) (N := N0) (by kernel_rfl) ((F97_eq _ _ _ x).trans rfl)
def b97 : FuncId → List D → Option D := fun k ds => match k, ds with
  | 97, [.int .i64 x] => some (.int .i64 x)
  | _, _ => none
theorem b97_ok : CallsT b97 := by
  intro k ds r h
  unfold b97 at h
  split at h
  · cases h; exact ok97 _
  · cases h
theorem go94 {f : Bool} : ∀ (r pre : List Int) (fuel : Nat) (acc : Int), (pre ++ r).length ≤ 1000000 → BndL r → -(9999 * (pre.length : Int)) ≤ acc → acc ≤ 9999 * (pre.length : Int) → r.length < fuel →
    F94_58 (callOf b97) LL C1 fuel f (pre ++ r).length (ints (pre ++ r)) acc (pre ++ r).length (pre.length : Int) = some (.int .i64 (acc + sumL r))
  | [], pre, fuel + 1, acc, _, _, _, _, _ => by rw [F94_58_eq, end_pre, ifK_false, show sumL [] = 0 from rfl, Int.add_zero]
  | x :: r, pre, fuel + 1, acc, hB, hr, h1, h2, hf => by
    have hx := hr x (by simp)
    have hlen : (pre ++ x :: r).length = pre.length + r.length + 1 := by simp; omega
    have ih := go94 (f := f) r (pre ++ [x]) fuel (acc + x) (by rw [app1]; exact hB) hr.tail (by simp; omega) (by simp; omega) (by simp at hf; omega)
    rw [app1] at ih
    have hc : ∀ x, callOf b97 97 [.int .i64 x] = some (.int .i64 x) := fun _ => rfl
    rw [F94_58_eq, lt_pre, ifK_true, in_pre, chkK_true, cell_ints, intK_int, hc, optK_some, intK_int, step_pre pre x r (by omega), wrap_id (by omega), ih, show sumL (x :: r) = x + sumL r from rfl, Int.add_assoc]
theorem ok94 {f : Bool} (l : List Int) (hl : l.length ≤ 1000) (hb : BndL l) : OK5 94 [.slc f l.length (ints l), .fn (.func 97) [] []] (.int .i64 (sumL l)) := by
  refine fnT b97_ok Tryz.func94 (ord := O0) (N := N94) (by kernel_rfl) ((F94_eq _ _ _ _ _ _).trans ?_)
  have := go94 (f := f) l [] LL 0 (by simp; omega) hb (by simp) (by simp) (by unfold LL; omega)
  rw [Int.zero_add] at this
  exact this
def cbGo (a b : List Int) : List Nat → Int
  | [] => 0
  | c :: cs => ifK (decide (c > a.length)) (cbGo a b cs) (ifK (decide (sumL (a.drop (a.length - c)) < sumL (b.drop (a.length - c)))) (-1) (ifK (decide (sumL (a.drop (a.length - c)) > sumL (b.drop (a.length - c)))) 1 (cbGo a b cs)))
def cbV (a b : List Int) : Int := cbGo a b [a.length, 9, 6, 3, 1]
def unints : List D → Option (List Int)
  | [] => some []
  | .int .i64 x :: r => (unints r).map (x :: ·)
  | _ :: _ => none
theorem unints_ints : ∀ l, unints (ints l) = some l
  | [] => rfl
  | x :: l => by
    rw [show ints (x :: l) = .int .i64 x :: ints l from rfl]
    unfold unints
    rw [unints_ints l]
    rfl
theorem unints_inv : ∀ {cs : List D} {l : List Int}, unints cs = some l → cs = ints l
  | [], l, h => by cases h; rfl
  | d :: cs, l, h => by
    unfold unints at h
    split at h
    · rename_i he
      cases he
    · rename_i x r hh
      cases hh
      cases hr : unints cs with
      | none => rw [hr] at h; cases h
      | some l' =>
        rw [hr] at h
        cases h
        rw [unints_inv hr]
        rfl
    · cases h
open Classical in
noncomputable def bSum : FuncId → List D → Option D := fun k ds => match k, ds with
  | 100, [.slc _ n cs, .int .i64 c] => (match unints cs with
    | some l => if l.length = n ∧ n ≤ 1000 ∧ BndL l ∧ 0 ≤ c ∧ c ≤ n then some (.int .i64 (sumL (l.drop (n - c.toNat)))) else none
    | none => none)
  | 94, [.slc _ n cs, .fn (.func 97) [] []] => (match unints cs with
    | some l => if l.length = n ∧ n ≤ 1000 ∧ BndL l then some (.int .i64 (sumL l)) else none
    | none => none)
  | 113, [.int .i64 x, .int .i64 y] => some (.int .i64 (cmpV x y))
  | _, _ => none
theorem bSum_ok : CallsT bSum := by
  intro k ds r h
  unfold bSum at h
  split at h
  · rename_i f n cs c
    split at h
    · rename_i l hl
      split at h
      · rename_i hc
        obtain ⟨rfl, h1, h2, h3, h4⟩ := hc
        cases h
        obtain ⟨k, rfl⟩ : ∃ k : Nat, c = k := ⟨c.toNat, by omega⟩
        rw [unints_inv hl]
        exact ok100 l h1 h2 k (by omega)
      · cases h
    · cases h
  · rename_i f n cs
    split at h
    · rename_i l hl
      split at h
      · rename_i hc
        obtain ⟨rfl, h1, h2⟩ := hc
        cases h
        rw [unints_inv hl]
        exact ok94 l h1 h2
      · cases h
    · cases h
  · cases h
    exact b2_ok _ _ _ rfl
  · cases h
theorem at100 {f : Bool} {l : List Int} (hl : l.length ≤ 1000) (hb : BndL l) {c : Nat} (hc : c ≤ l.length) : callOf bSum 100 [.slc f l.length (ints l), .int .i64 c] = some (.int .i64 (sumL (l.drop (l.length - c)))) := by
  show bSum 100 [.slc f l.length (ints l), .int .i64 c] = _
  unfold bSum
  simp only [unints_ints]
  rw [if_pos ⟨rfl, hl, hb, by omega, by omega⟩]
  simp
theorem at94 {f : Bool} {l : List Int} {n : Nat} (hn : n = l.length) (hl : l.length ≤ 1000) (hb : BndL l) : callOf bSum 94 [.slc f n (ints l), .fn (.func 97) [] []] = some (.int .i64 (sumL l)) := by
  subst hn
  show bSum 94 [.slc f l.length (ints l), .fn (.func 97) [] []] = _
  unfold bSum
  simp only [unints_ints]
  rw [if_pos ⟨rfl, hl, hb⟩]
theorem at113 (x y : Int) : callOf bSum 113 [.int .i64 x, .int .i64 y] = some (.int .i64 (cmpV x y)) := rfl
theorem step49 {a : List Int} {b : List Int} {f : Bool} {g : Bool} (hab : a.length = b.length) (ha : a.length ≤ 1000) (hba : BndL a) (hbb : BndL b) (cs : List Int) (c : Nat) (i : Nat) (hi : i < 5) (hc : cs[i]? = some (c : Int)) (fuel : Nat) :
    F49_58 (callOf bSum) LL C1 (fuel + 1) f a.length (ints a) g b.length (ints b) (ints cs) i = ifK (decide (c > a.length)) (F49_58 (callOf bSum) LL C1 fuel f a.length (ints a) g b.length (ints b) (ints cs) ((i + 1 : Nat) : Int))
      (ifK (decide (sumL (a.drop (a.length - c)) < sumL (b.drop (a.length - c)))) (some (.int .i64 (-1))) (ifK (decide (sumL (a.drop (a.length - c)) > sumL (b.drop (a.length - c)))) (some (.int .i64 1))
        (F49_58 (callOf bSum) LL C1 fuel f a.length (ints a) g b.length (ints b) (ints cs) ((i + 1 : Nat) : Int)))) := by
  have h1 : decide ((i : Int) < (5 : Int)) = true := by simp; omega
  have h2 : decide ((0 : Int) ≤ (i : Int) ∧ (i : Int) < (5 : Int)) = true := by simp; omega
  have hcell : ∀ {γ : Type} (k : D → Option γ), cellK (ints cs) (Int.toNat (i : Int) * 1) k = k (.int .i64 c) := fun k => cellK_some (by simp [ints, hc]) k
  have hw : IntKind.wrap .i64 ((i : Int) + 1) = ((i + 1 : Nat) : Int) := by rw [wrap_id (by omega)]; rfl
  have hd : decide ((c : Int) > (a.length : Int)) = decide (c > a.length) := by
    by_cases h : c > a.length
    · simp [h]
    · simp [h]
  rw [F49_58_eq, h1, ifK_true, h2, chkK_true, hcell, intK_int, hd, chkK_true, hcell, intK_int, hw]
  cases hgt : decide (c > a.length) with
  | true => rw [ifK_true, ifK_true]
  | false =>
    simp only [decide_eq_false_iff_not] at hgt
    rw [ifK_false, ifK_false, at100 ha hba (by omega), optK_some, intK_int, chkK_true, hcell, intK_int, at100 (by omega) hbb (by omega), optK_some, intK_int, hab]
theorem go49 {a : List Int} {b : List Int} {f : Bool} {g : Bool} (hab : a.length = b.length) (ha : a.length ≤ 1000) (hba : BndL a) (hbb : BndL b) (cs : List Nat) (hcs : cs.length = 5) : ∀ (r : List Nat) (i fuel : Nat), i + r.length = 5 → cs.drop i = r → r.length < fuel → F49_58 (callOf bSum) LL C1 fuel f a.length (ints a) g b.length (ints b) (ints (cs.map fun (c : Nat) => (c : Int))) i = some (.int .i64 (cbGo a b r))
  | [], i, fuel + 1, hi, _, _ => by
    have h1 : decide ((i : Int) < (5 : Int)) = false := by simp at hi; simp; omega
    rw [F49_58_eq, h1, ifK_false]
    rfl
  | c :: r, i, fuel + 1, hi, hr, hf => by
    have hi5 : i < 5 := by simp at hi; omega
    have hget : cs[i]? = some c := by
      have := congrArg (fun l => l[0]?) hr
      simpa using this
    have hdrop : cs.drop (i + 1) = r := by
      have := congrArg (fun l => l.drop 1) hr
      simpa using this
    have ih := go49 (a := a) (b := b) (f := f) (g := g) hab ha hba hbb cs hcs r (i + 1) fuel (by simp at hi; omega) hdrop (by simp at hf; omega)
    rw [step49 hab ha hba hbb _ c i hi5 (by simp [hget]) fuel, ih]
    rw [show cbGo a b (c :: r) = ifK (decide (c > a.length)) (cbGo a b r) (ifK (decide (sumL (a.drop (a.length - c)) < sumL (b.drop (a.length - c)))) (-1) (ifK (decide (sumL (a.drop (a.length - c)) > sumL (b.drop (a.length - c)))) 1 (cbGo a b r))) from rfl]
    generalize decide (c > a.length) = q1
    generalize decide (sumL (a.drop (a.length - c)) < sumL (b.drop (a.length - c))) = q2
    generalize decide (sumL (a.drop (a.length - c)) > sumL (b.drop (a.length - c))) = q3
    cases q1 <;> cases q2 <;> cases q3 <;> rfl
theorem ok49 {a : List Int} {b : List Int} {f : Bool} {g : Bool} (hab : a.length = b.length) (ha : a.length ≤ 1000) (hba : BndL a) (hbb : BndL b) : OK5 49 [.slc f a.length (ints a), .slc g b.length (ints b)] (.int .i64 (cbV a b)) := by
  refine fnT bSum_ok Tryz.func49 (ord := O0) (N := N49) (by kernel_rfl) ((F49_eq _ _ _ _ _ _ _ _ _).trans ?_)
  exact go49 hab ha hba hbb [a.length, 9, 6, 3, 1] rfl _ 0 LL rfl rfl (by unfold LL; simp)
theorem step103 {a : List Int} {b : List Int} {f : Bool} {g : Bool} (hab : a.length = b.length) (ha : a.length ≤ 1000) (hba : BndL a) (hbb : BndL b) (cs : List Int) (c : Nat) (hcb : c ≤ 1000) (i : Nat) (hi : i < 5) (hc : cs[i]? = some (c : Int)) (fuel : Nat) :
    F103_26 (callOf bSum) LL C1 (fuel + 1) f a.length (ints a) g b.length (ints b) (ints cs) i = ifK (decide (c > a.length)) (F103_26 (callOf bSum) LL C1 fuel f a.length (ints a) g b.length (ints b) (ints cs) ((i + 1 : Nat) : Int))
      (ifK (cmpV (sumL (a.drop (a.length - c))) (sumL (b.drop (a.length - c))) != 0) (some (.int .i64 (cmpV (sumL (a.drop (a.length - c))) (sumL (b.drop (a.length - c))))))
        (F103_26 (callOf bSum) LL C1 fuel f a.length (ints a) g b.length (ints b) (ints cs) ((i + 1 : Nat) : Int))) := by
  have h1 : decide ((i : Int) < (5 : Int)) = true := by simp; omega
  have h2 : decide ((0 : Int) ≤ (i : Int) ∧ (i : Int) < (5 : Int)) = true := by simp; omega
  have hcell : ∀ {γ : Type} (k : D → Option γ), cellK (ints cs) (Int.toNat (i : Int) * 1) k = k (.int .i64 c) := fun k => cellK_some (by simp [ints, hc]) k
  have hw : IntKind.wrap .i64 ((i : Int) + 1) = ((i + 1 : Nat) : Int) := by rw [wrap_id (by omega)]; rfl
  rw [F103_26_eq, h1, ifK_true, h2, chkK_true, hcell, intK_int, hw, wrap_id (x := (a.length : Int) - c) (by omega)]
  by_cases hgt : c > a.length
  · have e1 : decide ((a.length : Int) - c ≥ 0) = false := by simp; omega
    rw [e1, ifK_false, show decide (c > a.length) = true by simpa using hgt, ifK_true]
  · have e1 : decide ((a.length : Int) - c ≥ 0) = true := by simp; omega
    have e2 : decide ((0 : Int) ≤ (a.length : Int) - c ∧ (a.length : Int) - c ≤ (a.length : Int) ∧ (a.length : Int) ≤ (a.length : Int)) = true := by simp; omega
    have e3 : decide ((0 : Int) ≤ (a.length : Int) - c ∧ (a.length : Int) - c ≤ (b.length : Int) ∧ (b.length : Int) ≤ (b.length : Int)) = true := by simp; omega
    have t1 : Int.toNat ((a.length : Int) - ((a.length : Int) - c)) = c := by omega
    have t2 : Int.toNat ((b.length : Int) - ((a.length : Int) - c)) = c := by omega
    have t3 : Int.toNat ((a.length : Int) - c) = a.length - c := by omega
    have d1 : List.take (c * 1) (List.drop ((a.length - c) * 1) (ints a)) = ints (a.drop (a.length - c)) := by
      rw [Nat.mul_one, Nat.mul_one]
      unfold ints
      rw [← List.map_drop, List.take_of_length_le (by simp; omega)]
    have d2 : List.take (c * 1) (List.drop ((a.length - c) * 1) (ints b)) = ints (b.drop (a.length - c)) := by
      rw [Nat.mul_one, Nat.mul_one]
      unfold ints
      rw [← List.map_drop, List.take_of_length_le (by simp; omega)]
    rw [e1, ifK_true, e2, chkK_true, t1, t2, t3, d1, d2, at94 (by simp; omega) (by simp; omega) (hba.drop _), optK_some, intK_int, e3, chkK_true, at94 (by simp; omega) (by simp; omega) (hbb.drop _), optK_some, intK_int, at113, optK_some, intK_int,
      show decide (c > a.length) = false by simpa using hgt, ifK_false]
theorem go103 {a : List Int} {b : List Int} {f : Bool} {g : Bool} (hab : a.length = b.length) (ha : a.length ≤ 1000) (hba : BndL a) (hbb : BndL b) (cs : List Nat) (hcs : cs.length = 5) (hcb : ∀ c ∈ cs, c ≤ 1000) : ∀ (r : List Nat) (i fuel : Nat), i + r.length = 5 → cs.drop i = r → r.length < fuel → F103_26 (callOf bSum) LL C1 fuel f a.length (ints a) g b.length (ints b) (ints (cs.map fun (c : Nat) => (c : Int))) i = some (.int .i64 (cbGo a b r))
  | [], i, fuel + 1, hi, _, _ => by
    have h1 : decide ((i : Int) < (5 : Int)) = false := by simp at hi; simp; omega
    rw [F103_26_eq, h1, ifK_false]
    rfl
  | c :: r, i, fuel + 1, hi, hr, hf => by
    have hi5 : i < 5 := by simp at hi; omega
    have hget : cs[i]? = some c := by
      have := congrArg (fun l => l[0]?) hr
      simpa using this
    have hdrop : cs.drop (i + 1) = r := by
      have := congrArg (fun l => l.drop 1) hr
      simpa using this
    have ih := go103 (a := a) (b := b) (f := f) (g := g) hab ha hba hbb cs hcs hcb r (i + 1) fuel (by simp at hi; omega) hdrop (by simp at hf; omega)
    rw [step103 hab ha hba hbb _ c (hcb c (List.mem_of_getElem? hget)) i hi5 (by simp [hget]) fuel, ih]
    rw [show cbGo a b (c :: r) = ifK (decide (c > a.length)) (cbGo a b r) (ifK (decide (sumL (a.drop (a.length - c)) < sumL (b.drop (a.length - c)))) (-1) (ifK (decide (sumL (a.drop (a.length - c)) > sumL (b.drop (a.length - c)))) 1 (cbGo a b r))) from rfl]
    unfold cmpV
    generalize decide (c > a.length) = q1
    generalize decide (sumL (a.drop (a.length - c)) < sumL (b.drop (a.length - c))) = q2
    generalize decide (sumL (a.drop (a.length - c)) > sumL (b.drop (a.length - c))) = q3
    cases q1 <;> cases q2 <;> cases q3 <;> rfl
theorem ok103 {a : List Int} {b : List Int} {f : Bool} {g : Bool} (hab : a.length = b.length) (ha : a.length ≤ 1000) (hba : BndL a) (hbb : BndL b) : OK5 103 [.slc f a.length (ints a), .slc g b.length (ints b)] (.int .i64 (cbV a b)) := by
  refine fnT bSum_ok Tryz.func103 (ord := O0) (N := N103) (by kernel_rfl) ((F103_eq _ _ _ _ _ _ _ _ _).trans ?_)
  exact go103 hab ha hba hbb [a.length, 9, 6, 3, 1] rfl (by simp; exact ha) _ 0 LL rfl rfl (by unfold LL; simp)
end Go.Pd
end
section
namespace Go.Pd
open Go Go.Proofs Go.RowKit
theorem roomK {i : Nat} (h : i ≤ 1000000) : decide ((i + 1) * 8 ≤ limit ∧ i + 1 ≤ 9223372036854775807) = true := by
  simp only [decide_eq_true_eq]
  rw [show limit = 140737488355328 from rfl]
  omega
open Classical in
noncomputable def bCb : FuncId → List D → Option D := fun k ds => match k, ds with
  | 49, [.slc _ n c, .slc _ m d] => (match unints c, unints d with
    | some a, some b => if a.length = n ∧ b.length = m ∧ n = m ∧ n ≤ 1000 ∧ BndL a ∧ BndL b then some (.int .i64 (cbV a b)) else none
    | _, _ => none)
  | 103, [.slc _ n c, .slc _ m d] => (match unints c, unints d with
    | some a, some b => if a.length = n ∧ b.length = m ∧ n = m ∧ n ≤ 1000 ∧ BndL a ∧ BndL b then some (.int .i64 (cbV a b)) else none
    | _, _ => none)
  | _, _ => none
theorem bCb_ok : CallsT bCb := by
  intro k ds r h
  unfold bCb at h
  split at h
  · split at h
    · rename_i a b ha hb
      split at h
      · rename_i hc
        obtain ⟨rfl, rfl, h1, h2, h3, h4⟩ := hc
        cases h
        rw [unints_inv ha, unints_inv hb]
        exact ok49 h1 h2 h3 h4
      · cases h
    · cases h
  · split at h
    · rename_i a b ha hb
      split at h
      · rename_i hc
        obtain ⟨rfl, rfl, h1, h2, h3, h4⟩ := hc
        cases h
        rw [unints_inv ha, unints_inv hb]
        exact ok103 h1 h2 h3 h4
      · cases h
    · cases h
  · cases h
theorem at49 {f g : Bool} {a b : List Int} (hab : a.length = b.length) (ha : a.length ≤ 1000) (hba : BndL a) (hbb : BndL b) : callOf bCb 49 [.slc f a.length (ints a), .slc g b.length (ints b)] = some (.int .i64 (cbV a b)) := by
  show bCb 49 [.slc f a.length (ints a), .slc g b.length (ints b)] = _
  unfold bCb
  simp only [unints_ints]
  rw [if_pos ⟨rfl, rfl, hab, ha, hba, hbb⟩]
theorem at103 {f g : Bool} {a b : List Int} (hab : a.length = b.length) (ha : a.length ≤ 1000) (hba : BndL a) (hbb : BndL b) : callOf bCb 103 [.slc f a.length (ints a), .slc g b.length (ints b)] = some (.int .i64 (cbV a b)) := by
  show bCb 103 [.slc f a.length (ints a), .slc g b.length (ints b)] = _
  unfold bCb
  simp only [unints_ints]
  rw [if_pos ⟨rfl, rfl, hab, ha, hba, hbb⟩]
def rkGo (a : List Int) : List (List Int) → Int → Int
  | [], n => n
  | b :: r, n => rkGo a r (ifK (decide (cbV b a < 0)) (n + 1) n)
def ranksV (l : List (List Int)) : List Int := l.map fun a => rkGo a l 1
def owI : List Int → Ow
  | [] => .nil
  | x :: l => .own (l.length + 1) (ints (x :: l))
def sameLen (k : Nat) (l : List (List Int)) : Prop := ∀ x ∈ l, x.length = k ∧ BndL x
theorem inner51 {f : Bool} {l : List (List Int)} {k : Nat} (hk : k ≤ 1000) (hs : sameLen k l) (hl : l.length ≤ 1000) (fo i : Nat) (a : List Int) (ha : l[i]? = some a) (outs : List Int) (ho : outs.length ≤ 1000) :
    ∀ (r pre : List (List Int)) (fuel : Nat) (n : Int), l = pre ++ r → 0 ≤ n → n + r.length ≤ 3000 → r.length < fuel →
    F51_14922 (callOf bCb) LL C1 fo fuel f l.length (rows l) i (owI outs) n (pre.length : Int) = F51_58 (callOf bCb) LL C1 fo f l.length (rows l) (owI (outs ++ [rkGo a r n])) ((i + 1 : Nat) : Int) := by
  intro r
  induction r with
  | nil =>
    intro pre fuel n hp hn hn2 hf
    cases fuel with
    | zero => exact absurd hf (Nat.lt_irrefl _)
    | succ fuel =>
        have h1 : decide ((pre.length : Int) < (l.length : Int)) = false := by rw [hp]; simp
        have hi : i < l.length := (List.getElem?_eq_some_iff.1 ha).1
        have hw : IntKind.wrap .i64 ((i : Int) + 1) = ((i + 1 : Nat) : Int) := by rw [wrap_id (by omega)]; rfl
        cases outs with
        | nil =>
          show F51_14922 (callOf bCb) LL C1 fo (fuel + 1) f l.length (rows l) i .nil n (pre.length : Int) = _
          rw [F51_14922_eqn, h1, ifK_false, hw]
          rfl
        | cons o os =>
          show F51_14922 (callOf bCb) LL C1 fo (fuel + 1) f l.length (rows l) i (.own (os.length + 1) (ints (o :: os))) n (pre.length : Int) = _
          rw [F51_14922_eqo, h1, ifK_false, hw, roomK (by simp at ho; omega), chkK_true]
          show _ = F51_58 (callOf bCb) LL C1 fo f l.length (rows l) (.own ((os ++ [n]).length + 1) (ints (o :: (os ++ [n])))) _
          have e2 : ints (o :: (os ++ [n])) = ints (o :: os) ++ [.int .i64 n] := by simp [ints]
          rw [e2, List.length_append, List.length_singleton]
  | cons b r ih =>
    intro pre fuel n hp hn hn2 hf
    cases fuel with
    | zero => exact absurd hf (Nat.not_lt_zero _)
    | succ fuel =>
        have hb : l[pre.length]? = some b := by rw [hp]; simp
        have hmem : b ∈ l := List.mem_of_getElem? hb
        have hlen : l.length = pre.length + r.length + 1 := by rw [hp]; simp; omega
        have h1 : decide ((pre.length : Int) < (l.length : Int)) = true := by simp; omega
        have h2 : decide ((0 : Int) ≤ (pre.length : Int) ∧ (pre.length : Int) < (l.length : Int)) = true := by simp; omega
        have hi : i < l.length := (List.getElem?_eq_some_iff.1 ha).1
        have h3 : decide ((0 : Int) ≤ (i : Int) ∧ (i : Int) < (l.length : Int)) = true := by simp; omega
        have c1 : ∀ {γ : Type} (k : D → Option γ), cellK (rows l) (Int.toNat (pre.length : Int) * 1) k = k (.slc false b.length (ints b)) := fun k => cellK_some (by simp [rows, hb]) k
        have c2 : ∀ {γ : Type} (k : D → Option γ), cellK (rows l) (Int.toNat (i : Int) * 1) k = k (.slc false a.length (ints a)) := fun k => cellK_some (by simp [rows, ha]) k
        have hw : IntKind.wrap .i64 ((pre.length : Int) + 1) = ((pre ++ [b]).length : Int) := by rw [wrap_id (by omega)]; simp
        have hwn : IntKind.wrap .i64 (n + 1) = n + 1 := wrap_id (by simp at hn2; omega)
        have sb := hs b hmem
        have sa := hs a (List.mem_of_getElem? ha)
        have hc := at49 (f := false) (g := false) (by rw [sb.1, sa.1]) (by rw [sb.1]; exact hk) sb.2 sa.2
        have ih1 := ih (pre ++ [b]) fuel (n + 1) (by rw [hp]; simp) (by omega) (by simp at hn2; omega) (by simp at hf; omega)
        have ih2 := ih (pre ++ [b]) fuel n (by rw [hp]; simp) hn (by simp at hn2; omega) (by simp at hf; omega)
        rw [show rkGo a (b :: r) n = rkGo a r (ifK (decide (cbV b a < 0)) (n + 1) n) from rfl]
        cases outs with
        | nil =>
          have e0 : owI [] = .nil := rfl
          rw [e0] at ih1 ih2 ⊢
          rw [F51_14922_eqn, h1, ifK_true, h2, chkK_true, c1, slcK_slc, h3, chkK_true, c2, slcK_slc, hc, optK_some, intK_int, hw, hwn, ih1, ih2]
          cases decide (cbV b a < 0) <;> rfl
        | cons o os =>
          have e0 : owI (o :: os) = .own (os.length + 1) (ints (o :: os)) := rfl
          rw [e0] at ih1 ih2 ⊢
          rw [F51_14922_eqo, h1, ifK_true, h2, chkK_true, c1, slcK_slc, h3, chkK_true, c2, slcK_slc, hc, optK_some, intK_int, hw, hwn, ih1, ih2]
          cases decide (cbV b a < 0) <;> rfl
theorem outer51 {f : Bool} {l : List (List Int)} {k : Nat} (hk : k ≤ 1000) (hs : sameLen k l) (hl : l.length ≤ 1000) : ∀ (r pre : List (List Int)) (fuel : Nat), l = pre ++ r → 0 < l.length → r.length < fuel →
    F51_58 (callOf bCb) LL C1 fuel f l.length (rows l) (owI (pre.map fun a => rkGo a l 1)) (pre.length : Int) = some (.slc false l.length (ints (ranksV l)))
  | [], pre, fuel + 1, hp, h0, _ => by
    have hpl : pre = l := by rw [hp]; simp
    have h1 : decide ((pre.length : Int) < (l.length : Int)) = false := by rw [hpl]; simp
    cases pre with
    | nil => rw [← hpl] at h0; cases h0
    | cons o os =>
      show F51_58 (callOf bCb) LL C1 (fuel + 1) f l.length (rows l) (.own ((os.map fun a => rkGo a l 1).length + 1) (ints ((o :: os).map fun a => rkGo a l 1))) ((o :: os).length : Int) = _
      rw [F51_58_eqo, h1, ifK_false, hpl, List.length_map]
      have hl2 : os.length + 1 = l.length := by rw [← hpl]; rfl
      rw [hl2]
      rfl
  | a :: r, pre, fuel + 1, hp, h0, hf => by
    have ha : l[pre.length]? = some a := by rw [hp]; simp
    have hlen : l.length = pre.length + r.length + 1 := by rw [hp]; simp; omega
    have h1 : decide ((pre.length : Int) < (l.length : Int)) = true := by simp; omega
    have hin := inner51 (f := f) hk hs hl fuel pre.length a ha (pre.map fun a => rkGo a l 1) (by simp; omega) l [] LL 1 rfl (by omega) (by omega) (by unfold LL; omega)
    rw [show ((([] : List (List Int)).length : Nat) : Int) = 0 from rfl] at hin
    have ih := outer51 (f := f) hk hs hl r (pre ++ [a]) fuel (by rw [hp]; simp) h0 (by simp at hf; omega)
    rw [List.map_append, List.length_append] at ih
    rw [show (pre.length + [a].length : Nat) = pre.length + 1 from rfl, show (List.map (fun a => rkGo a l 1) [a]) = [rkGo a l 1] from rfl] at ih
    rw [← ih, ← hin]
    cases pre with
    | nil =>
      show F51_58 (callOf bCb) LL C1 (fuel + 1) f l.length (rows l) .nil _ = F51_14922 (callOf bCb) LL C1 fuel LL f l.length (rows l) _ .nil 1 0
      rw [F51_58_eqn, h1, ifK_true]
    | cons o os =>
      show F51_58 (callOf bCb) LL C1 (fuel + 1) f l.length (rows l) (.own ((os.map fun a => rkGo a l 1).length + 1) (ints ((o :: os).map fun a => rkGo a l 1))) _ = F51_14922 (callOf bCb) LL C1 fuel LL f l.length (rows l) _ (.own ((os.map fun a => rkGo a l 1).length + 1) (ints ((o :: os).map fun a => rkGo a l 1))) 1 0
      rw [F51_58_eqo, h1, ifK_true]
theorem ok51 {f : Bool} {l : List (List Int)} {k : Nat} (hk : k ≤ 1000) (hs : sameLen k l) (hl : l.length ≤ 1000) (h0 : 0 < l.length) : OK5 51 [.slc f l.length (rows l)] (.slc false l.length (ints (ranksV l))) := by
  refine fnT bCb_ok Tryz.func51 (ord := O0) (N := N51) (by kernel_rfl) ((F51_eq _ _ _ _ _ _).trans ?_)
  exact outer51 (f := f) hk hs hl l [] LL rfl h0 (by unfold LL; omega)
theorem inner104 {f : Bool} {l : List (List Int)} {k : Nat} (hk : k ≤ 1000) (hs : sameLen k l) (hl : l.length ≤ 1000) (fo i : Nat) (hi : i < l.length) (a : List Int) (ha : a.length = k ∧ BndL a) (outs : List Int) (ho : outs.length ≤ 1000) :
    ∀ (r pre : List (List Int)) (fuel : Nat) (n : Int), l = pre ++ r → 0 ≤ n → n + r.length ≤ 3000 → r.length < fuel →
    F104_59802 (callOf bCb) LL C1 fo fuel f l.length (rows l) l.length i (owI outs) false a.length (ints a) n l.length (pre.length : Int) = F104_58 (callOf bCb) LL C1 fo f l.length (rows l) (owI (outs ++ [rkGo a r n])) l.length ((i + 1 : Nat) : Int) := by
  intro r
  induction r with
  | nil =>
    intro pre fuel n hp hn hn2 hf
    cases fuel with
    | zero => exact absurd hf (Nat.lt_irrefl _)
    | succ fuel =>
        have h1 : decide ((pre.length : Int) < (l.length : Int)) = false := by rw [hp]; simp
        have hw : IntKind.wrap .i64 ((i : Int) + 1) = ((i + 1 : Nat) : Int) := by rw [wrap_id (by omega)]; rfl
        cases outs with
        | nil =>
          show F104_59802 (callOf bCb) LL C1 fo (fuel + 1) f l.length (rows l) l.length i .nil false a.length (ints a) n l.length (pre.length : Int) = _
          rw [F104_59802_eqn, h1, ifK_false, hw]
          rfl
        | cons o os =>
          show F104_59802 (callOf bCb) LL C1 fo (fuel + 1) f l.length (rows l) l.length i (.own (os.length + 1) (ints (o :: os))) false a.length (ints a) n l.length (pre.length : Int) = _
          rw [F104_59802_eqo, h1, ifK_false, hw, roomK (by simp at ho; omega), chkK_true]
          show _ = F104_58 (callOf bCb) LL C1 fo f l.length (rows l) (.own ((os ++ [n]).length + 1) (ints (o :: (os ++ [n])))) _ _
          have e2 : ints (o :: (os ++ [n])) = ints (o :: os) ++ [.int .i64 n] := by simp [ints]
          rw [e2, List.length_append, List.length_singleton]
  | cons b r ih =>
    intro pre fuel n hp hn hn2 hf
    cases fuel with
    | zero => exact absurd hf (Nat.not_lt_zero _)
    | succ fuel =>
        have hb : l[pre.length]? = some b := by rw [hp]; simp
        have hmem : b ∈ l := List.mem_of_getElem? hb
        have hlen : l.length = pre.length + r.length + 1 := by rw [hp]; simp; omega
        have h1 : decide ((pre.length : Int) < (l.length : Int)) = true := by simp; omega
        have h2 : decide ((0 : Int) ≤ (pre.length : Int) ∧ (pre.length : Int) < (l.length : Int)) = true := by simp; omega
        have c1 : ∀ {γ : Type} (k : D → Option γ), cellK (rows l) (Int.toNat (pre.length : Int) * 1) k = k (.slc false b.length (ints b)) := fun k => cellK_some (by simp [rows, hb]) k
        have hw : IntKind.wrap .i64 ((pre.length : Int) + 1) = ((pre ++ [b]).length : Int) := by rw [wrap_id (by omega)]; simp
        have hwn : IntKind.wrap .i64 (n + 1) = n + 1 := wrap_id (by simp at hn2; omega)
        have sb := hs b hmem
        have hc := at103 (f := false) (g := false) (by rw [sb.1, ha.1]) (by rw [sb.1]; exact hk) sb.2 ha.2
        have ih1 := ih (pre ++ [b]) fuel (n + 1) (by rw [hp]; simp) (by omega) (by simp at hn2; omega) (by simp at hf; omega)
        have ih2 := ih (pre ++ [b]) fuel n (by rw [hp]; simp) hn (by simp at hn2; omega) (by simp at hf; omega)
        rw [show rkGo a (b :: r) n = rkGo a r (ifK (decide (cbV b a < 0)) (n + 1) n) from rfl]
        cases outs with
        | nil =>
          have e0 : owI [] = .nil := rfl
          rw [e0] at ih1 ih2 ⊢
          rw [F104_59802_eqn, h1, ifK_true, h2, chkK_true, c1, slcK_slc, hc, optK_some, intK_int, hw, hwn, ih1, ih2]
          cases decide (cbV b a < 0) <;> rfl
        | cons o os =>
          have e0 : owI (o :: os) = .own (os.length + 1) (ints (o :: os)) := rfl
          rw [e0] at ih1 ih2 ⊢
          rw [F104_59802_eqo, h1, ifK_true, h2, chkK_true, c1, slcK_slc, hc, optK_some, intK_int, hw, hwn, ih1, ih2]
          cases decide (cbV b a < 0) <;> rfl
theorem outer104 {f : Bool} {l : List (List Int)} {k : Nat} (hk : k ≤ 1000) (hs : sameLen k l) (hl : l.length ≤ 1000) : ∀ (r pre : List (List Int)) (fuel : Nat), l = pre ++ r → 0 < l.length → r.length < fuel →
    F104_58 (callOf bCb) LL C1 fuel f l.length (rows l) (owI (pre.map fun a => rkGo a l 1)) l.length (pre.length : Int) = some (.slc false l.length (ints (ranksV l)))
  | [], pre, fuel + 1, hp, h0, _ => by
    have hpl : pre = l := by rw [hp]; simp
    have h1 : decide ((pre.length : Int) < (l.length : Int)) = false := by rw [hpl]; simp
    cases pre with
    | nil => rw [← hpl] at h0; cases h0
    | cons o os =>
      show F104_58 (callOf bCb) LL C1 (fuel + 1) f l.length (rows l) (.own ((os.map fun a => rkGo a l 1).length + 1) (ints ((o :: os).map fun a => rkGo a l 1))) l.length ((o :: os).length : Int) = _
      rw [F104_58_eqo, h1, ifK_false, hpl, List.length_map]
      have hl2 : os.length + 1 = l.length := by rw [← hpl]; rfl
      rw [hl2]
      rfl
  | a :: r, pre, fuel + 1, hp, h0, hf => by
    have ha : l[pre.length]? = some a := by rw [hp]; simp
    have hlen : l.length = pre.length + r.length + 1 := by rw [hp]; simp; omega
    have h1 : decide ((pre.length : Int) < (l.length : Int)) = true := by simp; omega
    have h2 : decide ((0 : Int) ≤ (pre.length : Int) ∧ (pre.length : Int) < (l.length : Int)) = true := by simp; omega
    have c1 : ∀ {γ : Type} (k : D → Option γ), cellK (rows l) (Int.toNat (pre.length : Int) * 1) k = k (.slc false a.length (ints a)) := fun k => cellK_some (by simp [rows, ha]) k
    have hin := inner104 (f := f) hk hs hl fuel pre.length (by omega) a (hs a (List.mem_of_getElem? ha)) (pre.map fun a => rkGo a l 1) (by simp; omega) l [] LL 1 rfl (by omega) (by omega) (by unfold LL; omega)
    rw [show ((([] : List (List Int)).length : Nat) : Int) = 0 from rfl] at hin
    have ih := outer104 (f := f) hk hs hl r (pre ++ [a]) fuel (by rw [hp]; simp) h0 (by simp at hf; omega)
    rw [List.map_append, List.length_append] at ih
    rw [show (pre.length + [a].length : Nat) = pre.length + 1 from rfl, show (List.map (fun a => rkGo a l 1) [a]) = [rkGo a l 1] from rfl] at ih
    rw [← ih, ← hin]
    cases pre with
    | nil =>
      show F104_58 (callOf bCb) LL C1 (fuel + 1) f l.length (rows l) .nil l.length _ = F104_59802 (callOf bCb) LL C1 fuel LL f l.length (rows l) l.length _ .nil false a.length (ints a) 1 l.length 0
      rw [F104_58_eqn, h1, ifK_true, h2, chkK_true, c1, slcK_slc]
    | cons o os =>
      show F104_58 (callOf bCb) LL C1 (fuel + 1) f l.length (rows l) (.own ((os.map fun a => rkGo a l 1).length + 1) (ints ((o :: os).map fun a => rkGo a l 1))) l.length _ = F104_59802 (callOf bCb) LL C1 fuel LL f l.length (rows l) l.length _ (.own ((os.map fun a => rkGo a l 1).length + 1) (ints ((o :: os).map fun a => rkGo a l 1))) false a.length (ints a) 1 l.length 0
      rw [F104_58_eqo, h1, ifK_true, h2, chkK_true, c1, slcK_slc]
theorem ok104 {f : Bool} {l : List (List Int)} {k : Nat} (hk : k ≤ 1000) (hs : sameLen k l) (hl : l.length ≤ 1000) (h0 : 0 < l.length) : OK5 104 [.slc f l.length (rows l)] (.slc false l.length (ints (ranksV l))) := by
  refine fnT bCb_ok Tryz.func104 (ord := O0) (N := N104) (by kernel_rfl) ((F104_eq _ _ _ _ _ _).trans ?_)
  exact outer104 (f := f) hk hs hl l [] LL rfl h0 (by unfold LL; omega)
end Go.Pd
end
section
namespace Go.Pd
open Go Go.Proofs Go.RowKit
def unrows : List D → Option (List (List Int))
  | [] => some []
  | .slc false n cs :: r => (match unints cs with
    | some l => if l.length = n then (unrows r).map (l :: ·) else none
    | none => none)
  | _ :: _ => none
theorem unrows_rows : ∀ l, unrows (rows l) = some l
  | [] => rfl
  | x :: l => by
    rw [show rows (x :: l) = .slc false x.length (ints x) :: rows l from rfl]
    unfold unrows
    rw [unints_ints]
    dsimp only
    rw [if_pos rfl, unrows_rows l]
    rfl
theorem unrows_inv : ∀ {cs : List D} {l : List (List Int)}, unrows cs = some l → cs = rows l
  | [], l, h => by cases h; rfl
  | d :: cs, l, h => by
    unfold unrows at h
    split at h
    · rename_i he
      cases he
    · rename_i n c r hh
      cases hh
      split at h
      · rename_i x hx
        split at h
        · rename_i hn
          cases hr : unrows cs with
          | none => rw [hr] at h; cases h
          | some l' =>
            rw [hr] at h
            cases h
            rw [unrows_inv hr, unints_inv hx, ← hn]
            rfl
        · cases h
      · cases h
    · cases h
open Classical in
noncomputable def bT : FuncId → List D → Option D := fun k ds => match k, ds with
  | 33, [.slc _ n c, .int .i64 m] => (match unints c with
    | some l => if l.length = n ∧ m ≤ 1000 then some (.int .i64 (numErr l m)) else none
    | none => none)
  | 93, [.slc _ n c, .int .i64 m] => (match unints c with
    | some l => if l.length = n ∧ n < 4611686018427387904 then some (.int .i64 (numErr l m)) else none
    | none => none)
  | 83, [.bool b, .int .i64 e] => some (.int .i64 (ifK b e 0))
  | 24, [.bool b, .int .i64 e] => some (.int .i64 (ifK b e 0))
  | 81, [.slc true 2 [.int .i64 x, .int .i64 y]] => some (.int .i64 (fst2 x y))
  | 81, [.slc true 3 [.int .i64 x, .int .i64 y, .int .i64 z]] => some (.int .i64 (fst3 x y z))
  | 22, [.slc true 3 [.int .i64 x, .int .i64 y, .int .i64 z]] => some (.int .i64 (fst3 x y z))
  | 51, [.slc _ n c] => (match unrows c with
    | some l => if l.length = n ∧ n ≤ 1000 ∧ 0 < n ∧ ∃ k, k ≤ 1000 ∧ sameLen k l then some (.slc false n (ints (ranksV l))) else none
    | none => none)
  | 104, [.slc _ n c] => (match unrows c with
    | some l => if l.length = n ∧ n ≤ 1000 ∧ 0 < n ∧ ∃ k, k ≤ 1000 ∧ sameLen k l then some (.slc false n (ints (ranksV l))) else none
    | none => none)
  | k, ds => bCb k ds
theorem bT_ok : CallsT bT := by
  intro k ds r h
  unfold bT at h
  split at h
  · split at h
    · rename_i l hl
      split at h
      · rename_i hc
        obtain ⟨rfl, h1⟩ := hc
        cases h
        rw [unints_inv hl]
        exact ok33 l h1
      · cases h
    · cases h
  · split at h
    · rename_i l hl
      split at h
      · rename_i hc
        obtain ⟨rfl, h1⟩ := hc
        cases h
        rw [unints_inv hl]
        exact ok93 l h1
      · cases h
    · cases h
  · cases h; exact ok83 _ _
  · cases h; exact ok24 _ _
  · cases h; exact ok81 _ _
  · cases h; exact ok81t _ _ _
  · cases h; exact ok22t _ _ _
  · split at h
    · rename_i l hl
      split at h
      · rename_i hc
        obtain ⟨rfl, h1, h2, k, h3, h4⟩ := hc
        cases h
        rw [unrows_inv hl]
        exact ok51 h3 h4 h1 h2
      · cases h
    · cases h
  · split at h
    · rename_i l hl
      split at h
      · rename_i hc
        obtain ⟨rfl, h1, h2, k, h3, h4⟩ := hc
        cases h
        rw [unrows_inv hl]
        exact ok104 h3 h4 h1 h2
      · cases h
    · cases h
  · exact bCb_ok _ _ _ h
section
variable {f : Bool}
theorem at33 (l : List Int) {m : Int} (hm : m ≤ 1000) : callOf bT 33 [.slc f l.length (ints l), .int .i64 m] = some (.int .i64 (numErr l m)) := by
  show bT 33 [.slc f l.length (ints l), .int .i64 m] = _
  unfold bT
  simp only [unints_ints]
  rw [if_pos ⟨trivial, hm⟩]
theorem at93 (l : List Int) (m : Int) (hl : l.length < 4611686018427387904) : callOf bT 93 [.slc f l.length (ints l), .int .i64 m] = some (.int .i64 (numErr l m)) := by
  show bT 93 [.slc f l.length (ints l), .int .i64 m] = _
  unfold bT
  simp only [unints_ints]
  rw [if_pos ⟨trivial, hl⟩]
theorem at83 (b : Bool) (e : Int) : callOf bT 83 [.bool b, .int .i64 e] = some (.int .i64 (ifK b e 0)) := rfl
theorem at81 (x y : Int) : callOf bT 81 [.slc true 2 [.int .i64 x, .int .i64 y]] = some (.int .i64 (fst2 x y)) := rfl
theorem at81t (x y z : Int) : callOf bT 81 [.slc true 3 [.int .i64 x, .int .i64 y, .int .i64 z]] = some (.int .i64 (fst3 x y z)) := rfl
theorem at51 {l : List (List Int)} {k : Nat} (hk : k ≤ 1000) (hs : sameLen k l) (hl : l.length ≤ 1000) (h0 : 0 < l.length) : callOf bT 51 [.slc f l.length (rows l)] = some (.slc false l.length (ints (ranksV l))) := by
  show bT 51 [.slc f l.length (rows l)] = _
  unfold bT
  simp only [unrows_rows]
  rw [if_pos ⟨rfl, hl, h0, k, hk, hs⟩]
theorem at104 {l : List (List Int)} {k : Nat} (hk : k ≤ 1000) (hs : sameLen k l) (hl : l.length ≤ 1000) (h0 : 0 < l.length) : callOf bT 104 [.slc f l.length (rows l)] = some (.slc false l.length (ints (ranksV l))) := by
  show bT 104 [.slc f l.length (rows l)] = _
  unfold bT
  simp only [unrows_rows]
  rw [if_pos ⟨rfl, hl, h0, k, hk, hs⟩]
theorem at103t {g : Bool} {a b : List Int} (hab : a.length = b.length) (ha : a.length ≤ 1000) (hba : BndL a) (hbb : BndL b) : callOf bT 103 [.slc f a.length (ints a), .slc g b.length (ints b)] = some (.int .i64 (cbV a b)) := at103 (f := f) (g := g) hab ha hba hbb
end
def cbErr (a b : List Int) : Int := fst3 (numErr a 36) (numErr b 36) (ifK ((a.length : Int) != b.length) 2 0)
theorem fst3_zero {x y z : Int} (h : fst3 x y z = 0) : x = 0 ∧ y = 0 ∧ z = 0 := by
  unfold fst3 at h
  cases h1 : x != 0 with
  | true => rw [h1, ifK_true] at h; rw [h] at h1; cases h1
  | false =>
    rw [h1, ifK_false] at h
    cases h2 : y != 0 with
    | true => rw [h2, ifK_true] at h; rw [h] at h2; cases h2
    | false =>
      rw [h2, ifK_false] at h
      exact ⟨by simpa using h1, by simpa using h2, h⟩
theorem cbErr_zero {a b : List Int} (h : cbErr a b = 0) : a.length = b.length ∧ a.length ≤ 36 ∧ BndL a ∧ BndL b := by
  obtain ⟨h1, h2, h3⟩ := fst3_zero h
  have e1 := numErr_zero h1
  have e2 := numErr_zero h2
  refine ⟨?_, by omega, e1.2.2, e2.2.2⟩
  cases hq : ((a.length : Int) != b.length) with
  | true => rw [hq, ifK_true] at h3; cases h3
  | false =>
    have : (a.length : Int) = b.length := by simpa using hq
    omega
theorem ok47 {f g : Bool} {a b : List Int} (ha : a.length < 4611686018427387904) (hb : b.length < 4611686018427387904) : OK5 47 [.slc f a.length (ints a), .slc g b.length (ints b)] (ifK (cbErr a b != 0) (.tup [.int .i64 0, .int .i64 (cbErr a b)]) (.tup [.int .i64 (cbV a b), .int .i64 0])) := by
  refine fnT bT_ok Tryz.func47 (ord := O0) (N := N0) (by kernel_rfl) ((F47_eq _ _ _ _ _ _ _ _ _).trans ?_)
  rw [at93 a 36 ha, optK_some, intK_int, at93 b 36 hb, optK_some, intK_int, at83, optK_some, intK_int, at81t, optK_some, intK_int]
  show ifK (cbErr a b != 0) _ _ = _
  cases hz : cbErr a b != 0 with
  | true => rw [ifK_true, ifK_true]; rfl
  | false =>
    have hz0 : cbErr a b = 0 := by simpa using hz
    obtain ⟨h1, h2, h3, h4⟩ := cbErr_zero hz0
    rw [ifK_false, ifK_false, at103t h1 (by omega) h3 h4, optK_some, intK_int]
def liGo (k : Nat) : List (List Int) → Int
  | [] => 0
  | x :: r => ifK (numErr x 36 != 0) (numErr x 36) (ifK ((x.length : Int) != k) 2 (liGo k r))
def listsErr (l : List (List Int)) : Int := ifK ((l.length : Int) == 0) 12 (ifK (decide ((l.length : Int) > 200)) 5 (liGo (l.headD []).length l))
theorem liGo_zero {k : Nat} : ∀ {l : List (List Int)}, liGo k l = 0 → ∀ x ∈ l, (x.length = k ∧ BndL x) ∧ x.length ≤ 36
  | [], _, x, hx => by cases hx
  | y :: r, h, x, hx => by
    unfold liGo at h
    cases h1 : numErr y 36 != 0 with
    | true => rw [h1, ifK_true] at h; rw [h] at h1; cases h1
    | false =>
      rw [h1, ifK_false] at h
      have h0 : numErr y 36 = 0 := by simpa using h1
      have e1 := numErr_zero h0
      cases h2 : ((y.length : Int) != k) with
      | true => rw [h2, ifK_true] at h; cases h
      | false =>
        rw [h2, ifK_false] at h
        have h3 : (y.length : Int) = k := by simpa using h2
        rcases List.mem_cons.1 hx with rfl | hx
        · exact ⟨⟨by omega, e1.2.2⟩, by omega⟩
        · exact liGo_zero h x hx
theorem listsErr_zero {l : List (List Int)} (h : listsErr l = 0) : 0 < l.length ∧ l.length ≤ 200 ∧ ∃ k, k ≤ 36 ∧ sameLen k l := by
  unfold listsErr at h
  cases h1 : ((l.length : Int) == 0) with
  | true => rw [h1, ifK_true] at h; cases h
  | false =>
    rw [h1, ifK_false] at h
    cases h2 : decide ((l.length : Int) > 200) with
    | true => rw [h2, ifK_true] at h; cases h
    | false =>
      rw [h2, ifK_false] at h
      have h1' : ¬ (l.length : Int) = 0 := by simpa using h1
      simp only [decide_eq_false_iff_not] at h2
      refine ⟨by omega, by omega, (l.headD []).length, ?_, fun x hx => (liGo_zero h x hx).1⟩
      cases l with
      | nil => simp at h1'
      | cons y r => exact (liGo_zero h y (by simp)).2
theorem go50 {f : Bool} {l : List (List Int)} (hl : l.length ≤ 200) : ∀ (r pre : List (List Int)) (fuel : Nat), l = pre ++ r → r.length < fuel →
    F50_122 (callOf bT) LL C1 fuel f l.length (rows l) (pre.length : Int) = some (.int .i64 (liGo (l.headD []).length r)) := by
  intro r
  induction r with
  | nil =>
    intro pre fuel hp hf
    cases fuel with
    | zero => exact absurd hf (Nat.not_lt_zero _)
    | succ fuel =>
      have h1 : decide ((pre.length : Int) < (l.length : Int)) = false := by rw [hp]; simp
      rw [F50_122_eq, h1, ifK_false]
      rfl
  | cons x r ih =>
    intro pre fuel hp hf
    cases fuel with
    | zero => exact absurd hf (Nat.not_lt_zero _)
    | succ fuel =>
      have hx : l[pre.length]? = some x := by rw [hp]; simp
      have hlen : l.length = pre.length + r.length + 1 := by rw [hp]; simp; omega
      have h1 : decide ((pre.length : Int) < (l.length : Int)) = true := by simp; omega
      have h2 : decide ((0 : Int) ≤ (pre.length : Int) ∧ (pre.length : Int) < (l.length : Int)) = true := by simp; omega
      have h3 : decide ((0 : Int) ≤ (0 : Int) ∧ (0 : Int) < (l.length : Int)) = true := by simp; omega
      have c1 : ∀ {γ : Type} (k : D → Option γ), cellK (rows l) (Int.toNat (pre.length : Int) * 1) k = k (.slc false x.length (ints x)) := fun k => cellK_some (by simp [rows, hx]) k
      have c0 : ∀ {γ : Type} (k : D → Option γ), cellK (rows l) 0 k = k (.slc false (l.headD []).length (ints (l.headD []))) := fun k => cellK_some (by
        cases l with
        | nil => simp at hlen
        | cons y l => rfl) k
      have hw : IntKind.wrap .i64 ((pre.length : Int) + 1) = ((pre ++ [x]).length : Int) := by rw [wrap_id (by omega)]; simp
      have ih' := ih (pre ++ [x]) fuel (by rw [hp]; simp) (by simp at hf; omega)
      rw [F50_122_eq, h1, ifK_true, h2, chkK_true, c1, slcK_slc, at33 x (by omega), optK_some, intK_int, chkK_true, c1, slcK_slc, h3, chkK_true, c0, slcK_slc, hw, ih']
      rw [show liGo (l.headD []).length (x :: r) = ifK (numErr x 36 != 0) (numErr x 36) (ifK ((x.length : Int) != (l.headD []).length) 2 (liGo (l.headD []).length r)) from rfl]
      rw [show (numErr x 36 == 0) = !(numErr x 36 != 0) by unfold bne; rw [Bool.not_not]]
      generalize (numErr x 36 != 0) = q1
      generalize ((x.length : Int) != (l.headD []).length) = q2
      cases q1 <;> cases q2 <;> rfl
theorem ok50 {f : Bool} (l : List (List Int)) : OK5 50 [.slc f l.length (rows l)] (.int .i64 (listsErr l)) := by
  refine fnT bT_ok Tryz.func50 (ord := O0) (N := N50) (by kernel_rfl) ((F50_eq _ _ _ _ _ _).trans ?_)
  unfold listsErr
  cases (l.length : Int) == 0 with
  | true => rfl
  | false =>
    rw [ifK_false, ifK_false]
    cases h2 : decide ((l.length : Int) > 200) with
    | true => rfl
    | false =>
      rw [ifK_false, ifK_false]
      simp only [decide_eq_false_iff_not] at h2
      exact go50 (f := f) (by omega) l [] LL rfl (by unfold LL; omega)
def ranksR (l : List (List Int)) : D := ifK (listsErr l != 0) (.tup [.slc true 0 [], .int .i64 (listsErr l)]) (.tup [.slc false l.length (ints (ranksV l)), .int .i64 0])
theorem go48 {f : Bool} {l : List (List Int)} (hl : l.length ≤ 200) (h0 : 0 < l.length) (hx0 : ∀ x ∈ l, x.length < 4611686018427387904) : ∀ (r pre : List (List Int)) (fuel : Nat), l = pre ++ r → r.length < fuel → (liGo (l.headD []).length r = 0 → ∃ k, k ≤ 36 ∧ sameLen k l) →
    F48_58 (callOf bT) LL C1 fuel f l.length (rows l) l.length (pre.length : Int) = some (ifK (liGo (l.headD []).length r != 0) (.tup [.slc true 0 [], .int .i64 (liGo (l.headD []).length r)]) (.tup [.slc false l.length (ints (ranksV l)), .int .i64 0])) := by
  intro r
  induction r with
  | nil =>
    intro pre fuel hp hf hz
    cases fuel with
    | zero => exact absurd hf (Nat.not_lt_zero _)
    | succ fuel =>
      have h1 : decide ((pre.length : Int) < (l.length : Int)) = false := by rw [hp]; simp
      obtain ⟨k, hk, hs⟩ := hz rfl
      rw [F48_58_eq, h1, ifK_false, at104 (by omega) hs (by omega) h0, optK_some, slcK_slc]
      rfl
  | cons x r ih =>
    intro pre fuel hp hf hz
    cases fuel with
    | zero => exact absurd hf (Nat.not_lt_zero _)
    | succ fuel =>
      have hx : l[pre.length]? = some x := by rw [hp]; simp
      have hlen : l.length = pre.length + r.length + 1 := by rw [hp]; simp; omega
      have h1 : decide ((pre.length : Int) < (l.length : Int)) = true := by simp; omega
      have h2 : decide ((0 : Int) ≤ (pre.length : Int) ∧ (pre.length : Int) < (l.length : Int)) = true := by simp; omega
      have h3 : decide ((0 : Int) ≤ (0 : Int) ∧ (0 : Int) < (l.length : Int)) = true := by simp; omega
      have c1 : ∀ {γ : Type} (k : D → Option γ), cellK (rows l) (Int.toNat (pre.length : Int) * 1) k = k (.slc false x.length (ints x)) := fun k => cellK_some (by simp [rows, hx]) k
      have c0 : ∀ {γ : Type} (k : D → Option γ), cellK (rows l) 0 k = k (.slc false (l.headD []).length (ints (l.headD []))) := fun k => cellK_some (by
        cases l with
        | nil => simp at hlen
        | cons y l => rfl) k
      have hw : IntKind.wrap .i64 ((pre.length : Int) + 1) = ((pre ++ [x]).length : Int) := by rw [wrap_id (by omega)]; simp
      have e := show liGo (l.headD []).length (x :: r) = ifK (numErr x 36 != 0) (numErr x 36) (ifK ((x.length : Int) != (l.headD []).length) 2 (liGo (l.headD []).length r)) from rfl
      rw [F48_58_eq, h1, ifK_true, h2, chkK_true, c1, slcK_slc, at93 x 36 (hx0 x (List.mem_of_getElem? hx)), optK_some, intK_int, h3, chkK_true, c0, slcK_slc, at83, optK_some, intK_int, at81, optK_some, intK_int, hw]
      unfold fst2
      cases q1 : (numErr x 36 != 0) with
      | true =>
        rw [q1, ifK_true] at e
        rw [ifK_true, e, q1, ifK_true, ifK_true]
      | false =>
        rw [q1, ifK_false] at e
        rw [ifK_false]
        cases q2 : ((x.length : Int) != (l.headD []).length) with
        | true =>
          rw [q2, ifK_true] at e
          rw [ifK_true, e]
          rfl
        | false =>
          rw [q2, ifK_false] at e
          rw [e] at hz ⊢
          rw [ifK_false, show ((0 : Int) != 0) = false from rfl, ifK_false]
          exact ih (pre ++ [x]) fuel (by rw [hp]; simp) (by simp at hf; omega) hz
theorem ok48 {f : Bool} (l : List (List Int)) (hx0 : ∀ x ∈ l, x.length < 4611686018427387904) : OK5 48 [.slc f l.length (rows l)] (ranksR l) := by
  refine fnT bT_ok Tryz.func48 (ord := O0) (N := N48) (by kernel_rfl) ((F48_eq _ _ _ _ _ _).trans ?_)
  rw [at83, optK_some, intK_int, at83, optK_some, intK_int, at81, optK_some, intK_int]
  have hz := @listsErr_zero l
  unfold ranksR
  unfold listsErr at hz ⊢
  cases h1 : ((l.length : Int) == 0) with
  | true => rfl
  | false =>
    rw [h1, ifK_false] at hz
    rw [ifK_false, ifK_false]
    cases h2 : decide ((l.length : Int) > 200) with
    | true => rfl
    | false =>
      rw [h2, ifK_false] at hz
      rw [ifK_false, ifK_false]
      have h1' : ¬ (l.length : Int) = 0 := by simpa using h1
      simp only [decide_eq_false_iff_not] at h2
      rw [show (fst2 0 0 != 0) = false from rfl, ifK_false]
      exact go48 (f := f) (by omega) (by omega) hx0 l [] LL rfl (by unfold LL; omega) fun h => (hz h).2.2
def shGo : List (List Int) → Bool
  | [] => true
  | x :: r => ifK (decide ((x.length : Int) > 39)) false (shGo r)
def shortV (l : List (List Int)) : Bool := ifK (decide ((l.length : Int) > 8)) (ifK (decide ((l.length : Int) ≤ 200)) false (ifK (decide ((l.length : Int) > 203)) false (shGo l))) (ifK (decide ((l.length : Int) > 203)) false (shGo l))
theorem shGo_true : ∀ {l : List (List Int)}, shGo l = true → ∀ x ∈ l, x.length ≤ 39
  | [], _, x, hx => by cases hx
  | y :: r, h, x, hx => by
    unfold shGo at h
    cases h1 : decide ((y.length : Int) > 39) with
    | true => rw [h1, ifK_true] at h; cases h
    | false =>
      rw [h1, ifK_false] at h
      simp only [decide_eq_false_iff_not] at h1
      rcases List.mem_cons.1 hx with rfl | hx
      · omega
      · exact shGo_true h x hx
theorem shortV_true {l : List (List Int)} (h : shortV l = true) : ∀ x ∈ l, x.length ≤ 39 := by
  unfold shortV at h
  have key : shGo l = true := by
    revert h
    cases decide ((l.length : Int) > 8) <;> cases decide ((l.length : Int) ≤ 200) <;> cases decide ((l.length : Int) > 203) <;> simp
  exact shGo_true key
theorem go46 {call : CL} {f : Bool} {l : List (List Int)} (hl : l.length ≤ 203) : ∀ (r pre : List (List Int)) (fuel : Nat), l = pre ++ r → r.length < fuel →
    F46_58 call LL C1 fuel f l.length (rows l) l.length (pre.length : Int) = some (.bool (shGo r)) := by
  intro r
  induction r with
  | nil =>
    intro pre fuel hp hf
    cases fuel with
    | zero => exact absurd hf (Nat.not_lt_zero _)
    | succ fuel =>
      have h1 : decide ((pre.length : Int) < (l.length : Int)) = false := by rw [hp]; simp
      rw [F46_58_eq, h1, ifK_false]
      rfl
  | cons x r ih =>
    intro pre fuel hp hf
    cases fuel with
    | zero => exact absurd hf (Nat.not_lt_zero _)
    | succ fuel =>
      have hx : l[pre.length]? = some x := by rw [hp]; simp
      have hlen : l.length = pre.length + r.length + 1 := by rw [hp]; simp; omega
      have h1 : decide ((pre.length : Int) < (l.length : Int)) = true := by simp; omega
      have h2 : decide ((0 : Int) ≤ (pre.length : Int) ∧ (pre.length : Int) < (l.length : Int)) = true := by simp; omega
      have c1 : ∀ {γ : Type} (k : D → Option γ), cellK (rows l) (Int.toNat (pre.length : Int) * 1) k = k (.slc false x.length (ints x)) := fun k => cellK_some (by simp [rows, hx]) k
      have hw : IntKind.wrap .i64 ((pre.length : Int) + 1) = ((pre ++ [x]).length : Int) := by rw [wrap_id (by omega)]; simp
      have ih' := ih (pre ++ [x]) fuel (by rw [hp]; simp) (by simp at hf; omega)
      rw [F46_58_eq, h1, ifK_true, h2, chkK_true, c1, slcK_slc, hw, ih', show shGo (x :: r) = ifK (decide ((x.length : Int) > 39)) false (shGo r) from rfl]
      cases decide ((x.length : Int) > 39) <;> rfl
theorem ok46 {f : Bool} (l : List (List Int)) : OK5 46 [.slc f l.length (rows l)] (.bool (shortV l)) := by
  refine fnT none_ok Tryz.func46 (ord := O0) (N := N46) (by kernel_rfl) ((F46_eq _ _ _ _ _ _).trans ?_)
  have h7 : decide ((l.length : Int) > 203) = false → F46_7 (callOf fun _ _ => none) LL C1 f l.length (rows l) = some (.bool (shGo l)) := fun h => by
    simp only [decide_eq_false_iff_not] at h
    rw [F46_7_eq _ _ _ _ _ _ (fun _ => rfl : ∀ t, C1 t = 1)]
    exact go46 (f := f) (by omega) l [] LL rfl (by unfold LL; omega)
  unfold shortV
  cases h3 : decide ((l.length : Int) > 203) with
  | true => cases decide ((l.length : Int) > 8) <;> cases decide ((l.length : Int) ≤ 200) <;> rfl
  | false =>
    rw [h7 h3]
    cases decide ((l.length : Int) > 8) <;> cases decide ((l.length : Int) ≤ 200) <;> rfl
end Go.Pd
end
section
namespace Go.Pd
open Go Go.Proofs Go.RowKit
theorem go20i {call : CL} {f g : Bool} : ∀ (r pre : List Int) (fuel : Nat), (pre ++ r).length ≤ 4611686018427387904 → r.length < fuel → F20_58 call LL C1 fuel f (pre ++ r).length (ints (pre ++ r)) g (pre ++ r).length (ints (pre ++ r)) (pre.length : Int) = some (.bool true)
  | [], pre, fuel + 1, _, _ => by rw [F20_58_eq, end_pre, ifK_false]
  | x :: r, pre, fuel + 1, hB, hf => by
    have ih := go20i (call := call) (f := f) (g := g) r (pre ++ [x]) fuel (by rw [app1]; exact hB) (by simp at hf; omega)
    rw [app1] at ih
    rw [F20_58_eq, lt_pre, ifK_true, in_pre, chkK_true, cell_ints, intK_int, chkK_true, cell_ints, intK_int, step_pre _ _ _ hB, ih, show (x != x) = false by simp, ifK_false]
theorem ok20i {f g : Bool} (l : List Int) (hl : l.length < 4611686018427387904) : OK5 20 [.slc f l.length (ints l), .slc g l.length (ints l)] (.bool true) := by
  refine fnT none_ok Tryz.func20 (ord := O0) (N := N20) (by kernel_rfl) ((F20_eq _ _ _ _ _ _ _ _ _).trans ?_)
  rw [show ((l.length : Int) != l.length) = false by simp, ifK_false]
  exact go20i (f := f) (g := g) l [] LL (by simp; omega) (by unfold LL; omega)
open Classical in
noncomputable def b7 (l : List (List Int)) : FuncId → List D → Option D := fun k ds => match k, ds with
  | 16, [] => some (.bool true)
  | 46, ds => if ds = [.slc false l.length (rows l)] then some (.bool (shortV l)) else none
  | 50, ds => if ds = [.slc false l.length (rows l)] then some (.int .i64 (listsErr l)) else none
  | 48, ds => if ds = [.slc false l.length (rows l)] ∧ ∀ x ∈ l, x.length < 4611686018427387904 then some (ranksR l) else none
  | 47, [.slc _ n c, .slc _ m d] => (match unints c, unints d with
    | some a, some b => if a.length = n ∧ b.length = m ∧ n < 4611686018427387904 ∧ m < 4611686018427387904 then some (ifK (cbErr a b != 0) (.tup [.int .i64 0, .int .i64 (cbErr a b)]) (.tup [.int .i64 (cbV a b), .int .i64 0])) else none
    | _, _ => none)
  | 20, [.slc _ n c, .slc _ m d] => (match unints c with
    | some a => if a.length = n ∧ n = m ∧ c = d ∧ n < 4611686018427387904 then some (.bool true) else none
    | none => none)
  | 20, [.slc true 0 [], .nils] => some (.bool true)
  | k, ds => bT k ds
theorem b7_ok (l : List (List Int)) : CallsT (b7 l) := by
  intro k ds r h
  unfold b7 at h
  split at h
  · cases h; exact awake_ok
  · split at h
    · rename_i hc
      cases h
      rw [hc]
      exact ok46 l
    · cases h
  · split at h
    · rename_i hc
      cases h
      rw [hc]
      exact ok50 l
    · cases h
  · split at h
    · rename_i hc
      cases h
      rw [hc.1]
      exact ok48 l hc.2
    · cases h
  · split at h
    · rename_i a b ha hb
      split at h
      · rename_i hc
        obtain ⟨rfl, rfl, h1, h2⟩ := hc
        cases h
        rw [unints_inv ha, unints_inv hb]
        exact ok47 h1 h2
      · cases h
    · cases h
  · split at h
    · rename_i a ha
      split at h
      · rename_i hc
        obtain ⟨rfl, rfl, rfl, h1⟩ := hc
        cases h
        rw [unints_inv ha]
        exact ok20i a h1
      · cases h
    · cases h
  · cases h; exact ok20n
  · exact bT_ok _ _ _ h
section
variable {l : List (List Int)}
theorem t16 : callOf (b7 l) 16 [] = some (.bool true) := rfl
theorem t46 : callOf (b7 l) 46 [.slc false l.length (rows l)] = some (.bool (shortV l)) := by
  show b7 l 46 [.slc false l.length (rows l)] = _
  unfold b7
  exact if_pos rfl
theorem t50 : callOf (b7 l) 50 [.slc false l.length (rows l)] = some (.int .i64 (listsErr l)) := by
  show b7 l 50 [.slc false l.length (rows l)] = _
  unfold b7
  exact if_pos rfl
theorem t48 (hx : ∀ x ∈ l, x.length < 4611686018427387904) : callOf (b7 l) 48 [.slc false l.length (rows l)] = some (ranksR l) := by
  show b7 l 48 [.slc false l.length (rows l)] = _
  unfold b7
  exact if_pos ⟨rfl, hx⟩
theorem t47 {f g : Bool} {a b : List Int} (ha : a.length < 4611686018427387904) (hb : b.length < 4611686018427387904) : callOf (b7 l) 47 [.slc f a.length (ints a), .slc g b.length (ints b)] = some (ifK (cbErr a b != 0) (.tup [.int .i64 0, .int .i64 (cbErr a b)]) (.tup [.int .i64 (cbV a b), .int .i64 0])) := by
  show b7 l 47 [.slc f a.length (ints a), .slc g b.length (ints b)] = _
  unfold b7
  simp only [unints_ints]
  rw [if_pos ⟨trivial, trivial, ha, hb⟩]
theorem t20 {f g : Bool} {a : List Int} {n : Nat} (hn : n = a.length) (ha : a.length < 4611686018427387904) : callOf (b7 l) 20 [.slc f n (ints a), .slc g n (ints a)] = some (.bool true) := by
  subst hn
  show b7 l 20 [.slc f a.length (ints a), .slc g a.length (ints a)] = _
  unfold b7
  simp only [unints_ints]
  rw [if_pos ⟨trivial, trivial, trivial, ha⟩]
theorem t22 (x y z : Int) : callOf (b7 l) 22 [.slc true 3 [.int .i64 x, .int .i64 y, .int .i64 z]] = some (.int .i64 (fst3 x y z)) := rfl
theorem t51 {f : Bool} {k : Nat} (hk : k ≤ 1000) (hs : sameLen k l) (hl : l.length ≤ 1000) (h0 : 0 < l.length) : callOf (b7 l) 51 [.slc f l.length (rows l)] = some (.slc false l.length (ints (ranksV l))) := at51 (f := f) hk hs hl h0
end
end Go.Pd
end
