/-
  Chapter 5: equations about the table of marks.
  Chapter 5: what functions make of open arguments (printed by the desk's tool, each proved by the kernel): players and cards.
  Chapter 5: names, entries, cards, players: their checks.
  Chapter 5: cards and players checked; the net strokes of a player.
-/
import Derived.Test.YtanpmgfaieekhaaGreatDoorFmA
import Derived.KernelRfl
import Derived.Test.YtanpmgfaieekhaaGreatDoorFmS
import Derived.Test.YtanpmgfaieekhaaGreatDoorFmE
import Derived.Laws.RangeString
import Derived.Laws.RangeAny
section
namespace Go.Pd
open Go Go.Proofs
/-- The marks of entries. -/
def marksD : D := .msnap [.str (ByteArray.mk #[]), .str (ByteArray.mk #[99]), .str (ByteArray.mk #[120]), .str (ByteArray.mk #[45])]
  [.agg [.fn (.func 214) [] [], .fn (.func 117) [] []], .agg [.fn (.func 214) [] [], .fn (.func 216) [] []], .agg [.fn (.func 215) [] [], .fn (.func 217) [] []], .agg [.fn (.func 215) [] [], .fn (.func 218) [] []]]
def cst2 : Cst := fun k ds => match k, ds with
  | 199, [] => some marksD
  | k, ds => cstG k ds
noncomputable def TEk (call : FuncId → List D → Option D) (L : Nat) (C : Nat → Nat) : TE := { TEf call L C with cst := cst2 }
end Go.Pd
end

section
namespace Go.Pd
open Go Go.Proofs
set_option maxRecDepth 100000
theorem F199_eq (call : FuncId → List D → Option D) (L : Nat) (C : Nat → Nat) : evFnT (TEf call L C) O0 N0 FinM.canon Tryz.f199 [] =
  (some (D.msnap ([D.str (ByteArray.mk #[])] ++ [D.str (ByteArray.mk #[99])] ++ [D.str (ByteArray.mk #[120])] ++ [D.str (ByteArray.mk #[45])]) ([D.agg [D.fn (Fn.func 214) [] [], D.fn (Fn.func 117) [] []]] ++ [D.agg [D.fn (Fn.func 214) [] [], D.fn (Fn.func 216) [] []]] ++ [D.agg [D.fn (Fn.func 215) [] [], D.fn (Fn.func 217) [] []]] ++ [D.agg [D.fn (Fn.func 215) [] [], D.fn (Fn.func 218) [] []]]))) := by kernel_rfl

theorem F214_eq (call : FuncId → List D → Option D) (L : Nat) (C : Nat → Nat) (vn : Int) : evFnT (TEf call L C) O0 N0 FinM.canon Tryz.f214 [D.int IntKind.i64 vn] =
  (ifK (decide (vn ≥ 1))
    (some (D.bool (decide (vn ≤ 99))))
    (some (D.bool false))) := by kernel_rfl

theorem F215_eq (call : FuncId → List D → Option D) (L : Nat) (C : Nat → Nat) (vn : Int) : evFnT (TEf call L C) O0 N0 FinM.canon Tryz.f215 [D.int IntKind.i64 vn] =
  (some (D.bool (vn == 0))) := by kernel_rfl

def N143 : NTab := fun p => match p with
  | 26 => some { keep := [0, 6], kl := [], ren := [(6, 6)] }
  | _ => none
noncomputable def F143_26 (call : FuncId → List D → Option D) (L : Nat) (C : Nat → Nat) (n : Nat) (vs : ByteArray) (t6_p : Nat) : Option D :=
  loopAt (TEf call L C) O0 N143 FinM.canon Tryz.f143 [true, false, true, false] []  n (St.mk [D.str vs, J, J, J, J, J, D.loc 6 0 0, J, J, J, J, J, J, J, J, J, J, J, J, J, J, J, J, J, J, J, J, J, J, J, J, J, J, J, J, J, J] [Z, Z, Z, Z, Z, Z, (1, some (Ob.sit vs t6_p)), Z, Z, Z, Z, Z, Z, Z, Z, Z, Z, Z, Z, Z, Z, Z, Z, Z, Z, Z, Z, Z, Z, Z, Z, Z, Z, Z, Z, Z, Z])
theorem F143_26_eq (call : FuncId → List D → Option D) (L : Nat) (C : Nat → Nat) (n : Nat) (vs : ByteArray) (t6_p : Nat) : F143_26 call L C  (n + 1) vs (t6_p) =
  (ifK (decide (t6_p < ByteArray.size vs))
    (optK (call 172 [D.int IntKind.i32 (((Utf8.decode vs t6_p).1 : Nat) : Int)]) fun r =>
      (boolK (r) fun b =>
      (ifK (!b)
        (ifK ((t6_p : Int) == 0)
          (some (D.bool false))
          (ifK ((((Utf8.decode vs t6_p).1 : Nat) : Int) != 95)
            (ifK (decide ((((Utf8.decode vs t6_p).1 : Nat) : Int) < 48))
              (some (D.bool false))
              (ifK (decide ((((Utf8.decode vs t6_p).1 : Nat) : Int) > 57))
                (some (D.bool false))
                (F143_26 call L C n vs (t6_p + Prod.snd (Utf8.decode vs t6_p)))))
            (F143_26 call L C n vs (t6_p + Prod.snd (Utf8.decode vs t6_p)))))
        (F143_26 call L C n vs (t6_p + Prod.snd (Utf8.decode vs t6_p))))))
    (ifK (!ByteArray.toList vs == ByteArray.toList (ByteArray.mk #[]))
      (some (D.bool (decide (((ByteArray.size vs) : Int) ≤ 24))))
      (some (D.bool false)))) := by kernel_rfl
theorem F143_eq (call : FuncId → List D → Option D) (L : Nat) (C : Nat → Nat) (vs : ByteArray) : evFnT (TEf call L C) O0 N143 FinM.canon Tryz.f143 [D.str vs] =
  (F143_26 call L C L vs (0)) := by kernel_rfl

def N130 : NTab := fun p => match p with
  | 7 => some { keep := [0], kl := [], ren := [] }
  | 58 => some { keep := [0, 3], kl := [], ren := [] }
  | 467 => some { keep := [0, 3], kl := [], ren := [] }
  | 3731 => some { keep := [0, 3, 4, 5], kl := [], ren := [] }
  | _ => none
noncomputable def F130_467 (call : FuncId → List D → Option D) (L : Nat) (C : Nat → Nat) (n_1 : Nat) (vs : ByteArray) (vi : Int) : Option D :=
  cutAt (TEf call L C) O0 N130 FinM.canon Tryz.f130 [true, true, false, true, false, false, true, true] [n_1]  (C 467) (St.mk [D.str vs, J, J, D.int IntKind.i64 vi, J, J, J, J, J, J, J, J, J, J, J, J, J, J, J, J, J, J, J, J, J, J, J, J, J, J, J, J, J, J, J, J, J, J, J, J, J, J, J, J, J, J, J, J, J, J, J, J, J, J, J, J] [Z, Z, Z, Z, Z, Z, Z, Z, Z, Z, Z, Z, Z, Z, Z, Z, Z, Z, Z, Z, Z, Z, Z, Z, Z, Z, Z, Z, Z, Z, Z, Z, Z, Z, Z, Z, Z, Z, Z, Z, Z, Z, Z, Z, Z, Z, Z, Z, Z, Z, Z, Z, Z, Z, Z, Z])
noncomputable def F130_3731 (call : FuncId → List D → Option D) (L : Nat) (C : Nat → Nat) (n_1 : Nat) (vs : ByteArray) (vi : Int) (vc : Int) (vletter : Bool) : Option D :=
  cutAt (TEf call L C) O0 N130 FinM.canon Tryz.f130 [true, true, false, true, false, false, true, false, false, true, true] [n_1]  (C 3731) (St.mk [D.str vs, J, J, D.int IntKind.i64 vi, D.int IntKind.u8 vc, D.bool vletter, J, J, J, J, J, J, J, J, J, J, J, J, J, J, J, J, J, J, J, J, J, J, J, J, J, J, J, J, J, J, J, J, J, J, J, J, J, J, J, J, J, J, J, J, J, J, J, J, J, J] [Z, Z, Z, Z, Z, Z, Z, Z, Z, Z, Z, Z, Z, Z, Z, Z, Z, Z, Z, Z, Z, Z, Z, Z, Z, Z, Z, Z, Z, Z, Z, Z, Z, Z, Z, Z, Z, Z, Z, Z, Z, Z, Z, Z, Z, Z, Z, Z, Z, Z, Z, Z, Z, Z, Z, Z])
noncomputable def F130_58 (call : FuncId → List D → Option D) (L : Nat) (C : Nat → Nat) (n_1 : Nat) (vs : ByteArray) (vi : Int) : Option D :=
  loopAt (TEf call L C) O0 N130 FinM.canon Tryz.f130 [true, true, false, true, false] []  n_1 (St.mk [D.str vs, J, J, D.int IntKind.i64 vi, J, J, J, J, J, J, J, J, J, J, J, J, J, J, J, J, J, J, J, J, J, J, J, J, J, J, J, J, J, J, J, J, J, J, J, J, J, J, J, J, J, J, J, J, J, J, J, J, J, J, J, J] [Z, Z, Z, Z, Z, Z, Z, Z, Z, Z, Z, Z, Z, Z, Z, Z, Z, Z, Z, Z, Z, Z, Z, Z, Z, Z, Z, Z, Z, Z, Z, Z, Z, Z, Z, Z, Z, Z, Z, Z, Z, Z, Z, Z, Z, Z, Z, Z, Z, Z, Z, Z, Z, Z, Z, Z])
noncomputable def F130_7 (call : FuncId → List D → Option D) (L : Nat) (C : Nat → Nat) (vs : ByteArray) : Option D :=
  cutAt (TEf call L C) O0 N130 FinM.canon Tryz.f130 [true, true] []  (C 7) (St.mk [D.str vs, J, J, J, J, J, J, J, J, J, J, J, J, J, J, J, J, J, J, J, J, J, J, J, J, J, J, J, J, J, J, J, J, J, J, J, J, J, J, J, J, J, J, J, J, J, J, J, J, J, J, J, J, J, J, J] [Z, Z, Z, Z, Z, Z, Z, Z, Z, Z, Z, Z, Z, Z, Z, Z, Z, Z, Z, Z, Z, Z, Z, Z, Z, Z, Z, Z, Z, Z, Z, Z, Z, Z, Z, Z, Z, Z, Z, Z, Z, Z, Z, Z, Z, Z, Z, Z, Z, Z, Z, Z, Z, Z, Z, Z])
theorem F130_467_eq (call : FuncId → List D → Option D) (L : Nat) (C : Nat → Nat) (n_1 : Nat) (vs : ByteArray) (vi : Int) (hC : ∀ t, C t = 1) : F130_467 call L C n_1 vs vi  =
  (F130_58 call L C n_1 vs (IntKind.wrap IntKind.i64 (vi + 1))) := by
  unfold F130_467
  rw [hC]
  kernel_rfl
theorem F130_3731_eq (call : FuncId → List D → Option D) (L : Nat) (C : Nat → Nat) (n_1 : Nat) (vs : ByteArray) (vi : Int) (vc : Int) (vletter : Bool) (hC : ∀ t, C t = 1) : F130_3731 call L C n_1 vs vi (vc) (vletter) =
  (ifK (!vletter)
    (ifK (vi == 0)
      (some (D.bool false))
      (ifK (decide (vc ≥ 48))
        (ifK (decide (vc ≤ 57))
          (F130_467 call L C n_1 vs vi)
          (ifK (!vc == 95)
            (some (D.bool false))
            (F130_467 call L C n_1 vs vi)))
        (ifK (!vc == 95)
          (some (D.bool false))
          (F130_467 call L C n_1 vs vi))))
    (F130_467 call L C n_1 vs vi)) := by
  unfold F130_3731
  rw [hC]
  kernel_rfl
theorem F130_58_eq (call : FuncId → List D → Option D) (L : Nat) (C : Nat → Nat) (n_1 : Nat) (vs : ByteArray) (vi : Int) : F130_58 call L C  (n_1 + 1) vs (vi) =
  (ifK (decide (vi < ((ByteArray.size vs) : Int)))
    (chkK (decide (0 ≤ vi ∧ Int.toNat vi < ByteArray.size vs))
      (ifK (decide (byteAt vs (Int.toNat vi) ≥ 97))
        (ifK (decide (byteAt vs (Int.toNat vi) ≤ 122))
          (F130_3731 call L C n_1 vs vi (byteAt vs (Int.toNat vi)) (true))
          (ifK (decide (byteAt vs (Int.toNat vi) ≥ 65))
            (F130_3731 call L C n_1 vs vi (byteAt vs (Int.toNat vi)) (decide (byteAt vs (Int.toNat vi) ≤ 90)))
            (F130_3731 call L C n_1 vs vi (byteAt vs (Int.toNat vi)) (false))))
        (ifK (decide (byteAt vs (Int.toNat vi) ≥ 65))
          (F130_3731 call L C n_1 vs vi (byteAt vs (Int.toNat vi)) (decide (byteAt vs (Int.toNat vi) ≤ 90)))
          (F130_3731 call L C n_1 vs vi (byteAt vs (Int.toNat vi)) (false)))))
    (some (D.bool true))) := by kernel_rfl
theorem F130_7_eq (call : FuncId → List D → Option D) (L : Nat) (C : Nat → Nat) (vs : ByteArray) (hC : ∀ t, C t = 1) : F130_7 call L C  vs  =
  (F130_58 call L C L vs (0)) := by
  unfold F130_7
  rw [hC]
  kernel_rfl
theorem F130_eq (call : FuncId → List D → Option D) (L : Nat) (C : Nat → Nat) (vs : ByteArray) : evFnT (TEf call L C) O0 N130 FinM.canon Tryz.f130 [D.str vs] =
  (ifK (decide (((ByteArray.size vs) : Int) < 1))
    (some (D.bool false))
    (ifK (decide (((ByteArray.size vs) : Int) > 24))
      (some (D.bool false))
      (F130_7 call L C vs))) := by kernel_rfl

theorem F172_eq (call : FuncId → List D → Option D) (L : Nat) (C : Nat → Nat) (vc : Int) : evFnT (TEf call L C) O0 N0 FinM.canon Tryz.f172 [D.int IntKind.i32 vc] =
  (ifK (decide (vc ≥ 97))
    (ifK (decide (vc ≤ 122))
      (some (D.bool true))
      (ifK (decide (vc ≥ 65))
        (some (D.bool (decide (vc ≤ 90))))
        (some (D.bool false))))
    (ifK (decide (vc ≥ 65))
      (some (D.bool (decide (vc ≤ 90))))
      (some (D.bool false)))) := by kernel_rfl

theorem F153_eq (call : FuncId → List D → Option D) (L : Nat) (C : Nat → Nat) (vx0 : Int) (vx1 : ByteArray) : evFnT (TEf call L C) O0 N0 FinM.canon Tryz.f153 [D.agg [D.int IntKind.i64 vx0, D.str vx1]] =
  (ifK (ByteArray.toList vx1 == ByteArray.toList (ByteArray.mk #[]))
    (ifK (decide (vx0 < 1))
      (some (D.int IntKind.i64 3))
      (ifK (decide (vx0 > 99))
        (some (D.int IntKind.i64 3))
        (some (D.int IntKind.i64 0))))
    (ifK (ByteArray.toList vx1 == ByteArray.toList (ByteArray.mk #[99]))
      (ifK (decide (vx0 < 1))
        (some (D.int IntKind.i64 3))
        (ifK (decide (vx0 > 99))
          (some (D.int IntKind.i64 3))
          (some (D.int IntKind.i64 0))))
      (ifK (ByteArray.toList vx1 == ByteArray.toList (ByteArray.mk #[120]))
        (ifK (vx0 != 0)
          (some (D.int IntKind.i64 3))
          (some (D.int IntKind.i64 0)))
        (ifK (ByteArray.toList vx1 == ByteArray.toList (ByteArray.mk #[45]))
          (ifK (vx0 != 0)
            (some (D.int IntKind.i64 3))
            (some (D.int IntKind.i64 0)))
          (some (D.int IntKind.i64 13)))))) := by kernel_rfl

def N144 : NTab := fun p => match p with
  | 26 => some { keep := [6, 7, 8], kl := [4], ren := [(4, 4)] }
  | _ => none
noncomputable def F144_26 (call : FuncId → List D → Option D) (L : Nat) (C : Nat → Nat) (n : Nat) (vl_f : Bool) (vl_n : Nat) (vl_c : List D) (t7 : Int) (t8 : Int) : Option D :=
  loopAt (TEf call L C) O0 N144 FinM.canon Tryz.f144 [true, false, true, false] []  n (St.mk [J, J, J, J, J, J, D.slc vl_f vl_n vl_c, D.int IntKind.i64 t7, D.int IntKind.i64 t8, J, J, J, J, J, J, J, J, J] [Z, Z, Z, Z, Z, Z, Z, Z, Z, Z, Z, Z, Z, Z, Z, Z, Z, Z])
theorem F144_26_eq (call : FuncId → List D → Option D) (L : Nat) (C : Nat → Nat) (n : Nat) (vl_f : Bool) (vl_n : Nat) (vl_c : List D) (t7 : Int) (t8 : Int) : F144_26 call L C  (n + 1) vl_f vl_n vl_c (t7) (t8) =
  (ifK (decide (t8 < t7))
    (chkK (decide (0 ≤ t8 ∧ t8 < (vl_n : Int)))
      (cellK (vl_c) (Int.toNat t8 * 2 + 0) fun d =>
      (intK IntKind.i64 (d) fun x =>
      (cellK (vl_c) (Int.toNat t8 * 2 + 1) fun d_1 =>
      (strK (d_1) fun s =>
      (optK (call 173 [D.agg [D.int IntKind.i64 x, D.str s]]) fun r =>
        (intK IntKind.i64 (r) fun x_1 =>
        (ifK (x_1 != 0)
          (some (D.int IntKind.i64 x_1))
          (F144_26 call L C n vl_f vl_n vl_c (t7) (IntKind.wrap IntKind.i64 (t8 + 1)))))))))))
    (some (D.int IntKind.i64 0))) := by kernel_rfl
theorem F144_eq (call : FuncId → List D → Option D) (L : Nat) (C : Nat → Nat) (vl_f : Bool) (vl_n : Nat) (vl_c : List D) : evFnT (TEf call L C) O0 N144 FinM.canon Tryz.f144 [D.slc vl_f vl_n vl_c] =
  (F144_26 call L C L vl_f vl_n vl_c ((vl_n : Int)) (0)) := by kernel_rfl

def N131 : NTab := fun p => match p with
  | 26 => some { keep := [0, 3], kl := [], ren := [] }
  | _ => none
noncomputable def F131_26 (call : FuncId → List D → Option D) (L : Nat) (C : Nat → Nat) (n : Nat) (vl_f : Bool) (vl_n : Nat) (vl_c : List D) (vi : Int) : Option D :=
  loopAt (TEf call L C) O0 N131 FinM.canon Tryz.f131 [true, false, true, false] []  n (St.mk [D.slc vl_f vl_n vl_c, J, J, D.int IntKind.i64 vi, J, J, J, J, J, J, J, J, J, J, J, J, J, J, J] [Z, Z, Z, Z, Z, Z, Z, Z, Z, Z, Z, Z, Z, Z, Z, Z, Z, Z, Z])
theorem F131_26_eq (call : FuncId → List D → Option D) (L : Nat) (C : Nat → Nat) (n : Nat) (vl_f : Bool) (vl_n : Nat) (vl_c : List D) (vi : Int) : F131_26 call L C  (n + 1) vl_f vl_n vl_c (vi) =
  (ifK (decide (vi < (vl_n : Int)))
    (chkK (decide (0 ≤ vi ∧ vi < (vl_n : Int)))
      (cellK (vl_c) (Int.toNat vi * 2 + 0) fun d =>
      (intK IntKind.i64 (d) fun x =>
      (cellK (vl_c) (Int.toNat vi * 2 + 1) fun d_1 =>
      (strK (d_1) fun s =>
      (optK (call 153 [D.agg [D.int IntKind.i64 x, D.str s]]) fun r =>
        (intK IntKind.i64 (r) fun x_1 =>
        (ifK (x_1 != 0)
          (some (D.int IntKind.i64 x_1))
          (F131_26 call L C n vl_f vl_n vl_c (IntKind.wrap IntKind.i64 (vi + 1)))))))))))
    (some (D.int IntKind.i64 0))) := by kernel_rfl
theorem F131_eq (call : FuncId → List D → Option D) (L : Nat) (C : Nat → Nat) (vl_f : Bool) (vl_n : Nat) (vl_c : List D) : evFnT (TEf call L C) O0 N131 FinM.canon Tryz.f131 [D.slc vl_f vl_n vl_c] =
  (F131_26 call L C L vl_f vl_n vl_c (0)) := by kernel_rfl

theorem F114_eq (call : FuncId → List D → Option D) (L : Nat) (C : Nat → Nat) (vh_f : Bool) (vh_n : Nat) (vh_c : List D) (vc0 : ByteArray) (vc1_f : Bool) (vc1_n : Nat) (vc1_c : List D) : evFnT (TEf call L C) O0 N0 FinM.canon Tryz.f114 [D.slc vh_f vh_n vh_c, D.agg [D.str vc0, D.slc vc1_f vc1_n vc1_c]] =
  (optK (call 82 [D.slc vh_f vh_n vh_c]) fun r =>
    (intK IntKind.i64 (r) fun x =>
    (optK (call 143 [D.str vc0]) fun r_1 =>
      (boolK (r_1) fun b =>
      (optK (call 127 [D.bool !b, D.int IntKind.i64 8]) fun r_2 =>
        (intK IntKind.i64 (r_2) fun x_1 =>
        (optK (call 127 [D.bool ((vc1_n : Int) != (vh_n : Int)), D.int IntKind.i64 2]) fun r_3 =>
          (intK IntKind.i64 (r_3) fun x_2 =>
          (optK (call 144 [D.slc vc1_f vc1_n vc1_c]) fun r_4 =>
            (intK IntKind.i64 (r_4) fun x_3 =>
            (optK (call 126 [D.slc true 4 [D.int IntKind.i64 x, D.int IntKind.i64 x_1, D.int IntKind.i64 x_2, D.int IntKind.i64 x_3]]) fun r_5 =>
              (intK IntKind.i64 (r_5) fun x_4 =>
              (some (D.int IntKind.i64 x_4)))))))))))))) := by kernel_rfl

def N90 : NTab := fun p => match p with
  | 15 => some { keep := [0, 3, 5], kl := [], ren := [(3, 3)] }
  | 31 => some { keep := [3, 5], kl := [], ren := [(3, 3)] }
  | _ => none
noncomputable def F90_31 (call : FuncId → List D → Option D) (L : Nat) (C : Nat → Nat) (vc0 : ByteArray) (vc1_f : Bool) (vc1_n : Nat) (vc1_c : List D) (ve_1 : Int) : Option D :=
  cutAt (TEf call L C) O0 N90 FinM.canon Tryz.f90 [true, true, true, true] []  (C 31) (St.mk [J, J, J, D.loc 3 0 0, J, D.int IntKind.i64 ve_1, J, J, J, J, J, J, J, J, J, J, J, J, J, J, J, J, J, J, J, J, J, J, J, J, J, J] [Z, Z, Z, (1, some (Ob.box [D.str vc0, D.slc vc1_f vc1_n vc1_c] false)), Z, Z, Z, Z, Z, Z, Z, Z, Z, Z, Z, Z, Z, Z, Z, Z, Z, Z, Z, Z, Z, Z, Z, Z, Z, Z, Z, Z])
noncomputable def F90_15 (call : FuncId → List D → Option D) (L : Nat) (C : Nat → Nat) (vh_f : Bool) (vh_n : Nat) (vh_c : List D) (vc0 : ByteArray) (vc1_f : Bool) (vc1_n : Nat) (vc1_c : List D) (ve : Int) : Option D :=
  cutAt (TEf call L C) O0 N90 FinM.canon Tryz.f90 [true, true, true] []  (C 15) (St.mk [D.slc vh_f vh_n vh_c, J, J, D.loc 3 0 0, J, D.int IntKind.i64 ve, J, J, J, J, J, J, J, J, J, J, J, J, J, J, J, J, J, J, J, J, J, J, J, J, J, J] [Z, Z, Z, (1, some (Ob.box [D.str vc0, D.slc vc1_f vc1_n vc1_c] false)), Z, Z, Z, Z, Z, Z, Z, Z, Z, Z, Z, Z, Z, Z, Z, Z, Z, Z, Z, Z, Z, Z, Z, Z, Z, Z, Z, Z])
theorem F90_31_eq (call : FuncId → List D → Option D) (L : Nat) (C : Nat → Nat) (vc0 : ByteArray) (vc1_f : Bool) (vc1_n : Nat) (vc1_c : List D) (ve_1 : Int) (hC : ∀ t, C t = 1) : F90_31 call L C  vc0 vc1_f vc1_n vc1_c (ve_1) =
  (ifK (ve_1 == 0)
    (optK (call 131 [D.slc vc1_f vc1_n vc1_c]) fun r_2 =>
      (intK IntKind.i64 (r_2) fun x_1 =>
      (some (D.int IntKind.i64 x_1))))
    (some (D.int IntKind.i64 ve_1))) := by
  unfold F90_31
  rw [hC]
  kernel_rfl
theorem F90_15_eq (call : FuncId → List D → Option D) (L : Nat) (C : Nat → Nat) (vh_f : Bool) (vh_n : Nat) (vh_c : List D) (vc0 : ByteArray) (vc1_f : Bool) (vc1_n : Nat) (vc1_c : List D) (ve : Int) (hC : ∀ t, C t = 1) : F90_15 call L C  vh_f vh_n vh_c vc0 vc1_f vc1_n vc1_c (ve) =
  (ifK (ve == 0)
    (ifK ((vc1_n : Int) != (vh_n : Int))
      (F90_31 call L C vc0 vc1_f vc1_n vc1_c (2))
      (F90_31 call L C vc0 vc1_f vc1_n vc1_c (ve)))
    (F90_31 call L C vc0 vc1_f vc1_n vc1_c (ve))) := by
  unfold F90_15
  rw [hC]
  kernel_rfl
theorem F90_eq (call : FuncId → List D → Option D) (L : Nat) (C : Nat → Nat) (vh_f : Bool) (vh_n : Nat) (vh_c : List D) (vc0 : ByteArray) (vc1_f : Bool) (vc1_n : Nat) (vc1_c : List D) : evFnT (TEf call L C) O0 N90 FinM.canon Tryz.f90 [D.slc vh_f vh_n vh_c, D.agg [D.str vc0, D.slc vc1_f vc1_n vc1_c]] =
  (optK (call 39 [D.slc vh_f vh_n vh_c]) fun r =>
    (intK IntKind.i64 (r) fun x =>
    (ifK (x == 0)
      (optK (call 130 [D.str vc0]) fun r_1 =>
        (boolK (r_1) fun b =>
        (ifK (!b)
          (F90_15 call L C vh_f vh_n vh_c vc0 vc1_f vc1_n vc1_c (8))
          (F90_15 call L C vh_f vh_n vh_c vc0 vc1_f vc1_n vc1_c (x)))))
      (F90_15 call L C vh_f vh_n vh_c vc0 vc1_f vc1_n vc1_c (x))))) := by kernel_rfl

theorem F57_eq (call : FuncId → List D → Option D) (L : Nat) (C : Nat → Nat) (vh_f : Bool) (vh_n : Nat) (vh_c : List D) (vp0 : ByteArray) (vp1_f : Bool) (vp1_n : Nat) (vp1_c : List D) (vp2 : Int) : evFnT (TEf call L C) O0 N0 FinM.canon Tryz.f57 [D.slc vh_f vh_n vh_c, D.agg [D.str vp0, D.slc vp1_f vp1_n vp1_c, D.int IntKind.i64 vp2]] =
  (optK (call 82 [D.slc vh_f vh_n vh_c]) fun r =>
    (intK IntKind.i64 (r) fun x =>
    (ifK (x != 0)
      (some (D.int IntKind.i64 x))
      (optK (call 114 [D.slc vh_f vh_n vh_c, D.agg [D.str vp0, D.slc vp1_f vp1_n vp1_c]]) fun r_1 =>
        (intK IntKind.i64 (r_1) fun x_1 =>
        (optK (call 84 [D.int IntKind.i64 vp2, D.int IntKind.i64 99]) fun r_2 =>
          (boolK (r_2) fun b =>
          (optK (call 83 [D.bool b, D.int IntKind.i64 3]) fun r_3 =>
            (intK IntKind.i64 (r_3) fun x_2 =>
            (optK (call 81 [D.slc true 2 [D.int IntKind.i64 x_1, D.int IntKind.i64 x_2]]) fun r_4 =>
              (intK IntKind.i64 (r_4) fun x_3 =>
              (some (D.int IntKind.i64 x_3))))))))))))) := by kernel_rfl

theorem F23_eq (call : FuncId → List D → Option D) (L : Nat) (C : Nat → Nat) (vh_f : Bool) (vh_n : Nat) (vh_c : List D) (vp0 : ByteArray) (vp1_f : Bool) (vp1_n : Nat) (vp1_c : List D) (vp2 : Int) : evFnT (TEf call L C) O0 N0 FinM.canon Tryz.f23 [D.slc vh_f vh_n vh_c, D.agg [D.str vp0, D.slc vp1_f vp1_n vp1_c, D.int IntKind.i64 vp2]] =
  (optK (call 90 [D.slc vh_f vh_n vh_c, D.agg [D.str vp0, D.slc vp1_f vp1_n vp1_c]]) fun r =>
    (intK IntKind.i64 (r) fun x =>
    (ifK (x == 0)
      (optK (call 86 [D.int IntKind.i64 vp2]) fun r_1 =>
        (boolK (r_1) fun b =>
        (ifK (b)
          (some (D.int IntKind.i64 3))
          (some (D.int IntKind.i64 x)))))
      (some (D.int IntKind.i64 x))))) := by kernel_rfl

def N26 : NTab := fun p => match p with
  | 122 => some { keep := [0, 3, 5, 6, 7], kl := [8], ren := [(3, 3), (8, 8), (38, 38), (49, 38)] }
  | 7827 => some { keep := [0, 3, 5, 6, 7, 8, 32], kl := [], ren := [(3, 3), (8, 8), (38, 38), (49, 38)] }
  | _ => none
noncomputable def F26_7827 (call : FuncId → List D → Option D) (L : Nat) (C : Nat → Nat) (n_1 : Nat) (vh_f : Bool) (vh_n : Nat) (vh_c : List D) (vgiven_f : Bool) (vgiven_n : Nat) (vgiven_c : List D) (vi : Int) (vp0 : ByteArray) (vp1_f : Bool) (vp1_n : Nat) (vp1_c : List D) (vp2 : Int) (vl_1 : Ow) (t32 : Bool) (vx : Int) (vx1 : ByteArray) : Option D :=
  cutAt (TEf call L C) O0 N26 FinM.canon Tryz.f26 [true, true, true, false, true, false, false, true, false, false, true, true] [n_1]  (C 7827) (St.mk [D.slc vh_f vh_n vh_c, J, J, D.loc 3 0 0, J, D.slc vgiven_f vgiven_n vgiven_c, ownD 38 vl_1, D.int IntKind.i64 vi, D.loc 8 0 0, J, J, J, J, J, J, J, J, J, J, J, J, J, J, J, J, J, J, J, J, J, J, J, D.bool t32, J, J, J, J, J, J, J, J, J, J, J, J, J, J, J, J, J, J] [Z, Z, Z, (1, some (Ob.box [D.str vp0, D.slc vp1_f vp1_n vp1_c, D.int IntKind.i64 vp2] false)), Z, Z, Z, Z, (1, some (Ob.box [D.int IntKind.i64 vx, D.str vx1] false)), Z, Z, Z, Z, Z, Z, Z, Z, Z, Z, Z, Z, Z, Z, Z, Z, Z, Z, Z, Z, Z, Z, Z, Z, Z, Z, Z, Z, Z, ownO 137 2 vl_1, Z, Z, Z, Z, Z, Z, Z, Z, Z, Z, Z, Z])
noncomputable def F26_122 (call : FuncId → List D → Option D) (L : Nat) (C : Nat → Nat) (n_1 : Nat) (vh_f : Bool) (vh_n : Nat) (vh_c : List D) (vp0 : ByteArray) (vp1_f : Bool) (vp1_n : Nat) (vp1_c : List D) (vp2 : Int) (vgiven_f : Bool) (vgiven_n : Nat) (vgiven_c : List D) (vl : Ow) (vi : Int) : Option D :=
  loopAt (TEf call L C) O0 N26 FinM.canon Tryz.f26 [true, true, true, false, true, false] []  n_1 (St.mk [D.slc vh_f vh_n vh_c, J, J, D.loc 3 0 0, J, D.slc vgiven_f vgiven_n vgiven_c, ownD 38 vl, D.int IntKind.i64 vi, J, J, J, J, J, J, J, J, J, J, J, J, J, J, J, J, J, J, J, J, J, J, J, J, J, J, J, J, J, J, J, J, J, J, J, J, J, J, J, J, J, J, J] [Z, Z, Z, (1, some (Ob.box [D.str vp0, D.slc vp1_f vp1_n vp1_c, D.int IntKind.i64 vp2] false)), Z, Z, Z, Z, Z, Z, Z, Z, Z, Z, Z, Z, Z, Z, Z, Z, Z, Z, Z, Z, Z, Z, Z, Z, Z, Z, Z, Z, Z, Z, Z, Z, Z, Z, ownO 137 2 vl, Z, Z, Z, Z, Z, Z, Z, Z, Z, Z, Z, Z])
theorem F26_7827_eqn (call : FuncId → List D → Option D) (L : Nat) (C : Nat → Nat) (n_1 : Nat) (vh_f : Bool) (vh_n : Nat) (vh_c : List D) (vgiven_f : Bool) (vgiven_n : Nat) (vgiven_c : List D) (vi : Int) (vp0 : ByteArray) (vp1_f : Bool) (vp1_n : Nat) (vp1_c : List D) (vp2 : Int) (t32 : Bool) (vx : Int) (vx1 : ByteArray) (hC : ∀ t, C t = 1) : F26_7827 call L C n_1 vh_f vh_n vh_c vgiven_f vgiven_n vgiven_c vi vp0 vp1_f vp1_n vp1_c vp2 (Ow.nil) (t32) (vx) (vx1) =
  (ifK (t32)
    (F26_122 call L C n_1 vh_f vh_n vh_c vp0 vp1_f vp1_n vp1_c vp2 (vgiven_f) (vgiven_n) (vgiven_c) (Ow.own 1 [D.int IntKind.i64 0, D.str vx1]) (IntKind.wrap IntKind.i64 (vi + 1)))
    (chkK (decide (0 ≤ vi ∧ vi < (vgiven_n : Int)))
      (cellK (vgiven_c) (Int.toNat vi * 1) fun d_2 =>
      (intK IntKind.i64 (d_2) fun x_1 =>
      (F26_122 call L C n_1 vh_f vh_n vh_c vp0 vp1_f vp1_n vp1_c vp2 (vgiven_f) (vgiven_n) (vgiven_c) (Ow.own 1 [D.int IntKind.i64 (IntKind.wrap IntKind.i64 (vx - x_1)), D.str (ByteArray.mk #[])]) (IntKind.wrap IntKind.i64 (vi + 1))))))) := by
  unfold F26_7827
  rw [hC]
  kernel_rfl
theorem F26_7827_eqo (call : FuncId → List D → Option D) (L : Nat) (C : Nat → Nat) (n_1 : Nat) (vh_f : Bool) (vh_n : Nat) (vh_c : List D) (vgiven_f : Bool) (vgiven_n : Nat) (vgiven_c : List D) (vi : Int) (vp0 : ByteArray) (vp1_f : Bool) (vp1_n : Nat) (vp1_c : List D) (vp2 : Int) (vl_1_n : Nat) (vl_1_c : List D) (t32 : Bool) (vx : Int) (vx1 : ByteArray) (hC : ∀ t, C t = 1) : F26_7827 call L C n_1 vh_f vh_n vh_c vgiven_f vgiven_n vgiven_c vi vp0 vp1_f vp1_n vp1_c vp2 (Ow.own vl_1_n vl_1_c) (t32) (vx) (vx1) =
  (ifK (t32)
    (chkK (decide ((vl_1_n + 1) * 24 ≤ limit ∧ vl_1_n + 1 ≤ 9223372036854775807))
      (F26_122 call L C n_1 vh_f vh_n vh_c vp0 vp1_f vp1_n vp1_c vp2 (vgiven_f) (vgiven_n) (vgiven_c) (Ow.own (vl_1_n + 1) (vl_1_c ++ [D.int IntKind.i64 0, D.str vx1])) (IntKind.wrap IntKind.i64 (vi + 1))))
    (chkK (decide (0 ≤ vi ∧ vi < (vgiven_n : Int)))
      (cellK (vgiven_c) (Int.toNat vi * 1) fun d_3 =>
      (intK IntKind.i64 (d_3) fun x_2 =>
      (chkK (decide ((vl_1_n + 1) * 24 ≤ limit ∧ vl_1_n + 1 ≤ 9223372036854775807))
        (F26_122 call L C n_1 vh_f vh_n vh_c vp0 vp1_f vp1_n vp1_c vp2 (vgiven_f) (vgiven_n) (vgiven_c) (Ow.own (vl_1_n + 1) (vl_1_c ++ [D.int IntKind.i64 (IntKind.wrap IntKind.i64 (vx - x_2)), D.str (ByteArray.mk #[])])) (IntKind.wrap IntKind.i64 (vi + 1)))))))) := by
  unfold F26_7827
  rw [hC]
  kernel_rfl
theorem F26_122_eqn (call : FuncId → List D → Option D) (L : Nat) (C : Nat → Nat) (n_1 : Nat) (vh_f : Bool) (vh_n : Nat) (vh_c : List D) (vp0 : ByteArray) (vp1_f : Bool) (vp1_n : Nat) (vp1_c : List D) (vp2 : Int) (vgiven_f : Bool) (vgiven_n : Nat) (vgiven_c : List D) (vi : Int) : F26_122 call L C  (n_1 + 1) vh_f vh_n vh_c vp0 vp1_f vp1_n vp1_c vp2 (vgiven_f) (vgiven_n) (vgiven_c) (Ow.nil) (vi) =
  (ifK (decide (vi < (vh_n : Int)))
    (chkK (decide (0 ≤ vi ∧ vi < (vp1_n : Int)))
      (cellK (vp1_c) (Int.toNat vi * 2 + 0) fun d =>
      (intK IntKind.i64 (d) fun x =>
      (cellK (vp1_c) (Int.toNat vi * 2 + 1) fun d_1 =>
      (strK (d_1) fun s =>
      (ifK (ByteArray.toList s == ByteArray.toList (ByteArray.mk #[120]))
        (F26_7827 call L C n_1 vh_f vh_n vh_c vgiven_f vgiven_n vgiven_c vi vp0 vp1_f vp1_n vp1_c vp2 (Ow.nil) (true) (x) (s))
        (F26_7827 call L C n_1 vh_f vh_n vh_c vgiven_f vgiven_n vgiven_c vi vp0 vp1_f vp1_n vp1_c vp2 (Ow.nil) (ByteArray.toList s == ByteArray.toList (ByteArray.mk #[45])) (x) (s))))))))
    (some (D.slc true 0 []))) := by kernel_rfl
theorem F26_122_eqo (call : FuncId → List D → Option D) (L : Nat) (C : Nat → Nat) (n_1 : Nat) (vh_f : Bool) (vh_n : Nat) (vh_c : List D) (vp0 : ByteArray) (vp1_f : Bool) (vp1_n : Nat) (vp1_c : List D) (vp2 : Int) (vgiven_f : Bool) (vgiven_n : Nat) (vgiven_c : List D) (vl_n : Nat) (vl_c : List D) (vi : Int) : F26_122 call L C  (n_1 + 1) vh_f vh_n vh_c vp0 vp1_f vp1_n vp1_c vp2 (vgiven_f) (vgiven_n) (vgiven_c) (Ow.own vl_n vl_c) (vi) =
  (ifK (decide (vi < (vh_n : Int)))
    (chkK (decide (0 ≤ vi ∧ vi < (vp1_n : Int)))
      (cellK (vp1_c) (Int.toNat vi * 2 + 0) fun d_4 =>
      (intK IntKind.i64 (d_4) fun x_3 =>
      (cellK (vp1_c) (Int.toNat vi * 2 + 1) fun d_5 =>
      (strK (d_5) fun s_1 =>
      (ifK (ByteArray.toList s_1 == ByteArray.toList (ByteArray.mk #[120]))
        (F26_7827 call L C n_1 vh_f vh_n vh_c vgiven_f vgiven_n vgiven_c vi vp0 vp1_f vp1_n vp1_c vp2 (Ow.own vl_n vl_c) (true) (x_3) (s_1))
        (F26_7827 call L C n_1 vh_f vh_n vh_c vgiven_f vgiven_n vgiven_c vi vp0 vp1_f vp1_n vp1_c vp2 (Ow.own vl_n vl_c) (ByteArray.toList s_1 == ByteArray.toList (ByteArray.mk #[45])) (x_3) (s_1))))))))
    (some (D.slc false vl_n vl_c))) := by kernel_rfl
theorem F26_eq (call : FuncId → List D → Option D) (L : Nat) (C : Nat → Nat) (vh_f : Bool) (vh_n : Nat) (vh_c : List D) (vp0 : ByteArray) (vp1_f : Bool) (vp1_n : Nat) (vp1_c : List D) (vp2 : Int) : evFnT (TEf call L C) O0 N26 FinM.canon Tryz.f26 [D.slc vh_f vh_n vh_c, D.agg [D.str vp0, D.slc vp1_f vp1_n vp1_c, D.int IntKind.i64 vp2]] =
  (optK (call 19 [D.slc vh_f vh_n vh_c, D.int IntKind.i64 vp2]) fun r =>
    (slcK (r) fun f n c =>
    (F26_122 call L C L vh_f vh_n vh_c vp0 vp1_f vp1_n vp1_c vp2 (f) (n) (c) (Ow.nil) (0)))) := by kernel_rfl

def N89 : NTab := fun p => match p with
  | 122 => some { keep := [5, 6, 15, 16, 17], kl := [2, 8], ren := [(2, 2), (8, 8), (29, 29), (43, 29)] }
  | _ => none
noncomputable def F89_122 (call : FuncId → List D → Option D) (L : Nat) (C : Nat → Nat) (n_1 : Nat) (vp1_f : Bool) (vp1_n : Nat) (vp1_c : List D) (vout : Ow) (vstrokes_f : Bool) (vstrokes_n : Nat) (vstrokes_c : List D) (t16 : Int) (t17 : Int) : Option D :=
  loopAt (TEf call L C) O0 N89 FinM.canon Tryz.f89 [true, true, true, false, true, false] []  n_1 (St.mk [J, J, J, J, J, ownD 29 vout, D.slc vstrokes_f vstrokes_n vstrokes_c, J, J, J, J, J, J, J, J, D.slc vp1_f vp1_n vp1_c, D.int IntKind.i64 t16, D.int IntKind.i64 t17, J, J, J, J, J, J, J, J, J, J, J, J, J, J, J, J, J, J, J, J, J, J, J, J, J, J, J, J] [Z, Z, Z, Z, Z, Z, Z, Z, Z, Z, Z, Z, Z, Z, Z, Z, Z, Z, Z, Z, Z, Z, Z, Z, Z, Z, Z, Z, Z, ownO 88 2 vout, Z, Z, Z, Z, Z, Z, Z, Z, Z, Z, Z, Z, Z, Z, Z, Z])
theorem F89_122_eqn (call : FuncId → List D → Option D) (L : Nat) (C : Nat → Nat) (n_1 : Nat) (vp1_f : Bool) (vp1_n : Nat) (vp1_c : List D) (vstrokes_f : Bool) (vstrokes_n : Nat) (vstrokes_c : List D) (t16 : Int) (t17 : Int) : F89_122 call L C  (n_1 + 1) vp1_f vp1_n vp1_c (Ow.nil) (vstrokes_f) (vstrokes_n) (vstrokes_c) (t16) (t17) =
  (ifK (decide (t17 < t16))
    (chkK (decide (0 ≤ t17 ∧ t17 < (vp1_n : Int)))
      (cellK (vp1_c) (Int.toNat t17 * 2 + 0) fun d =>
      (intK IntKind.i64 (d) fun x =>
      (cellK (vp1_c) (Int.toNat t17 * 2 + 1) fun d_1 =>
      (strK (d_1) fun s =>
      (ifK (ByteArray.toList s == ByteArray.toList (ByteArray.mk #[]))
        (chkK (decide (0 ≤ t17 ∧ t17 < (vstrokes_n : Int)))
          (cellK (vstrokes_c) (Int.toNat t17 * 1) fun d_2 =>
          (intK IntKind.i64 (d_2) fun x_1 =>
          (F89_122 call L C n_1 vp1_f vp1_n vp1_c (Ow.own 1 [D.int IntKind.i64 (IntKind.wrap IntKind.i64 (x - x_1)), D.str (ByteArray.mk #[])]) (vstrokes_f) (vstrokes_n) (vstrokes_c) (t16) (IntKind.wrap IntKind.i64 (t17 + 1))))))
        (ifK (ByteArray.toList s == ByteArray.toList (ByteArray.mk #[99]))
          (chkK (decide (0 ≤ t17 ∧ t17 < (vstrokes_n : Int)))
            (cellK (vstrokes_c) (Int.toNat t17 * 1) fun d_3 =>
            (intK IntKind.i64 (d_3) fun x_2 =>
            (F89_122 call L C n_1 vp1_f vp1_n vp1_c (Ow.own 1 [D.int IntKind.i64 (IntKind.wrap IntKind.i64 (x - x_2)), D.str (ByteArray.mk #[])]) (vstrokes_f) (vstrokes_n) (vstrokes_c) (t16) (IntKind.wrap IntKind.i64 (t17 + 1))))))
          (F89_122 call L C n_1 vp1_f vp1_n vp1_c (Ow.own 1 [D.int IntKind.i64 0, D.str s]) (vstrokes_f) (vstrokes_n) (vstrokes_c) (t16) (IntKind.wrap IntKind.i64 (t17 + 1))))))))))
    (some (D.slc true 0 []))) := by kernel_rfl
theorem F89_122_eqo (call : FuncId → List D → Option D) (L : Nat) (C : Nat → Nat) (n_1 : Nat) (vp1_f : Bool) (vp1_n : Nat) (vp1_c : List D) (vout_n : Nat) (vout_c : List D) (vstrokes_f : Bool) (vstrokes_n : Nat) (vstrokes_c : List D) (t16 : Int) (t17 : Int) : F89_122 call L C  (n_1 + 1) vp1_f vp1_n vp1_c (Ow.own vout_n vout_c) (vstrokes_f) (vstrokes_n) (vstrokes_c) (t16) (t17) =
  (ifK (decide (t17 < t16))
    (chkK (decide (0 ≤ t17 ∧ t17 < (vp1_n : Int)))
      (cellK (vp1_c) (Int.toNat t17 * 2 + 0) fun d_4 =>
      (intK IntKind.i64 (d_4) fun x_3 =>
      (cellK (vp1_c) (Int.toNat t17 * 2 + 1) fun d_5 =>
      (strK (d_5) fun s_1 =>
      (ifK (ByteArray.toList s_1 == ByteArray.toList (ByteArray.mk #[]))
        (chkK (decide (0 ≤ t17 ∧ t17 < (vstrokes_n : Int)))
          (cellK (vstrokes_c) (Int.toNat t17 * 1) fun d_6 =>
          (intK IntKind.i64 (d_6) fun x_4 =>
          (chkK (decide ((vout_n + 1) * 24 ≤ limit ∧ vout_n + 1 ≤ 9223372036854775807))
            (F89_122 call L C n_1 vp1_f vp1_n vp1_c (Ow.own (vout_n + 1) (vout_c ++ [D.int IntKind.i64 (IntKind.wrap IntKind.i64 (x_3 - x_4)), D.str (ByteArray.mk #[])])) (vstrokes_f) (vstrokes_n) (vstrokes_c) (t16) (IntKind.wrap IntKind.i64 (t17 + 1)))))))
        (ifK (ByteArray.toList s_1 == ByteArray.toList (ByteArray.mk #[99]))
          (chkK (decide (0 ≤ t17 ∧ t17 < (vstrokes_n : Int)))
            (cellK (vstrokes_c) (Int.toNat t17 * 1) fun d_7 =>
            (intK IntKind.i64 (d_7) fun x_5 =>
            (chkK (decide ((vout_n + 1) * 24 ≤ limit ∧ vout_n + 1 ≤ 9223372036854775807))
              (F89_122 call L C n_1 vp1_f vp1_n vp1_c (Ow.own (vout_n + 1) (vout_c ++ [D.int IntKind.i64 (IntKind.wrap IntKind.i64 (x_3 - x_5)), D.str (ByteArray.mk #[])])) (vstrokes_f) (vstrokes_n) (vstrokes_c) (t16) (IntKind.wrap IntKind.i64 (t17 + 1)))))))
          (chkK (decide ((vout_n + 1) * 24 ≤ limit ∧ vout_n + 1 ≤ 9223372036854775807))
            (F89_122 call L C n_1 vp1_f vp1_n vp1_c (Ow.own (vout_n + 1) (vout_c ++ [D.int IntKind.i64 0, D.str s_1])) (vstrokes_f) (vstrokes_n) (vstrokes_c) (t16) (IntKind.wrap IntKind.i64 (t17 + 1)))))))))))
    (some (D.slc false vout_n vout_c))) := by kernel_rfl
theorem F89_eq (call : FuncId → List D → Option D) (L : Nat) (C : Nat → Nat) (vp0 : ByteArray) (vp1_f : Bool) (vp1_n : Nat) (vp1_c : List D) (vp2 : Int) (vh_f : Bool) (vh_n : Nat) (vh_c : List D) : evFnT (TEf call L C) O0 N89 FinM.canon Tryz.f89 [D.agg [D.str vp0, D.slc vp1_f vp1_n vp1_c, D.int IntKind.i64 vp2], D.slc vh_f vh_n vh_c] =
  (optK (call 85 [D.slc vh_f vh_n vh_c, D.int IntKind.i64 vp2]) fun r =>
    (slcK (r) fun f n c =>
    (F89_122 call L C L vp1_f vp1_n vp1_c (Ow.nil) (f) (n) (c) ((vp1_n : Int)) (0)))) := by kernel_rfl

def N87 : NTab := fun p => match p with
  | 58 => some { keep := [0, 5, 10, 11, 12], kl := [7], ren := [(7, 7), (9, 9)] }
  | _ => none
noncomputable def F87_58 (call : FuncId → List D → Option D) (L : Nat) (C : Nat → Nat) (n : Nat) (vh_f : Bool) (vh_n : Nat) (vh_c : List D) (vl_f : Bool) (vl_n : Nat) (vl_c : List D) (t11 : Int) (t12 : Int) (t9_k : List D) (t9_v : List D) : Option D :=
  loopAt (TEf call L C) O0 N87 FinM.canon Tryz.f87 [true, true, false, true, false] []  n (St.mk [D.slc vh_f vh_n vh_c, J, J, J, J, D.mloc 9 0, J, J, J, J, D.slc vl_f vl_n vl_c, D.int IntKind.i64 t11, D.int IntKind.i64 t12, J, J, J, J, J, J, J, J, J, J, J, J, J, J, J, J, J, J, J, J, J, J] [Z, Z, Z, Z, Z, Z, Z, Z, Z, (1, some (Ob.map t9_k t9_v false)), Z, Z, Z, Z, Z, Z, Z, Z, Z, Z, Z, Z, Z, Z, Z, Z, Z, Z, Z, Z, Z, Z, Z, Z, Z])
theorem F87_58_eq (call : FuncId → List D → Option D) (L : Nat) (C : Nat → Nat) (n : Nat) (vh_f : Bool) (vh_n : Nat) (vh_c : List D) (vl_f : Bool) (vl_n : Nat) (vl_c : List D) (t11 : Int) (t12 : Int) (t9_k : List D) (t9_v : List D) : F87_58 call L C  (n + 1) vh_f vh_n vh_c vl_f vl_n vl_c (t11) (t12) (t9_k) (t9_v) =
  (ifK (decide (t12 < t11))
    (chkK (decide (0 ≤ t12 ∧ t12 < (vl_n : Int)))
      (cellK (vl_c) (Int.toNat t12 * 3 + 0) fun d =>
      (strK (d) fun s =>
      (cellK (vl_c) (Int.toNat t12 * 3 + 1) fun d_1 =>
      (slcK (d_1) fun f n_1 c =>
      (cellK (vl_c) (Int.toNat t12 * 3 + 2) fun d_2 =>
      (intK IntKind.i64 (d_2) fun x =>
      (optK (call 57 [D.slc vh_f vh_n vh_c, D.agg [D.str s, D.slc f n_1 c, D.int IntKind.i64 x]]) fun r =>
        (intK IntKind.i64 (r) fun x_1 =>
        (findK (findD (D.str s) t9_k 0)
          (optK (call 83 [D.bool false, D.int IntKind.i64 9]) fun r_1 =>
            (intK IntKind.i64 (r_1) fun x_2 =>
            (optK (call 81 [D.slc true 2 [D.int IntKind.i64 x_1, D.int IntKind.i64 x_2]]) fun r_2 =>
              (intK IntKind.i64 (r_2) fun x_3 =>
              (ifK (x_3 != 0)
                (some (D.int IntKind.i64 x_3))
                (updK (updD (D.str s) (D.bool true) t9_k t9_v) fun ks vs =>
                (F87_58 call L C n vh_f vh_n vh_c vl_f vl_n vl_c (t11) (IntKind.wrap IntKind.i64 (t12 + 1)) (ks) (vs)))))))) fun i =>
          (cellK (t9_v) (i) fun d_3 =>
          (boolK (d_3) fun b =>
          (optK (call 83 [D.bool b, D.int IntKind.i64 9]) fun r_3 =>
            (intK IntKind.i64 (r_3) fun x_4 =>
            (optK (call 81 [D.slc true 2 [D.int IntKind.i64 x_1, D.int IntKind.i64 x_4]]) fun r_4 =>
              (intK IntKind.i64 (r_4) fun x_5 =>
              (ifK (x_5 != 0)
                (some (D.int IntKind.i64 x_5))
                (updK (updD (D.str s) (D.bool true) t9_k t9_v) fun ks_1 vs_1 =>
                (F87_58 call L C n vh_f vh_n vh_c vl_f vl_n vl_c (t11) (IntKind.wrap IntKind.i64 (t12 + 1)) (ks_1) (vs_1))))))))))))))))))))
    (some (D.int IntKind.i64 0))) := by kernel_rfl
theorem F87_eq (call : FuncId → List D → Option D) (L : Nat) (C : Nat → Nat) (vh_f : Bool) (vh_n : Nat) (vh_c : List D) (vl_f : Bool) (vl_n : Nat) (vl_c : List D) : evFnT (TEf call L C) O0 N87 FinM.canon Tryz.f87 [D.slc vh_f vh_n vh_c, D.slc vl_f vl_n vl_c] =
  (F87_58 call L C L vh_f vh_n vh_c vl_f vl_n vl_c ((vl_n : Int)) (0) ([]) ([])) := by kernel_rfl

def N40 : NTab := fun p => match p with
  | 26 => some { keep := [0, 1, 5], kl := [], ren := [] }
  | 6734 => some { keep := [0, 1, 5, 7], kl := [], ren := [] }
  | _ => none
noncomputable def F40_6734 (call : FuncId → List D → Option D) (L : Nat) (C : Nat → Nat) (n : Nat) (n_2 : Nat) (vh_f : Bool) (vh_n : Nat) (vh_c : List D) (vl_f : Bool) (vl_n : Nat) (vl_c : List D) (vi : Int) (vk : Int) : Option D :=
  loopAt (TEf call L C) O0 N40 FinM.canon Tryz.f40 [true, false, true, false, false, true, false, false, true, true, true, false] [n]  n_2 (St.mk [D.slc vh_f vh_n vh_c, D.slc vl_f vl_n vl_c, J, J, J, D.int IntKind.i64 vi, J, D.int IntKind.i64 vk, J, J, J, J, J, J, J, J, J, J, J, J, J, J, J, J, J, J, J, J, J, J, J, J, J, J, J, J, J, J, J, J, J] [Z, Z, Z, Z, Z, Z, Z, Z, Z, Z, Z, Z, Z, Z, Z, Z, Z, Z, Z, Z, Z, Z, Z, Z, Z, Z, Z, Z, Z, Z, Z, Z, Z, Z, Z, Z, Z, Z, Z, Z, Z])
noncomputable def F40_26 (call : FuncId → List D → Option D) (L : Nat) (C : Nat → Nat) (n : Nat) (vh_f : Bool) (vh_n : Nat) (vh_c : List D) (vl_f : Bool) (vl_n : Nat) (vl_c : List D) (vi : Int) : Option D :=
  loopAt (TEf call L C) O0 N40 FinM.canon Tryz.f40 [true, false, true, false] []  n (St.mk [D.slc vh_f vh_n vh_c, D.slc vl_f vl_n vl_c, J, J, J, D.int IntKind.i64 vi, J, J, J, J, J, J, J, J, J, J, J, J, J, J, J, J, J, J, J, J, J, J, J, J, J, J, J, J, J, J, J, J, J, J, J] [Z, Z, Z, Z, Z, Z, Z, Z, Z, Z, Z, Z, Z, Z, Z, Z, Z, Z, Z, Z, Z, Z, Z, Z, Z, Z, Z, Z, Z, Z, Z, Z, Z, Z, Z, Z, Z, Z, Z, Z, Z])
theorem F40_6734_eq (call : FuncId → List D → Option D) (L : Nat) (C : Nat → Nat) (n : Nat) (n_2 : Nat) (vh_f : Bool) (vh_n : Nat) (vh_c : List D) (vl_f : Bool) (vl_n : Nat) (vl_c : List D) (vi : Int) (vk : Int) : F40_6734 call L C n (n_2 + 1) vh_f vh_n vh_c vl_f vl_n vl_c vi (vk) =
  (ifK (decide (vk < vi))
    (chkK (decide (0 ≤ vk ∧ vk < (vl_n : Int)))
      (cellK (vl_c) (Int.toNat vk * 3 + 0 + 0) fun d_3 =>
      (strK (d_3) fun s_1 =>
      (chkK (decide (0 ≤ vi ∧ vi < (vl_n : Int)))
        (cellK (vl_c) (Int.toNat vi * 3 + 0 + 0) fun d_4 =>
        (strK (d_4) fun s_2 =>
        (ifK (ByteArray.toList s_1 == ByteArray.toList s_2)
          (some (D.int IntKind.i64 9))
          (F40_6734 call L C n n_2 vh_f vh_n vh_c vl_f vl_n vl_c vi (IntKind.wrap IntKind.i64 (vk + 1))))))))))
    (F40_26 call L C n vh_f vh_n vh_c vl_f vl_n vl_c (IntKind.wrap IntKind.i64 (vi + 1)))) := by kernel_rfl
theorem F40_26_eq (call : FuncId → List D → Option D) (L : Nat) (C : Nat → Nat) (n : Nat) (vh_f : Bool) (vh_n : Nat) (vh_c : List D) (vl_f : Bool) (vl_n : Nat) (vl_c : List D) (vi : Int) : F40_26 call L C  (n + 1) vh_f vh_n vh_c vl_f vl_n vl_c (vi) =
  (ifK (decide (vi < (vl_n : Int)))
    (chkK (decide (0 ≤ vi ∧ vi < (vl_n : Int)))
      (cellK (vl_c) (Int.toNat vi * 3 + 0) fun d =>
      (strK (d) fun s =>
      (cellK (vl_c) (Int.toNat vi * 3 + 1) fun d_1 =>
      (slcK (d_1) fun f n_1 c =>
      (cellK (vl_c) (Int.toNat vi * 3 + 2) fun d_2 =>
      (intK IntKind.i64 (d_2) fun x =>
      (optK (call 23 [D.slc vh_f vh_n vh_c, D.agg [D.str s, D.slc f n_1 c, D.int IntKind.i64 x]]) fun r =>
        (intK IntKind.i64 (r) fun x_1 =>
        (ifK (x_1 != 0)
          (some (D.int IntKind.i64 x_1))
          (F40_6734 call L C n L vh_f vh_n vh_c vl_f vl_n vl_c vi (0))))))))))))
    (some (D.int IntKind.i64 0))) := by kernel_rfl
theorem F40_eq (call : FuncId → List D → Option D) (L : Nat) (C : Nat → Nat) (vh_f : Bool) (vh_n : Nat) (vh_c : List D) (vl_f : Bool) (vl_n : Nat) (vl_c : List D) : evFnT (TEf call L C) O0 N40 FinM.canon Tryz.f40 [D.slc vh_f vh_n vh_c, D.slc vl_f vl_n vl_c] =
  (F40_26 call L C L vh_f vh_n vh_c vl_f vl_n vl_c (0)) := by kernel_rfl

def O173 : Ord := fun id => match id with
  | 1 => some { l := some [0, 1, 2, 3, 4, 5, 6, 7, 8, 9], ks := [3] }
  | _ => none
theorem F173_eq (call : FuncId → List D → Option D) (L : Nat) (C : Nat → Nat) (vx0 : Int) (vx1 : ByteArray) : evFnT (TEk call L C) O173 N0 FinM.canon Tryz.f173 [D.agg [D.int IntKind.i64 vx0, D.str vx1]] =
  (ifK (ByteArray.toList vx1 == ByteArray.toList (ByteArray.mk #[]))
    (optK (call 214 [D.int IntKind.i64 vx0]) fun r =>
      (boolK (r) fun b =>
      (optK (call 127 [D.bool !b, D.int IntKind.i64 3]) fun r_1 =>
        (intK IntKind.i64 (r_1) fun x =>
        (some (D.int IntKind.i64 x))))))
    (ifK (ByteArray.toList vx1 == ByteArray.toList (ByteArray.mk #[99]))
      (optK (call 214 [D.int IntKind.i64 vx0]) fun r_2 =>
        (boolK (r_2) fun b_1 =>
        (optK (call 127 [D.bool !b_1, D.int IntKind.i64 3]) fun r_3 =>
          (intK IntKind.i64 (r_3) fun x_1 =>
          (some (D.int IntKind.i64 x_1))))))
      (ifK (ByteArray.toList vx1 == ByteArray.toList (ByteArray.mk #[120]))
        (optK (call 215 [D.int IntKind.i64 vx0]) fun r_4 =>
          (boolK (r_4) fun b_2 =>
          (optK (call 127 [D.bool !b_2, D.int IntKind.i64 3]) fun r_5 =>
            (intK IntKind.i64 (r_5) fun x_2 =>
            (some (D.int IntKind.i64 x_2))))))
        (ifK (ByteArray.toList vx1 == ByteArray.toList (ByteArray.mk #[45]))
          (optK (call 215 [D.int IntKind.i64 vx0]) fun r_6 =>
            (boolK (r_6) fun b_3 =>
            (optK (call 127 [D.bool !b_3, D.int IntKind.i64 3]) fun r_7 =>
              (intK IntKind.i64 (r_7) fun x_3 =>
              (some (D.int IntKind.i64 x_3))))))
          (some (D.int IntKind.i64 13)))))) := by kernel_rfl

end Go.Pd
end

section
namespace Go.Pd
open Go Go.Proofs Go.RowKit

/-! ### Names -/
def letterI (c : Int) : Bool := (decide (c ≥ 97) && decide (c ≤ 122)) || (decide (c ≥ 65) && decide (c ≤ 90))
/-- May the byte at a place stand in a name? -/
def nameAt (s : ByteArray) (i : Nat) : Bool := letterI (byteAt s i) || (i != 0 && ((decide (byteAt s i ≥ 48) && decide (byteAt s i ≤ 57)) || byteAt s i == 95))
def nameGo (s : ByteArray) : Nat → Nat → Bool
  | 0, _ => true
  | m + 1, i => nameAt s i && nameGo s m (i + 1)
def nameV (s : ByteArray) : Bool := ifK (decide ((s.size : Int) < 1)) false (ifK (decide ((s.size : Int) > 24)) false (nameGo s s.size 0))
theorem go130 {call : FuncId → List D → Option D} {s : ByteArray} (hs : s.size ≤ 24) : ∀ (m i fuel : Nat), i + m = s.size → m < fuel → F130_58 call LL C1 fuel s i = some (.bool (nameGo s m i)) := by
  intro m
  induction m with
  | zero =>
    intro i fuel hi hf
    cases fuel with
    | zero => exact absurd hf (Nat.not_lt_zero _)
    | succ fuel =>
      have h1 : decide ((i : Int) < (s.size : Int)) = false := by simp; omega
      rw [F130_58_eq, h1, ifK_false]
      rfl
  | succ m ih =>
    intro i fuel hi hf
    cases fuel with
    | zero => exact absurd hf (Nat.not_lt_zero _)
    | succ fuel =>
      have h1 : decide ((i : Int) < (s.size : Int)) = true := by simp; omega
      have h2 : decide ((0 : Int) ≤ i ∧ Int.toNat (i : Int) < s.size) = true := by simp; omega
      have hw : IntKind.wrap .i64 ((i : Int) + 1) = ((i + 1 : Nat) : Int) := by rw [wrap_id (by omega)]; rfl
      have ih := ih (i + 1) fuel (by omega) (by omega)
      have h467 : F130_467 call LL C1 fuel s i = some (.bool (nameGo s m (i + 1))) := by
        rw [F130_467_eq _ _ _ _ _ _ (fun _ => rfl : ∀ t, C1 t = 1), hw, ih]
      have h37 : ∀ (c : Int) (b : Bool), F130_3731 call LL C1 fuel s i c b = some (.bool ((b || (i != 0 && ((decide (c ≥ 48) && decide (c ≤ 57)) || c == 95))) && nameGo s m (i + 1))) := fun c b => by
        rw [F130_3731_eq _ _ _ _ _ _ _ _ (fun _ => rfl : ∀ t, C1 t = 1), h467]
        have hz : ((i : Int) == 0) = !(i != 0) := by
          cases i <;> rfl
        rw [hz]
        generalize (i != 0) = q1
        generalize decide (c ≥ 48) = q2
        generalize decide (c ≤ 57) = q3
        generalize (c == 95) = q4
        cases b <;> cases q1 <;> cases q2 <;> cases q3 <;> cases q4 <;> rfl
      rw [F130_58_eq, h1, ifK_true, h2, chkK_true, h37, h37, h37, show Int.toNat (i : Int) = i by simp]
      show _ = some (D.bool (nameAt s i && nameGo s m (i + 1)))
      unfold nameAt letterI
      generalize (i != 0 && ((decide (byteAt s i ≥ 48) && decide (byteAt s i ≤ 57)) || byteAt s i == 95)) = q0
      generalize decide (byteAt s i ≥ 97) = q1
      generalize decide (byteAt s i ≤ 122) = q2
      generalize decide (byteAt s i ≥ 65) = q3
      generalize decide (byteAt s i ≤ 90) = q4
      cases q1 <;> cases q2 <;> cases q3 <;> cases q4 <;> rfl
theorem ok130 (s : ByteArray) : OK5 130 [.str s] (.bool (nameV s)) := by
  refine fnT none_ok Tryz.func130 (ord := O0) (N := N130) (by kernel_rfl) ((F130_eq _ _ _ s).trans ?_)
  unfold nameV
  cases decide ((s.size : Int) < 1) with
  | true => rfl
  | false =>
    rw [ifK_false, ifK_false]
    cases h2 : decide ((s.size : Int) > 24) with
    | true => rfl
    | false =>
      simp only [decide_eq_false_iff_not] at h2
      rw [ifK_false, ifK_false, F130_7_eq _ _ _ _ (fun _ => rfl : ∀ t, C1 t = 1)]
      exact go130 (by omega) s.size 0 LL (by omega) (by unfold LL; omega)
theorem ok172 (c : Int) : OK5 172 [.int .i32 c] (.bool (letterI c)) := by
  refine fnT none_ok Tryz.func172 (ord := O0) (N := N0) (by kernel_rfl) ((F172_eq _ _ _ c).trans ?_)
  unfold letterI
  cases decide (c ≥ 97) <;> cases decide (c ≤ 122) <;> cases decide (c ≥ 65) <;> cases decide (c ≤ 90) <;> rfl
def b172 : FuncId → List D → Option D := fun k ds => match k, ds with
  | 172, [.int .i32 c] => some (.bool (letterI c))
  | _, _ => none
theorem b172_ok : CallsT b172 := by
  intro k ds r h
  unfold b172 at h
  split at h
  · cases h; exact ok172 _
  · cases h
theorem a172 (c : Int) : callOf b172 172 [.int .i32 c] = some (.bool (letterI c)) := rfl
theorem byteAt_get {s : ByteArray} {i : Nat} (h : i < s.size) : byteAt s i = (s[i]'h).toNat := by
  unfold byteAt
  have : s[i]? = some s[i] := by simp [h]
  rw [this]
theorem go143 {s : ByteArray} : ∀ (m i fuel : Nat), i + m = s.size → m < fuel → F143_26 (callOf b172) LL C1 fuel s i = some (.bool (nameGo s m i && (!(ByteArray.toList s == ByteArray.toList (ByteArray.mk #[])) && decide ((s.size : Int) ≤ 24)))) := by
  intro m
  induction m with
  | zero =>
    intro i fuel hi hf
    cases fuel with
    | zero => exact absurd hf (Nat.not_lt_zero _)
    | succ fuel =>
      have h1 : decide (i < s.size) = false := by simp; omega
      rw [F143_26_eq, h1, ifK_false]
      show _ = some (D.bool (true && _))
      cases (ByteArray.toList s == ByteArray.toList (ByteArray.mk #[])) <;> rfl
  | succ m ih =>
    intro i fuel hi hf
    cases fuel with
    | zero => exact absurd hf (Nat.not_lt_zero _)
    | succ fuel =>
      have hlt : i < s.size := by omega
      have h1 : decide (i < s.size) = true := by simpa using hlt
      have hz : ((i : Int) == 0) = !(i != 0) := by cases i <;> rfl
      have hb := byteAt_get hlt
      rw [F143_26_eq, h1, ifK_true, a172, optK_some, boolK_bool, hz]
      show _ = some (D.bool ((nameAt s i && nameGo s m (i + 1)) && _))
      by_cases ha : (s[i]'hlt).toNat < 128
      · have hd := decode_ascii s i hlt ha
        rw [hd]
        dsimp only
        rw [ih (i + 1) fuel (by omega) (by omega)]
        unfold nameAt
        rw [hb]
        have e1 : (((s[i]'hlt).toNat : Int) != 95) = !(((s[i]'hlt).toNat : Int) == 95) := rfl
        have e2 : decide (((s[i]'hlt).toNat : Int) ≥ 48) = !decide (((s[i]'hlt).toNat : Int) < 48) := by
          by_cases h : ((s[i]'hlt).toNat : Int) < 48
          · rw [show decide (((s[i]'hlt).toNat : Int) < 48) = true by simpa using h]; simp; omega
          · rw [show decide (((s[i]'hlt).toNat : Int) < 48) = false by simpa using h]; simp; omega
        have e3 : decide (((s[i]'hlt).toNat : Int) ≤ 57) = !decide (((s[i]'hlt).toNat : Int) > 57) := by
          by_cases h : ((s[i]'hlt).toNat : Int) > 57
          · rw [show decide (((s[i]'hlt).toNat : Int) > 57) = true by simpa using h]; simp; omega
          · rw [show decide (((s[i]'hlt).toNat : Int) > 57) = false by simpa using h]; simp; omega
        rw [e1, e2, e3]
        generalize letterI ((s[i]'hlt).toNat : Int) = q1
        generalize (i != 0) = q2
        generalize decide (((s[i]'hlt).toNat : Int) < 48) = q3
        generalize decide (((s[i]'hlt).toNat : Int) > 57) = q4
        generalize (((s[i]'hlt).toNat : Int) == 95) = q5
        generalize nameGo s m (i + 1) = q6
        cases q1 <;> cases q2 <;> cases q3 <;> cases q4 <;> cases q5 <;> cases q6 <;> rfl
      · obtain ⟨hd, _⟩ := decode_high s i hlt (by omega)
        generalize Utf8.decode s i = dd at hd
        have l1 : letterI (dd.1 : Int) = false := by
          unfold letterI
          simp
          omega
        have l2 : ((dd.1 : Int) != 95) = true := by simp; omega
        have l3 : decide ((dd.1 : Int) < 48) = false := by simp; omega
        have l4 : decide ((dd.1 : Int) > 57) = true := by simp; omega
        have n1 : nameAt s i = false := by
          unfold nameAt letterI
          rw [hb]
          simp
          omega
        rw [l1, l2, l3, l4, n1]
        cases (i != 0) <;> rfl
theorem nameV_eq (s : ByteArray) : (nameGo s s.size 0 && (!(ByteArray.toList s == ByteArray.toList (ByteArray.mk #[])) && decide ((s.size : Int) ≤ 24))) = nameV s := by
  unfold nameV
  have h0 : (ByteArray.toList s == ByteArray.toList (ByteArray.mk #[])) = decide ((s.size : Int) < 1) := by
    rw [ByteArray.toList_eq, ByteArray.toList_eq]
    have hsz : s.data.toList.length = s.size := by rw [Array.length_toList]; rfl
    by_cases h : (s.size : Int) < 1
    · rw [show decide ((s.size : Int) < 1) = true by simpa using h]
      have : s.data.toList = [] := List.eq_nil_of_length_eq_zero (by omega)
      rw [this]
      rfl
    · rw [show decide ((s.size : Int) < 1) = false by simpa using h]
      cases hl : s.data.toList with
      | nil => rw [hl] at hsz; simp at hsz; omega
      | cons x l => rfl
  rw [h0]
  have h2 : decide ((s.size : Int) ≤ 24) = !decide ((s.size : Int) > 24) := by
    by_cases h : (s.size : Int) > 24
    · rw [show decide ((s.size : Int) > 24) = true by simpa using h]; simp; omega
    · rw [show decide ((s.size : Int) > 24) = false by simpa using h]; simp; omega
  rw [h2]
  cases decide ((s.size : Int) < 1) <;> cases decide ((s.size : Int) > 24) <;> cases nameGo s s.size 0 <;> rfl
theorem ok143 (s : ByteArray) (hs : s.size < 4611686018427387904) : OK5 143 [.str s] (.bool (nameV s)) := by
  refine fnT b172_ok Tryz.func143 (ord := O0) (N := N143) (by kernel_rfl) ((F143_eq _ _ _ s).trans ?_)
  rw [← nameV_eq]
  exact go143 s.size 0 LL (by omega) (by unfold LL; omega)

/-! ### Entries -/
theorem ok214 (x : Int) : OK5 214 [.int .i64 x] (.bool (decide (x ≥ 1) && decide (x ≤ 99))) :=
  fnT none_ok Tryz.func214 (ord := O0) (N := N0) (by kernel_rfl) ((F214_eq _ _ _ x).trans (by cases decide (x ≥ 1) <;> rfl))
theorem ok215 (x : Int) : OK5 215 [.int .i64 x] (.bool (x == 0)) :=
  fnT none_ok Tryz.func215 (ord := O0) (N := N0) (by kernel_rfl) ((F215_eq _ _ _ x).trans rfl)
theorem ok199 : OK5 199 [] marksD :=
  fnT none_ok Tryz.func199 (ord := O0) (N := N0) (by kernel_rfl) ((F199_eq _ _ _).trans rfl)
def callK (base : FuncId → List D → Option D) : FuncId → List D → Option D := fun k ds => match cst2 k ds with
  | some r => some r
  | none => base k ds
theorem callK_ok {base : FuncId → List D → Option D} (hb : CallsT base) : CallsT (callK base) := by
  intro k ds r h
  unfold callK at h
  split at h
  · rename_i d hd
    cases h
    unfold cst2 at hd
    split at hd
    · cases hd; exact ok199
    · exact cst_ok _ _ _ hd
  · exact hb _ _ _ h
theorem callK_cst {base : FuncId → List D → Option D} : ∀ k ds r, cst2 k ds = some r → callK base k ds = some r := fun k ds r h => by
  unfold callK
  rw [h]
theorem fnK {base : FuncId → List D → Option D} (hb : CallsT base) {f : FuncId} {fn : Func} (hf : Tryz.prog.funcs[f]? = some fn) {ord : Ord} {N : NTab} (hok : okFn Tryz.prog ord fn = true) {ds : List D} {r : D}
    (he : evFnT (TEk (callK base) LL C1) ord N .canon fn ds = some r) : OK5 f ds r :=
  evFnT_ok (Te := TEk (callK base) LL C1) mixedT ⟨callK_ok hb, m1_ok⟩ callK_cst rfl sqT_ok hf (by simp) hok he
def markC (s : ByteArray) : Bool := ByteArray.toList s == ByteArray.toList (ByteArray.mk #[99])
/-- The error of an entry. -/
def entE (x : NetV) : Int := ifK (emptyB x.2 || markC x.2) (ifK (decide (x.1 < 1) || decide (x.1 > 99)) 3 0) (ifK (markX x.2 || dashB x.2) (ifK (x.1 != 0) 3 0) 13)
theorem ok153 (x : NetV) : OK5 153 [.agg [.int .i64 x.1, .str x.2]] (.int .i64 (entE x)) := by
  refine fnT none_ok Tryz.func153 (ord := O0) (N := N0) (by kernel_rfl) ((F153_eq _ _ _ x.1 x.2).trans ?_)
  unfold entE emptyB markC markX dashB
  generalize (ByteArray.toList x.2 == ByteArray.toList (ByteArray.mk #[])) = q1
  generalize (ByteArray.toList x.2 == ByteArray.toList (ByteArray.mk #[99])) = q2
  generalize (ByteArray.toList x.2 == ByteArray.toList (ByteArray.mk #[120])) = q3
  generalize (ByteArray.toList x.2 == ByteArray.toList (ByteArray.mk #[45])) = q4
  generalize decide (x.1 < 1) = q5
  generalize decide (x.1 > 99) = q6
  generalize (x.1 != 0) = q7
  cases q1 <;> cases q2 <;> cases q3 <;> cases q4 <;> cases q5 <;> cases q6 <;> cases q7 <;> rfl
def b173 : FuncId → List D → Option D := fun k ds => match k, ds with
  | 214, [.int .i64 x] => some (.bool (decide (x ≥ 1) && decide (x ≤ 99)))
  | 215, [.int .i64 x] => some (.bool (x == 0))
  | 127, [.bool b, .int .i64 e] => some (.int .i64 (ifK b e 0))
  | _, _ => none
theorem b173_ok : CallsT b173 := by
  intro k ds r h
  unfold b173 at h
  split at h
  · cases h; exact ok214 _
  · cases h; exact ok215 _
  · cases h; exact ok127 _ _
  · cases h
theorem a214 (x : Int) : callK b173 214 [.int .i64 x] = some (.bool (decide (x ≥ 1) && decide (x ≤ 99))) := rfl
theorem a215 (x : Int) : callK b173 215 [.int .i64 x] = some (.bool (x == 0)) := rfl
theorem a127 (b : Bool) (e : Int) : callK b173 127 [.bool b, .int .i64 e] = some (.int .i64 (ifK b e 0)) := rfl
theorem ok173 (x : NetV) : OK5 173 [.agg [.int .i64 x.1, .str x.2]] (.int .i64 (entE x)) := by
  refine fnK b173_ok Tryz.func173 (ord := O173) (N := N0) (by kernel_rfl) ((F173_eq _ _ _ x.1 x.2).trans ?_)
  simp only [a214, a215, a127, optK_some, boolK_bool, intK_int]
  unfold entE emptyB markC markX dashB
  have e1 : decide (x.1 ≥ 1) = !decide (x.1 < 1) := by
    by_cases h : x.1 < 1
    · rw [show decide (x.1 < 1) = true by simpa using h]; simp; omega
    · rw [show decide (x.1 < 1) = false by simpa using h]; simp; omega
  have e2 : decide (x.1 ≤ 99) = !decide (x.1 > 99) := by
    by_cases h : x.1 > 99
    · rw [show decide (x.1 > 99) = true by simpa using h]; simp; omega
    · rw [show decide (x.1 > 99) = false by simpa using h]; simp; omega
  have e3 : (x.1 != 0) = !(x.1 == 0) := rfl
  rw [e1, e2, e3]
  generalize (ByteArray.toList x.2 == ByteArray.toList (ByteArray.mk #[])) = q1
  generalize (ByteArray.toList x.2 == ByteArray.toList (ByteArray.mk #[99])) = q2
  generalize (ByteArray.toList x.2 == ByteArray.toList (ByteArray.mk #[120])) = q3
  generalize (ByteArray.toList x.2 == ByteArray.toList (ByteArray.mk #[45])) = q4
  generalize decide (x.1 < 1) = q5
  generalize decide (x.1 > 99) = q6
  generalize (x.1 == 0) = q7
  cases q1 <;> cases q2 <;> cases q3 <;> cases q4 <;> cases q5 <;> cases q6 <;> cases q7 <;> rfl
def entsGo : List NetV → Int
  | [] => 0
  | x :: r => ifK (entE x != 0) (entE x) (entsGo r)
def bEnt : FuncId → List D → Option D := fun k ds => match k, ds with
  | 153, [.agg [.int .i64 x, .str s]] => some (.int .i64 (entE (x, s)))
  | 173, [.agg [.int .i64 x, .str s]] => some (.int .i64 (entE (x, s)))
  | _, _ => none
theorem bEnt_ok : CallsT bEnt := by
  intro k ds r h
  unfold bEnt at h
  split at h
  · rename_i x s
    cases h; exact ok153 (x, s)
  · rename_i x s
    cases h; exact ok173 (x, s)
  · cases h
theorem a153 (x : Int) (s : ByteArray) : callOf bEnt 153 [.agg [.int .i64 x, .str s]] = some (.int .i64 (entE (x, s))) := rfl
theorem a173 (x : Int) (s : ByteArray) : callOf bEnt 173 [.agg [.int .i64 x, .str s]] = some (.int .i64 (entE (x, s))) := rfl
theorem go131 {f : Bool} {n : Nat} : ∀ (r pre : List NetV) (fuel : Nat), (pre ++ r).length = n → n ≤ 1000 → r.length < fuel → F131_26 (callOf bEnt) LL C1 fuel f n ((pre ++ r).flatMap netD) (pre.length : Int) = some (.int .i64 (entsGo r)) := by
  intro r
  induction r with
  | nil =>
    intro pre fuel hn hB hf
    cases fuel with
    | zero => exact absurd hf (Nat.not_lt_zero _)
    | succ fuel =>
      subst hn
      rw [F131_26_eq, end_pre, ifK_false]
      rfl
  | cons x r ih =>
    intro pre fuel hn hB hf
    cases fuel with
    | zero => exact absurd hf (Nat.not_lt_zero _)
    | succ fuel =>
      have ih := ih (pre ++ [x]) fuel (by rw [app1]; exact hn) hB (by simp at hf; omega)
      rw [app1] at ih
      subst hn
      rw [F131_26_eq, lt_pre, ifK_true, in_pre, chkK_true, n0, intK_int, n1, strK_str, a153, optK_some, intK_int, step_pre pre x r (by omega), ih, show entsGo (x :: r) = ifK (entE x != 0) (entE x) (entsGo r) from rfl]
      show ifK (entE x != 0) (some (D.int .i64 (entE x))) _ = _
      cases entE x != 0 <;> rfl
theorem go144 {f : Bool} {n : Nat} : ∀ (r pre : List NetV) (fuel : Nat), (pre ++ r).length = n → n ≤ 1000 → r.length < fuel → F144_26 (callOf bEnt) LL C1 fuel f n ((pre ++ r).flatMap netD) n (pre.length : Int) = some (.int .i64 (entsGo r)) := by
  intro r
  induction r with
  | nil =>
    intro pre fuel hn hB hf
    cases fuel with
    | zero => exact absurd hf (Nat.not_lt_zero _)
    | succ fuel =>
      subst hn
      rw [F144_26_eq, end_pre, ifK_false]
      rfl
  | cons x r ih =>
    intro pre fuel hn hB hf
    cases fuel with
    | zero => exact absurd hf (Nat.not_lt_zero _)
    | succ fuel =>
      have ih := ih (pre ++ [x]) fuel (by rw [app1]; exact hn) hB (by simp at hf; omega)
      rw [app1] at ih
      subst hn
      rw [F144_26_eq, lt_pre, ifK_true, in_pre, chkK_true, n0, intK_int, n1, strK_str, a173, optK_some, intK_int, step_pre pre x r (by omega), ih, show entsGo (x :: r) = ifK (entE x != 0) (entE x) (entsGo r) from rfl]
      show ifK (entE x != 0) (some (D.int .i64 (entE x))) _ = _
      cases entE x != 0 <;> rfl
theorem ok131 {f : Bool} (l : List NetV) (hl : l.length ≤ 1000) : OK5 131 [.slc f l.length (l.flatMap netD)] (.int .i64 (entsGo l)) := by
  refine fnT bEnt_ok Tryz.func131 (ord := O0) (N := N131) (by kernel_rfl) ((F131_eq _ _ _ _ _ _).trans ?_)
  exact go131 (f := f) l [] LL rfl hl (by unfold LL; omega)
theorem ok144 {f : Bool} (l : List NetV) (hl : l.length ≤ 1000) : OK5 144 [.slc f l.length (l.flatMap netD)] (.int .i64 (entsGo l)) := by
  refine fnT bEnt_ok Tryz.func144 (ord := O0) (N := N144) (by kernel_rfl) ((F144_eq _ _ _ _ _ _).trans ?_)
  exact go144 (f := f) l [] LL rfl hl (by unfold LL; omega)
end Go.Pd
end

section
namespace Go.Pd
open Go Go.Proofs Go.RowKit

def fst4 (x y z w : Int) : Int := ifK (x != 0) x (ifK (y != 0) y (ifK (z != 0) z w))
theorem ok126q (x y z w : Int) : OK5 126 [.slc true 4 [.int .i64 x, .int .i64 y, .int .i64 z, .int .i64 w]] (.int .i64 (fst4 x y z w)) := by
  refine fnT none_ok Tryz.func126 (ord := O0) (N := N126) (by kernel_rfl) ((F126_eq _ _ _ _ _ _).trans ?_)
  rw [show LL = (4611686018427387899 + 1) + 1 + 1 + 1 + 1 from rfl, F126_26_eq, F126_26_eq, F126_26_eq, F126_26_eq, F126_26_eq]
  have h1 : IntKind.wrap .i64 ((0 : Int) + 1) = 1 := wrap_id (by omega)
  have h2 : IntKind.wrap .i64 ((1 : Int) + 1) = 2 := wrap_id (by omega)
  have h3 : IntKind.wrap .i64 ((2 : Int) + 1) = 3 := wrap_id (by omega)
  have h4 : IntKind.wrap .i64 ((3 : Int) + 1) = 4 := wrap_id (by omega)
  simp only [h1, h2, h3, h4]
  unfold fst4
  cases hx : (x != 0) with
  | true => simp [cellK, hx]
  | false =>
    cases hy : (y != 0) with
    | true => simp [cellK, hx, hy]
    | false =>
      cases hz : (z != 0) with
      | true => simp [cellK, hx, hy, hz]
      | false =>
        cases hw : (w != 0) with
        | true => simp [cellK, hx, hy, hz, hw]
        | false =>
          have : w = 0 := by simpa using hw
          simp [cellK, hx, hy, hz, this]
section
variable {f g : Bool} {n : Nat} {c : List D} {P S : Nat → Int}
/-- The error of a card. -/
def cardErr (n : Nat) (P S : Nat → Int) (s : ByteArray) (l : List NetV) : Int := fst4 (holesErr n P S) (ifK (!nameV s) 8 0) (ifK ((l.length : Int) != n) 2 0) (entsGo l)
theorem ok114 (hc : HolesC n c P S) (s : ByteArray) (l : List NetV) (hs : s.size < 4611686018427387904) (hl : l.length ≤ 1000) : OK5 114 [.slc f n c, .agg [.str s, .slc g l.length (l.flatMap netD)]] (.int .i64 (cardErr n P S s l)) := by
  have hb : CallsT (tabC [(82, [.slc f n c], .int .i64 (holesErr n P S)), (143, [.str s], .bool (nameV s)), (144, [.slc g l.length (l.flatMap netD)], .int .i64 (entsGo l)),
      (126, [.slc true 4 [.int .i64 (holesErr n P S), .int .i64 (ifK (!nameV s) 8 0), .int .i64 (ifK ((l.length : Int) != n) 2 0), .int .i64 (entsGo l)]], .int .i64 (cardErr n P S s l)),
      (127, [.bool (!nameV s), .int .i64 8], .int .i64 (ifK (!nameV s) 8 0)), (127, [.bool ((l.length : Int) != n), .int .i64 2], .int .i64 (ifK ((l.length : Int) != n) 2 0))]) := tabC_ok fun e he => by
    simp only [List.mem_cons, List.not_mem_nil, or_false] at he
    rcases he with rfl | rfl | rfl | rfl | rfl | rfl
    · exact ok82 hc
    · exact ok143 s hs
    · exact ok144 l hl
    · exact ok126q _ _ _ _
    · exact ok127 _ _
    · exact ok127 _ _
  refine fnT hb Tryz.func114 (ord := O0) (N := N0) (by kernel_rfl) ((F114_eq _ _ _ _ _ _ _ _ _ _).trans ?_)
  have n1 : ∀ {a b : D} {x y : Int}, x ≠ y → [a, D.int .i64 x] ≠ [b, D.int .i64 y] := fun h e => by simp at e; exact h e.2
  rw [callOf_tab rfl, tabC_hit, optK_some, intK_int, callOf_tab rfl, tabC_skip (by decide), tabC_hit, optK_some, boolK_bool,
    callOf_tab rfl, tabC_skip (by decide), tabC_skip (by decide), tabC_skip (by decide), tabC_skip (by decide), tabC_hit, optK_some, intK_int,
    callOf_tab rfl, tabC_skip (by decide), tabC_skip (by decide), tabC_skip (by decide), tabC_skip (by decide), tabC_skip' (n1 (by decide)), tabC_hit, optK_some, intK_int,
    callOf_tab rfl, tabC_skip (by decide), tabC_skip (by decide), tabC_hit, optK_some, intK_int,
    callOf_tab rfl, tabC_skip (by decide), tabC_skip (by decide), tabC_skip (by decide), tabC_hit, optK_some, intK_int]
theorem ok90 (hc : HolesC n c P S) (s : ByteArray) (l : List NetV) (hl : l.length ≤ 1000) : OK5 90 [.slc f n c, .agg [.str s, .slc g l.length (l.flatMap netD)]] (.int .i64 (cardErr n P S s l)) := by
  have hb : CallsT (tabC [(39, [.slc f n c], .int .i64 (holesErr n P S)), (130, [.str s], .bool (nameV s)), (131, [.slc g l.length (l.flatMap netD)], .int .i64 (entsGo l))]) := tabC_ok fun e he => by
    simp only [List.mem_cons, List.not_mem_nil, or_false] at he
    rcases he with rfl | rfl | rfl
    · exact ok39 hc
    · exact ok130 s
    · exact ok131 l hl
  refine fnT hb Tryz.func90 (ord := O0) (N := N90) (by kernel_rfl) ((F90_eq _ _ _ _ _ _ _ _ _ _).trans ?_)
  have h31 : ∀ e, F90_31 (callOf (tabC [(39, [.slc f n c], .int .i64 (holesErr n P S)), (130, [.str s], .bool (nameV s)), (131, [.slc g l.length (l.flatMap netD)], .int .i64 (entsGo l))])) LL C1 s g l.length (l.flatMap netD) e = some (.int .i64 (ifK (e == 0) (entsGo l) e)) := fun e => by
    rw [F90_31_eq _ _ _ _ _ _ _ _ (fun _ => rfl : ∀ t, C1 t = 1), callOf_tab rfl, tabC_skip (by decide), tabC_skip (by decide), tabC_hit, optK_some, intK_int]
    cases e == 0 <;> rfl
  have h15 : ∀ e, F90_15 (callOf (tabC [(39, [.slc f n c], .int .i64 (holesErr n P S)), (130, [.str s], .bool (nameV s)), (131, [.slc g l.length (l.flatMap netD)], .int .i64 (entsGo l))])) LL C1 f n c s g l.length (l.flatMap netD) e = some (.int .i64 (ifK (e == 0) (ifK ((l.length : Int) != n) 2 (entsGo l)) e)) := fun e => by
    rw [F90_15_eq _ _ _ _ _ _ _ _ _ _ _ (fun _ => rfl : ∀ t, C1 t = 1), h31, h31]
    cases he : e == 0 with
    | true => cases ((l.length : Int) != n) <;> rfl
    | false => rfl
  rw [callOf_tab rfl, tabC_hit, optK_some, intK_int, callOf_tab rfl, tabC_skip (by decide), tabC_hit, optK_some, boolK_bool, h15, h15]
  unfold cardErr fst4
  cases hz : holesErr n P S == 0 with
  | true =>
    have h0 : holesErr n P S = 0 := by simpa using hz
    rw [h0]
    cases nameV s <;> cases ((l.length : Int) != n) <;> rfl
  | false =>
    have h0 : (holesErr n P S != 0) = true := by simpa using hz
    rw [h0]
    rfl
/-- The error of a player. -/
def plErr (n : Nat) (P S : Nat → Int) (s : ByteArray) (l : List NetV) (h : Int) : Int := fst2 (cardErr n P S s l) (ifK (outB h) 3 0)
theorem ok57 (hc : HolesC n c P S) (s : ByteArray) (l : List NetV) (h : Int) (hs : s.size < 4611686018427387904) (hl : l.length ≤ 1000) : OK5 57 [.slc f n c, .agg [.str s, .slc g l.length (l.flatMap netD), .int .i64 h]] (.int .i64 (plErr n P S s l h)) := by
  have hb : CallsT (tabC [(82, [.slc f n c], .int .i64 (holesErr n P S)), (114, [.slc f n c, .agg [.str s, .slc g l.length (l.flatMap netD)]], .int .i64 (cardErr n P S s l)), (84, [.int .i64 h, .int .i64 99], .bool (outB h)),
      (83, [.bool (outB h), .int .i64 3], .int .i64 (ifK (outB h) 3 0)), (81, [.slc true 2 [.int .i64 (cardErr n P S s l), .int .i64 (ifK (outB h) 3 0)]], .int .i64 (plErr n P S s l h))]) := tabC_ok fun e he => by
    simp only [List.mem_cons, List.not_mem_nil, or_false] at he
    rcases he with rfl | rfl | rfl | rfl | rfl
    · exact ok82 hc
    · exact ok114 hc s l hs hl
    · exact ok84 h
    · exact ok83 _ _
    · exact ok81 _ _
  refine fnT hb Tryz.func57 (ord := O0) (N := N0) (by kernel_rfl) ((F57_eq _ _ _ _ _ _ _ _ _ _ _).trans ?_)
  rw [callOf_tab rfl, tabC_hit, optK_some, intK_int, callOf_tab rfl, tabC_skip (by decide), tabC_hit, optK_some, intK_int, callOf_tab rfl, tabC_skip (by decide), tabC_skip (by decide), tabC_hit, optK_some, boolK_bool,
    callOf_tab rfl, tabC_skip (by decide), tabC_skip (by decide), tabC_skip (by decide), tabC_hit, optK_some, intK_int, callOf_tab rfl, tabC_skip (by decide), tabC_skip (by decide), tabC_skip (by decide), tabC_skip (by decide), tabC_hit, optK_some, intK_int]
  cases hz : holesErr n P S != 0 with
  | true =>
    rw [ifK_true]
    unfold plErr cardErr fst4 fst2
    rw [hz, ifK_true, hz, ifK_true]
  | false => rfl
theorem ok23 (hc : HolesC n c P S) (s : ByteArray) (l : List NetV) (h : Int) (hl : l.length ≤ 1000) : OK5 23 [.slc f n c, .agg [.str s, .slc g l.length (l.flatMap netD), .int .i64 h]] (.int .i64 (plErr n P S s l h)) := by
  have hb : CallsT (tabC [(90, [.slc f n c, .agg [.str s, .slc g l.length (l.flatMap netD)]], .int .i64 (cardErr n P S s l)), (86, [.int .i64 h], .bool (outB h))]) := tabC_ok fun e he => by
    simp only [List.mem_cons, List.not_mem_nil, or_false] at he
    rcases he with rfl | rfl
    · exact ok90 hc s l hl
    · exact ok86 h
  refine fnT hb Tryz.func23 (ord := O0) (N := N0) (by kernel_rfl) ((F23_eq _ _ _ _ _ _ _ _ _ _ _).trans ?_)
  rw [callOf_tab rfl, tabC_hit, optK_some, intK_int, callOf_tab rfl, tabC_skip (by decide), tabC_hit, optK_some, boolK_bool]
  unfold plErr fst2
  cases hz : cardErr n P S s l == 0 with
  | true =>
    have h0 : cardErr n P S s l = 0 := by simpa using hz
    rw [h0]
    cases outB h <;> rfl
  | false =>
    have h0 : (cardErr n P S s l != 0) = true := by simpa using hz
    rw [h0]
    rfl
theorem fst4_z {x y z w : Int} (h : fst4 x y z w = 0) : x = 0 ∧ y = 0 ∧ z = 0 ∧ w = 0 := by
  unfold fst4 at h
  cases h1 : x != 0 with
  | true => rw [h1, ifK_true] at h; rw [h] at h1; cases h1
  | false =>
    rw [h1, ifK_false] at h
    cases h2 : y != 0 with
    | true => rw [h2, ifK_true] at h; rw [h] at h2; cases h2
    | false =>
      rw [h2, ifK_false] at h
      cases h3 : z != 0 with
      | true => rw [h3, ifK_true] at h; rw [h] at h3; cases h3
      | false =>
        rw [h3, ifK_false] at h
        exact ⟨by simpa using h1, by simpa using h2, by simpa using h3, h⟩
theorem entsGo_zero : ∀ {l : List NetV}, entsGo l = 0 → ∀ x ∈ l, entE x = 0
  | [], _, x, hx => by cases hx
  | y :: r, h, x, hx => by
    unfold entsGo at h
    cases h1 : entE y != 0 with
    | true => rw [h1, ifK_true] at h; rw [h] at h1; cases h1
    | false =>
      rw [h1, ifK_false] at h
      rcases List.mem_cons.1 hx with rfl | hx
      · simpa using h1
      · exact entsGo_zero h x hx
/-- What a valid player is. -/
theorem plErr_zero {s : ByteArray} {l : List NetV} {h : Int} (hz : plErr n P S s l h = 0) : (0 < n ∧ n ≤ 36 ∧ ∀ i, i < n → 1 ≤ S i ∧ S i ≤ n) ∧ (-99 ≤ h ∧ h ≤ 99) ∧ l.length = n ∧ (∀ x ∈ l, entE x = 0) := by
  unfold plErr fst2 at hz
  cases h1 : cardErr n P S s l != 0 with
  | true => rw [h1, ifK_true] at hz; rw [hz] at h1; cases h1
  | false =>
    rw [h1, ifK_false] at hz
    have h0 : cardErr n P S s l = 0 := by simpa using h1
    obtain ⟨e1, _, e3, e4⟩ := fst4_z h0
    refine ⟨holesErr_zero e1, ?_, ?_, entsGo_zero e4⟩
    · cases ho : outB h with
      | true => rw [ho, ifK_true] at hz; cases hz
      | false =>
        unfold outB at ho
        simp at ho
        omega
    · cases hq : ((l.length : Int) != n) with
      | true => rw [hq, ifK_true] at e3; cases e3
      | false =>
        have : (l.length : Int) = n := by simpa using hq
        omega
end
/-! ### Net strokes -/
theorem owR_snoc {α : Type} (g : α → List D) (acc : List α) (s : α) : owR g (acc ++ [s]) = .own (acc.length + 1) (acc.flatMap g ++ g s) := by
  cases acc with
  | nil => simp [owR]
  | cons o os =>
    show Ow.own ((os ++ [s]).length + 1) (((o :: os) ++ [s]).flatMap g) = _
    rw [List.flatMap_append, show (os ++ [s]).length = os.length + 1 by simp]
    simp
/-- The net strokes of an entry. -/
def nvE (g : Nat → Int) (x : NetV) (i : Nat) : NetV := ifK (emptyB x.2 || markC x.2) (IntKind.wrap .i64 (x.1 - g i), ByteArray.mk #[]) (0, x.2)
def ntGo (g : Nat → Int) : List NetV → Nat → List NetV
  | [], _ => []
  | x :: r, i => nvE g x i :: ntGo g r (i + 1)
theorem ntGo_len (g : Nat → Int) : ∀ (l : List NetV) (i : Nat), (ntGo g l i).length = l.length
  | [], _ => rfl
  | x :: r, i => by simp [ntGo, ntGo_len g r (i + 1)]
theorem go89 {call : FuncId → List D → Option D} {f gf : Bool} {n : Nat} (gv : Nat → Int) : ∀ (r pre : List NetV) (fuel : Nat) (acc : List NetV), (pre ++ r).length = n → n ≤ 1000 → acc.length = pre.length → r.length < fuel →
    F89_122 call LL C1 fuel f n ((pre ++ r).flatMap netD) (owR netD acc) gf n (tabF gv n) n (pre.length : Int) = some (slR netD (acc ++ ntGo gv r pre.length)) := by
  intro r
  induction r with
  | nil =>
    intro pre fuel acc hn hB ha hf
    cases fuel with
    | zero => exact absurd hf (Nat.not_lt_zero _)
    | succ fuel =>
      subst hn
      rw [show acc ++ ntGo gv [] pre.length = acc from List.append_nil acc]
      cases acc with
      | nil =>
        show F89_122 call LL C1 (fuel + 1) f _ _ .nil _ _ _ _ _ = _
        rw [F89_122_eqn, end_pre, ifK_false]
        rfl
      | cons o os =>
        show F89_122 call LL C1 (fuel + 1) f _ _ (.own (os.length + 1) ((o :: os).flatMap netD)) _ _ _ _ _ = _
        rw [F89_122_eqo, end_pre, ifK_false]
        rfl
  | cons x r ih =>
    intro pre fuel acc hn hB ha hf
    cases fuel with
    | zero => exact absurd hf (Nat.not_lt_zero _)
    | succ fuel =>
      have ih := ih (pre ++ [x]) fuel (acc ++ [nvE gv x pre.length]) (by rw [app1]; exact hn) hB (by simp [ha]) (by simp at hf; omega)
      rw [app1, owR_snoc, List.append_assoc, show (pre ++ [x]).length = pre.length + 1 by simp] at ih
      have hlen : n = pre.length + r.length + 1 := by rw [← hn]; simp; omega
      have hi : decide ((0 : Int) ≤ (pre.length : Int) ∧ (pre.length : Int) < (n : Int)) = true := by simp; omega
      have h1 : decide ((pre.length : Int) < (n : Int)) = true := by simp; omega
      have hw : IntKind.wrap .i64 ((pre.length : Int) + 1) = ((pre.length + 1 : Nat) : Int) := by rw [wrap_id (by omega)]; rfl
      have hg : ∀ {γ : Type} (c : D → Option γ), cellK (tabF gv n) (Int.toNat (pre.length : Int) * 1) c = c (.int .i64 (gv pre.length)) := fun c => cellK_some (by rw [Int.toNat_natCast, Nat.mul_one]; exact tabF_get gv n _ (by omega)) c
      rw [show ntGo gv (x :: r) pre.length = nvE gv x pre.length :: ntGo gv r (pre.length + 1) from rfl]
      have key : F89_122 call LL C1 (fuel + 1) f n ((pre ++ x :: r).flatMap netD) (owR netD acc) gf n (tabF gv n) n (pre.length : Int) =
          F89_122 call LL C1 fuel f n ((pre ++ x :: r).flatMap netD) (.own (acc.length + 1) (acc.flatMap netD ++ netD (nvE gv x pre.length))) gf n (tabF gv n) n ((pre.length + 1 : Nat) : Int) := by
        unfold nvE emptyB markC
        cases acc with
        | nil =>
          show F89_122 call LL C1 (fuel + 1) f _ _ .nil _ _ _ _ _ = _
          rw [F89_122_eqn, h1, ifK_true, hi, chkK_true, n0, intK_int, n1, strK_str, chkK_true, hg, intK_int, hw]
          cases (ByteArray.toList x.2 == ByteArray.toList (ByteArray.mk #[])) <;> cases (ByteArray.toList x.2 == ByteArray.toList (ByteArray.mk #[99])) <;> rfl
        | cons o os =>
          show F89_122 call LL C1 (fuel + 1) f _ _ (.own (os.length + 1) ((o :: os).flatMap netD)) _ _ _ _ _ = _
          rw [F89_122_eqo, h1, ifK_true, hi, chkK_true, n0, intK_int, n1, strK_str, chkK_true, hg, intK_int, hw, room24 (by have hlo : (o :: os).length = os.length + 1 := rfl; omega), chkK_true, chkK_true]
          cases (ByteArray.toList x.2 == ByteArray.toList (ByteArray.mk #[])) <;> cases (ByteArray.toList x.2 == ByteArray.toList (ByteArray.mk #[99])) <;> rfl
      rw [key]
      exact ih
/-- The net strokes of a player by the program. -/
theorem ok89 {f g : Bool} {n : Nat} {c : List D} {P S : Nat → Int} (hc : HolesC n c P S) (h0 : 0 < n) (hn : n ≤ 36) {h : Int} (hl : -99 ≤ h) (hr : h ≤ 99) (s : ByteArray) (l : List NetV) (hll : l.length = n) :
    OK5 89 [.agg [.str s, .slc g n (l.flatMap netD), .int .i64 h], .slc f n c] (slR netD (ntGo (gvH n S h) l 0)) := by
  have hb : CallsT (tabC [(85, [.slc f n c, .int .i64 h], .slc false n (tabF (gvH n S h) n))]) := tabC_ok fun e he => by
    simp only [List.mem_singleton] at he
    subst he
    exact ok85 hc h0 hn hl hr
  refine fnT hb Tryz.func89 (ord := O0) (N := N89) (by kernel_rfl) ((F89_eq _ _ _ _ _ _ _ _ _ _ _).trans ?_)
  rw [callOf_tab rfl, tabC_hit, optK_some, slcK_slc]
  exact go89 (f := g) (gf := false) (gvH n S h) l [] LL [] hll (by omega) rfl (by unfold LL; omega)
end Go.Pd
end
