/-
  Chapter 5: what functions make of open arguments (printed by the desk's tool, each proved by the kernel): lists of numbers.
  Chapter 5: lists of numbers: their checks, sums, count-back.
  Chapter 5: sums, count-back and ranks of lists of numbers.
  Chapter 5: ranks of lists of numbers.
  Chapter 5: lists that are ranked: their check, short ones.
  Chapter 5, FormatTies: the law.
-/
import Derived.Test.YtanpmgfaieekhaaGreatDoorFmA
import Derived.KernelRfl
import Derived.Test.YtanpmgfaieekhaaGreatDoorFmE
section
namespace Go.Pd
open Go Go.Proofs
set_option maxRecDepth 100000
def N22 : NTab := fun p => match p with
  | 26 => some { keep := [5, 6, 7], kl := [], ren := [] }
  | _ => none
noncomputable def F22_26 (call : CL) (L : Nat) (C : Nat → Nat) (n : Nat) (q : Bool) (r : Nat) (j : List D) (e h : Int) : Option D :=
 loopAt (TEf call L C) O0 N22 FinM.canon Tryz.f22 [true, false, true, false] []  n (St.mk (jn 5 (D.slc q r j :: D.int .i64 e :: D.int .i64 h :: jn 7 [])) (zn 15 []))
theorem F22_26_eq (call : CL) (L : Nat) (C : Nat → Nat) (n : Nat) (r : Bool) (q : Nat) (j : List D) (h e : Int) : F22_26 call L C  (n + 1) r q j h e =
 (ifK (decide (e < h))
 (chkK (decide (0 ≤ e ∧ e < (q : Int)))
 (cellK j (Int.toNat e * 1) fun d =>
 (intK .i64 d fun x =>
 (ifK (x != 0)
 (some (D.int .i64 x))
 (F22_26 call L C n r q j h (IntKind.wrap .i64 (e + 1)))))))
 (some (D.int .i64 0))) := by kernel_rfl
theorem F22_eq (call : CL) (L : Nat) (C : Nat → Nat) (j : Bool) (e : Nat) (h : List D) : evFnT (TEf call L C) O0 N22 FinM.canon Tryz.f22 [D.slc j e h] =
 (F22_26 call L C L j e h ((e : Int)) 0) := by kernel_rfl
theorem F24_eq (call : CL) (L : Nat) (C : Nat → Nat) (h : Bool) (e : Int) : evFnT (TEf call L C) O0 N0 FinM.canon Tryz.f24 [D.bool h, D.int .i64 e] =
 (ifK h
 (some (D.int .i64 e))
 (some (D.int .i64 0))) := by kernel_rfl
def N33 : NTab := fun p => match p with
  | 122 => some { keep := [0, 5], kl := [], ren := [] }
  | _ => none
noncomputable def F33_122 (call : CL) (L : Nat) (C : Nat → Nat) (n : Nat) (j : Bool) (q : Nat) (h : List D) (e : Int) : Option D :=
 loopAt (TEf call L C) O0 N33 FinM.canon Tryz.f33 [true, true, true, false, true, false] []  n (St.mk (D.slc j q h :: J :: J :: J :: J :: D.int .i64 e :: jn 25 []) (zn 31 []))
theorem F33_122_eq (call : CL) (L : Nat) (C : Nat → Nat) (n : Nat) (q : Bool) (h : Nat) (j : List D) (e : Int) : F33_122 call L C  (n + 1) q h j e =
 (ifK (decide (e < (h : Int)))
 (chkK (decide (0 ≤ e ∧ e < (h : Int)))
 (cellK j (Int.toNat e * 1) fun d =>
 (intK .i64 d fun x =>
 (ifK (decide (x < -9999))
 (some (D.int .i64 3))
 (chkK (decide (0 ≤ e ∧ e < (h : Int)))
 (cellK j (Int.toNat e * 1) fun r =>
 (intK .i64 r fun z =>
 (ifK (decide (z > 9999))
 (some (D.int .i64 3))
 (F33_122 call L C n q h j (IntKind.wrap .i64 (e + 1)))))))))))
 (some (D.int .i64 0))) := by kernel_rfl
theorem F33_eq (call : CL) (L : Nat) (C : Nat → Nat) (j : Bool) (e : Nat) (h : List D) (q : Int) : evFnT (TEf call L C) O0 N33 FinM.canon Tryz.f33 [D.slc j e h, D.int .i64 q] =
 (ifK ((e : Int) == 0)
 (some (D.int .i64 12))
 (ifK (decide ((e : Int) > q))
 (some (D.int .i64 5))
 (F33_122 call L C L j e h 0))) := by kernel_rfl
theorem F93_eq (call : CL) (L : Nat) (C : Nat → Nat) (j : Bool) (e : Nat) (h : List D) (q : Int) : evFnT (TEf call L C) O0 N0 FinM.canon Tryz.f93 [D.slc j e h, D.int .i64 q] =
 (optK (call 122 [D.slc j e h, D.fn (Fn.func 134) [] []]) fun r =>
 (boolK r fun b =>
 (optK (call 83 [D.bool ((e : Int) == 0), D.int .i64 12]) fun z =>
 (intK .i64 z fun x =>
 (optK (call 83 [D.bool (decide ((e : Int) > q)), D.int .i64 5]) fun J =>
 (intK .i64 J fun S =>
 (optK (call 83 [D.bool b, D.int .i64 3]) fun K =>
 (intK .i64 K fun U =>
 (optK (call 81 [D.slc true 3 [D.int .i64 x, D.int .i64 S, D.int .i64 U]]) fun O =>
 (intK .i64 O fun V =>
 (some (D.int .i64 V)))))))))))) := by kernel_rfl
theorem F97_eq (call : CL) (L : Nat) (C : Nat → Nat) (e : Int) : evFnT (TEf call L C) O0 N0 FinM.canon Tryz.f97 [D.int .i64 e] =
 (some (D.int .i64 e)) := by kernel_rfl
def N100 : NTab := fun p => match p with
  | 58 => some { keep := [0, 5, 6], kl := [], ren := [] }
  | _ => none
noncomputable def F100_58 (call : CL) (L : Nat) (C : Nat → Nat) (n : Nat) (j : Bool) (q : Nat) (h : List D) (r e : Int) : Option D :=
 loopAt (TEf call L C) O0 N100 FinM.canon Tryz.f100 [true, true, false, true, false] []  n (St.mk (D.slc j q h :: J :: J :: J :: J :: D.int .i64 r :: D.int .i64 e :: jn 17 []) (zn 24 []))
theorem F100_58_eq (call : CL) (L : Nat) (C : Nat → Nat) (n : Nat) (r : Bool) (h : Nat) (j : List D) (q e : Int) : F100_58 call L C  (n + 1) r h j q e =
 (ifK (decide (e < (h : Int)))
 (chkK (decide (0 ≤ e ∧ e < (h : Int)))
 (cellK j (Int.toNat e * 1) fun d =>
 (intK .i64 d fun x =>
 (F100_58 call L C n r h j (IntKind.wrap .i64 (q + x)) (IntKind.wrap .i64 (e + 1))))))
 (some (D.int .i64 q))) := by kernel_rfl
theorem F100_eq (call : CL) (L : Nat) (C : Nat → Nat) (q : Bool) (e : Nat) (j : List D) (h : Int) : evFnT (TEf call L C) O0 N100 FinM.canon Tryz.f100 [D.slc q e j, D.int .i64 h] =
 (F100_58 call L C L q e j 0 (IntKind.wrap .i64 ((e : Int) - h))) := by kernel_rfl
theorem F134_eq (call : CL) (L : Nat) (C : Nat → Nat) (e : Int) : evFnT (TEf call L C) O0 N0 FinM.canon Tryz.f134 [D.int .i64 e] =
 (optK (call 84 [D.int .i64 e, D.int .i64 9999]) fun r =>
 (boolK r fun b =>
 (some (D.bool b)))) := by kernel_rfl
def N94 : NTab := fun p => match p with
  | 58 => some { keep := [1, 5, 8, 9, 10], kl := [], ren := [] }
  | _ => none
noncomputable def F94_58 (call : CL) (L : Nat) (C : Nat → Nat) (n : Nat) (q : Bool) (r : Nat) (j : List D) (z h e : Int) : Option D :=
 loopAt (TEf call L C) O0 N94 FinM.canon Tryz.f94 [true, true, false, true, false] []  n (St.mk (J :: D.fn (Fn.func 97) [] [] :: J :: J :: J :: D.int .i64 z :: J :: J :: D.slc q r j :: D.int .i64 h :: D.int .i64 e :: jn 10 []) (zn 21 []))
theorem F94_58_eq (call : CL) (L : Nat) (C : Nat → Nat) (n : Nat) (J : Bool) (q : Nat) (j : List D) (z h e : Int) : F94_58 call L C  (n + 1) J q j z h e =
 (ifK (decide (e < h))
 (chkK (decide (0 ≤ e ∧ e < (q : Int)))
 (cellK j (Int.toNat e * 1) fun d =>
 (intK .i64 d fun x =>
 (optK (call 97 [D.int .i64 x]) fun r =>
 (intK .i64 r fun K =>
 (F94_58 call L C n J q j (IntKind.wrap .i64 (z + K)) h (IntKind.wrap .i64 (e + 1))))))))
 (some (D.int .i64 z))) := by kernel_rfl
theorem F94_eq (call : CL) (L : Nat) (C : Nat → Nat) (j : Bool) (e : Nat) (h : List D) : evFnT (TEf call L C) O0 N94 FinM.canon Tryz.f94 [D.slc j e h, D.fn (Fn.func 97) [] []] =
 (F94_58 call L C L j e h 0 ((e : Int)) 0) := by kernel_rfl
theorem F122_eq (call : CL) (L : Nat) (C : Nat → Nat) (h : Bool) (j : Nat) (e : List D) : evFnT (TEf call L C) O0 N0 FinM.canon Tryz.f122 [D.slc h j e, D.fn (Fn.func 134) [] []] =
 (optK (call 150 [D.slc h j e, D.fn (Fn.func 134) [] []]) fun r =>
 (intK .i64 r fun x =>
 (some (D.bool (decide (x ≥ 0)))))) := by kernel_rfl
def N150 : NTab := fun p => match p with
  | 26 => some { keep := [0, 1, 7, 8], kl := [], ren := [] }
  | _ => none
noncomputable def F150_26 (call : CL) (L : Nat) (C : Nat → Nat) (n : Nat) (q : Bool) (r : Nat) (j : List D) (e h : Int) : Option D :=
 loopAt (TEf call L C) O0 N150 FinM.canon Tryz.f150 [true, false, true, false] []  n (St.mk (D.slc q r j :: D.fn (Fn.func 134) [] [] :: jn 5 (D.int .i64 e :: D.int .i64 h :: jn 10 [])) (zn 19 []))
theorem F150_26_eq (call : CL) (L : Nat) (C : Nat → Nat) (n : Nat) (z : Bool) (q : Nat) (j : List D) (h e : Int) : F150_26 call L C  (n + 1) z q j h e =
 (ifK (decide (e < h))
 (chkK (decide (0 ≤ e ∧ e < (q : Int)))
 (cellK j (Int.toNat e * 1) fun d =>
 (intK .i64 d fun x =>
 (optK (call 134 [D.int .i64 x]) fun r =>
 (boolK r fun b =>
 (ifK b
 (some (D.int .i64 e))
 (F150_26 call L C n z q j h (IntKind.wrap .i64 (e + 1)))))))))
 (some (D.int .i64 (-1)))) := by kernel_rfl
theorem F150_eq (call : CL) (L : Nat) (C : Nat → Nat) (j : Bool) (e : Nat) (h : List D) : evFnT (TEf call L C) O0 N150 FinM.canon Tryz.f150 [D.slc j e h, D.fn (Fn.func 134) [] []] =
 (F150_26 call L C L j e h ((e : Int)) 0) := by kernel_rfl
end Go.Pd
end
section
namespace Go.Pd
open Go Go.Proofs Go.RowKit
def numGo : List Int → Int
  | [] => 0
  | x :: r => ifK (decide (x < -9999)) 3 (ifK (decide (x > 9999)) 3 (numGo r))
def numErr (l : List Int) (most : Int) : Int := ifK ((l.length : Int) == 0) 12 (ifK (decide ((l.length : Int) > most)) 5 (numGo l))
def sumL : List Int → Int
  | [] => 0
  | x :: r => x + sumL r
def BndL (l : List Int) : Prop := ∀ x ∈ l, -9999 ≤ x ∧ x ≤ 9999
theorem numGo_zero : ∀ {l : List Int}, numGo l = 0 → BndL l
  | [], _ => fun x hx => by cases hx
  | x :: r, h => by
    unfold numGo at h
    cases h1 : decide (x < -9999) with
    | true => rw [h1, ifK_true] at h; cases h
    | false =>
      rw [h1, ifK_false] at h
      cases h2 : decide (x > 9999) with
      | true => rw [h2, ifK_true] at h; cases h
      | false =>
        rw [h2, ifK_false] at h
        simp at h1 h2
        intro y hy
        rcases List.mem_cons.1 hy with rfl | hy
        · omega
        · exact numGo_zero h y hy
theorem numErr_zero {l : List Int} {most : Int} (h : numErr l most = 0) : 0 < l.length ∧ (l.length : Int) ≤ most ∧ BndL l := by
  unfold numErr at h
  cases h1 : ((l.length : Int) == 0) with
  | true => rw [h1, ifK_true] at h; cases h
  | false =>
    rw [h1, ifK_false] at h
    cases h2 : decide ((l.length : Int) > most) with
    | true => rw [h2, ifK_true] at h; cases h
    | false =>
      rw [h2, ifK_false] at h
      have h1' : ¬ (l.length : Int) = 0 := by simpa using h1
      simp only [decide_eq_false_iff_not] at h2
      exact ⟨by omega, by omega, numGo_zero h⟩
theorem go33 {call : CL} {f : Bool} : ∀ (r pre : List Int) (fuel : Nat), (pre ++ r).length ≤ 4611686018427387904 → r.length < fuel → F33_122 call LL C1 fuel f (pre ++ r).length (ints (pre ++ r)) (pre.length : Int) = some (.int .i64 (numGo r))
  | [], pre, fuel + 1, _, _ => by rw [F33_122_eq, end_pre, ifK_false]; rfl
  | x :: r, pre, fuel + 1, hB, hf => by
    have ih := go33 (call := call) (f := f) r (pre ++ [x]) fuel (by rw [app1]; exact hB) (by simp at hf; omega)
    rw [app1] at ih
    rw [F33_122_eq, lt_pre, ifK_true, in_pre, chkK_true, cell_ints, intK_int, chkK_true, cell_ints, intK_int, step_pre _ _ _ hB, ih, show numGo (x :: r) = ifK (decide (x < -9999)) 3 (ifK (decide (x > 9999)) 3 (numGo r)) from rfl]
    cases decide (x < -9999) <;> cases decide (x > 9999) <;> rfl
theorem ok33 {f : Bool} (l : List Int) {most : Int} (hm : most ≤ 1000) : OK5 33 [.slc f l.length (ints l), .int .i64 most] (.int .i64 (numErr l most)) := by
  refine fnT none_ok Tryz.func33 (ord := O0) (N := N33) (by kernel_rfl) ((F33_eq _ _ _ _ _ _ _).trans ?_)
  unfold numErr
  cases (l.length : Int) == 0 with
  | true => rfl
  | false =>
    rw [ifK_false, ifK_false]
    cases h2 : decide ((l.length : Int) > most) with
    | true => rfl
    | false =>
      rw [ifK_false, ifK_false]
      simp only [decide_eq_false_iff_not] at h2
      exact go33 (f := f) l [] LL (by simp; omega) (by unfold LL; omega)
def outM (x most : Int) : Bool := decide (x < -most) || decide (x > most)
theorem ok84m (x most : Int) (h : 0 ≤ most ∧ most ≤ 1000000) : OK5 84 [.int .i64 x, .int .i64 most] (.bool (outM x most)) := by
  refine fnT none_ok Tryz.func84 (ord := O0) (N := N0) (by kernel_rfl) ((F84_eq _ _ _ x most).trans ?_)
  rw [wrap_id (by omega)]
  unfold outM
  rw [show (0 : Int) - most = -most by omega]
  cases decide (x < -most) <;> rfl
def b84 : FuncId → List D → Option D := fun k ds => match k, ds with
  | 84, [.int .i64 x, .int .i64 9999] => some (.bool (outM x 9999))
  | _, _ => none
theorem b84_ok : CallsT b84 := by
  intro k ds r h
  unfold b84 at h
  split at h
  · cases h; exact ok84m _ _ (by omega)
  · cases h
theorem ok134 (x : Int) : OK5 134 [.int .i64 x] (.bool (outM x 9999)) :=
  fnT b84_ok Tryz.func134 (ord := O0) (N := N0) (by kernel_rfl) ((F134_eq _ _ _ x).trans rfl)
def b134 : FuncId → List D → Option D := fun k ds => match k, ds with
  | 134, [.int .i64 x] => some (.bool (outM x 9999))
  | _, _ => none
theorem b134_ok : CallsT b134 := by
  intro k ds r h
  unfold b134 at h
  split at h
  · cases h; exact ok134 _
  · cases h
def farGo : List Int → Int → Int
  | [], _ => -1
  | x :: r, i => ifK (outM x 9999) i (farGo r (i + 1))
theorem go150 {f : Bool} : ∀ (r pre : List Int) (fuel : Nat), (pre ++ r).length ≤ 4611686018427387904 → r.length < fuel → F150_26 (callOf b134) LL C1 fuel f (pre ++ r).length (ints (pre ++ r)) (pre ++ r).length (pre.length : Int) = some (.int .i64 (farGo r pre.length))
  | [], pre, fuel + 1, _, _ => by rw [F150_26_eq, end_pre, ifK_false]; rfl
  | x :: r, pre, fuel + 1, hB, hf => by
    have ih := go150 (f := f) r (pre ++ [x]) fuel (by rw [app1]; exact hB) (by simp at hf; omega)
    rw [app1] at ih
    have hc : ∀ x, callOf b134 134 [.int .i64 x] = some (.bool (outM x 9999)) := fun _ => rfl
    rw [F150_26_eq, lt_pre, ifK_true, in_pre, chkK_true, cell_ints, intK_int, hc, optK_some, boolK_bool, step_pre _ _ _ hB, ih]
    rw [show ((pre ++ [x]).length : Int) = (pre.length : Int) + 1 by simp, show farGo (x :: r) pre.length = ifK (outM x 9999) (pre.length : Int) (farGo r ((pre.length : Int) + 1)) from rfl]
    cases outM x 9999 <;> rfl
theorem ok150 {f : Bool} (l : List Int) (hl : l.length < 4611686018427387904) : OK5 150 [.slc f l.length (ints l), .fn (.func 134) [] []] (.int .i64 (farGo l 0)) := by
  refine fnT b134_ok Tryz.func150 (ord := O0) (N := N150) (by kernel_rfl) ((F150_eq _ _ _ _ _ _).trans ?_)
  exact go150 (f := f) l [] LL (by simp; omega) (by unfold LL; omega)
def farB (l : List Int) : Bool := decide (farGo l 0 ≥ 0)
theorem ok122 {f : Bool} (l : List Int) (hl : l.length < 4611686018427387904) : OK5 122 [.slc f l.length (ints l), .fn (.func 134) [] []] (.bool (farB l)) := by
  have hb : CallsT (tabC [(150, [.slc f l.length (ints l), .fn (.func 134) [] []], .int .i64 (farGo l 0))]) := tabC_ok fun e he => by
    simp only [List.mem_singleton] at he
    subst he
    exact ok150 l hl
  refine fnT hb Tryz.func122 (ord := O0) (N := N0) (by kernel_rfl) ((F122_eq _ _ _ _ _ _).trans ?_)
  rw [callOf_tab rfl, tabC_hit, optK_some, intK_int]
  rfl
theorem farGo_num : ∀ (l : List Int) (i : Int), 0 ≤ i → ifK (decide (farGo l i ≥ 0)) 3 0 = numGo l
  | [], i, _ => rfl
  | x :: r, i, hi => by
    unfold farGo numGo
    have ih := farGo_num r (i + 1) (by omega)
    unfold outM
    cases h1 : decide (x < -9999) with
    | true =>
      rw [Bool.true_or, ifK_true, ifK_true, show decide (i ≥ 0) = true by simpa using hi, ifK_true]
    | false =>
      rw [Bool.false_or, ifK_false]
      cases h2 : decide (x > 9999) with
      | true => rw [ifK_true, ifK_true, show decide (i ≥ 0) = true by simpa using hi, ifK_true]
      | false => rw [ifK_false, ifK_false]; exact ih
def fst3 (x y z : Int) : Int := ifK (x != 0) x (ifK (y != 0) y z)
theorem ok81t (x y z : Int) : OK5 81 [.slc true 3 [.int .i64 x, .int .i64 y, .int .i64 z]] (.int .i64 (fst3 x y z)) := by
  refine fnT none_ok Tryz.func81 (ord := O0) (N := N81) (by kernel_rfl) ((F81_eq _ _ _ _ _ _).trans ?_)
  rw [show LL = (4611686018427387900 + 1) + 1 + 1 + 1 from rfl, F81_26_eq, F81_26_eq, F81_26_eq, F81_26_eq]
  have h1 : IntKind.wrap .i64 ((0 : Int) + 1) = 1 := wrap_id (by omega)
  have h2 : IntKind.wrap .i64 ((1 : Int) + 1) = 2 := wrap_id (by omega)
  have h3 : IntKind.wrap .i64 ((2 : Int) + 1) = 3 := wrap_id (by omega)
  simp only [h1, h2, h3]
  unfold fst3
  cases hx : (x != 0) with
  | true => simp [cellK, hx]
  | false =>
    cases hy : (y != 0) with
    | true => simp [cellK, hx, hy]
    | false =>
      cases hz : (z != 0) with
      | true => simp [cellK, hx, hy, hz]
      | false =>
        have : z = 0 := by simpa using hz
        simp [cellK, hx, hy, this]
theorem ok24 (b : Bool) (e : Int) : OK5 24 [.bool b, .int .i64 e] (.int .i64 (ifK b e 0)) :=
  fnT none_ok Tryz.func24 (ord := O0) (N := N0) (by kernel_rfl) ((F24_eq _ _ _ b e).trans (by cases b <;> rfl))
theorem ok93 {f : Bool} (l : List Int) {most : Int} (hl : l.length < 4611686018427387904) : OK5 93 [.slc f l.length (ints l), .int .i64 most] (.int .i64 (numErr l most)) := by
  have hb : CallsT (tabC [(122, [.slc f l.length (ints l), .fn (.func 134) [] []], .bool (farB l)), (83, [.bool ((l.length : Int) == 0), .int .i64 12], .int .i64 (ifK ((l.length : Int) == 0) 12 0)),
      (83, [.bool (decide ((l.length : Int) > most)), .int .i64 5], .int .i64 (ifK (decide ((l.length : Int) > most)) 5 0)), (83, [.bool (farB l), .int .i64 3], .int .i64 (ifK (farB l) 3 0)),
      (81, [.slc true 3 [.int .i64 (ifK ((l.length : Int) == 0) 12 0), .int .i64 (ifK (decide ((l.length : Int) > most)) 5 0), .int .i64 (ifK (farB l) 3 0)]], .int .i64 (fst3 (ifK ((l.length : Int) == 0) 12 0) (ifK (decide ((l.length : Int) > most)) 5 0) (ifK (farB l) 3 0)))]) := tabC_ok fun e he => by
    simp only [List.mem_cons, List.not_mem_nil, or_false] at he
    rcases he with rfl | rfl | rfl | rfl | rfl
    · exact ok122 l hl
    · exact ok83 _ _
    · exact ok83 _ _
    · exact ok83 _ _
    · exact ok81t _ _ _
  refine fnT hb Tryz.func93 (ord := O0) (N := N0) (by kernel_rfl) ((F93_eq _ _ _ _ _ _ _).trans ?_)
  have n1 : ∀ {a b : D} {c : Int} {d : Int}, c ≠ d → [a, D.int .i64 c] ≠ [b, D.int .i64 d] := fun h e => by simp at e; exact h e.2
  rw [callOf_tab rfl, tabC_hit, optK_some, boolK_bool, callOf_tab rfl, tabC_skip (by decide), tabC_hit, optK_some, intK_int,
    callOf_tab rfl, tabC_skip (by decide), tabC_skip' (n1 (by decide)), tabC_hit, optK_some, intK_int,
    callOf_tab rfl, tabC_skip (by decide), tabC_skip' (n1 (by decide)), tabC_skip' (n1 (by decide)), tabC_hit, optK_some, intK_int,
    callOf_tab rfl, tabC_skip (by decide), tabC_skip (by decide), tabC_skip (by decide), tabC_skip (by decide), tabC_hit, optK_some, intK_int]
  have hfar : ifK (farB l) 3 0 = numGo l := farGo_num l 0 (by omega)
  rw [hfar]
  unfold numErr fst3
  cases (l.length : Int) == 0 <;> cases decide ((l.length : Int) > most) <;> rfl
end Go.Pd
end
section
namespace Go.Pd
open Go Go.Proofs Go.RowKit
theorem BndL.tail {x : Int} {r : List Int} (h : BndL (x :: r)) : BndL r := fun y hy => h y (List.mem_cons_of_mem _ hy)
theorem BndL.drop {l : List Int} (h : BndL l) (k : Nat) : BndL (l.drop k) := fun y hy => h y (List.mem_of_mem_drop hy)
theorem go100 {call : CL} {f : Bool} : ∀ (r pre : List Int) (fuel : Nat) (acc : Int), (pre ++ r).length ≤ 1000000 → BndL r → -(9999 * (pre.length : Int)) ≤ acc → acc ≤ 9999 * (pre.length : Int) → r.length < fuel →
    F100_58 call LL C1 fuel f (pre ++ r).length (ints (pre ++ r)) acc (pre.length : Int) = some (.int .i64 (acc + sumL r))
  | [], pre, fuel + 1, acc, _, _, _, _, _ => by rw [F100_58_eq, end_pre, ifK_false, show sumL [] = 0 from rfl, Int.add_zero]
  | x :: r, pre, fuel + 1, acc, hB, hr, h1, h2, hf => by
    have hx := hr x (by simp)
    have hlen : (pre ++ x :: r).length = pre.length + r.length + 1 := by simp; omega
    have ih := go100 (call := call) (f := f) r (pre ++ [x]) fuel (acc + x) (by rw [app1]; exact hB) hr.tail (by simp; omega) (by simp; omega) (by simp at hf; omega)
    rw [app1] at ih
    rw [F100_58_eq, lt_pre, ifK_true, in_pre, chkK_true, cell_ints, intK_int, step_pre pre x r (by omega), wrap_id (by omega), ih, show sumL (x :: r) = x + sumL r from rfl, Int.add_assoc]
theorem ok100 {f : Bool} (l : List Int) (hl : l.length ≤ 1000) (hb : BndL l) (k : Nat) (hk : k ≤ l.length) : OK5 100 [.slc f l.length (ints l), .int .i64 k] (.int .i64 (sumL (l.drop (l.length - k)))) := by
  refine fnT none_ok Tryz.func100 (ord := O0) (N := N100) (by kernel_rfl) ((F100_eq _ _ _ _ _ _ _).trans ?_)
  rw [wrap_id (by omega)]
  have := go100 (call := callOf fun _ _ => none) (f := f) (l.drop (l.length - k)) (l.take (l.length - k)) LL 0 (by rw [List.take_append_drop]; omega) (hb.drop _) (by omega) (by omega) (by simp; unfold LL; omega)
  rw [List.take_append_drop] at this
  rw [show ((l.take (l.length - k)).length : Int) = (l.length : Int) - k by rw [List.length_take]; omega, Int.zero_add] at this
  exact this
theorem ok97 (x : Int) : OK5 97 [.int .i64 x] (.int .i64 x) := fnT none_ok Tryz.func97 (ord := O0) (N := N0) (by kernel_rfl) ((F97_eq _ _ _ x).trans rfl)
def b97 : FuncId → List D → Option D := fun k ds => match k, ds with
  | 97, [.int .i64 x] => some (.int .i64 x)
  | _, _ => none
theorem b97_ok : CallsT b97 := by
  intro k ds r h
  unfold b97 at h
  split at h
  · cases h; exact ok97 _
  · cases h
theorem go94 {f : Bool} : ∀ (r pre : List Int) (fuel : Nat) (acc : Int), (pre ++ r).length ≤ 1000000 → BndL r → -(9999 * (pre.length : Int)) ≤ acc → acc ≤ 9999 * (pre.length : Int) → r.length < fuel →
    F94_58 (callOf b97) LL C1 fuel f (pre ++ r).length (ints (pre ++ r)) acc (pre ++ r).length (pre.length : Int) = some (.int .i64 (acc + sumL r))
  | [], pre, fuel + 1, acc, _, _, _, _, _ => by rw [F94_58_eq, end_pre, ifK_false, show sumL [] = 0 from rfl, Int.add_zero]
  | x :: r, pre, fuel + 1, acc, hB, hr, h1, h2, hf => by
    have hx := hr x (by simp)
    have hlen : (pre ++ x :: r).length = pre.length + r.length + 1 := by simp; omega
    have ih := go94 (f := f) r (pre ++ [x]) fuel (acc + x) (by rw [app1]; exact hB) hr.tail (by simp; omega) (by simp; omega) (by simp at hf; omega)
    rw [app1] at ih
    have hc : ∀ x, callOf b97 97 [.int .i64 x] = some (.int .i64 x) := fun _ => rfl
    rw [F94_58_eq, lt_pre, ifK_true, in_pre, chkK_true, cell_ints, intK_int, hc, optK_some, intK_int, step_pre pre x r (by omega), wrap_id (by omega), ih, show sumL (x :: r) = x + sumL r from rfl, Int.add_assoc]
theorem ok94 {f : Bool} (l : List Int) (hl : l.length ≤ 1000) (hb : BndL l) : OK5 94 [.slc f l.length (ints l), .fn (.func 97) [] []] (.int .i64 (sumL l)) := by
  refine fnT b97_ok Tryz.func94 (ord := O0) (N := N94) (by kernel_rfl) ((F94_eq _ _ _ _ _ _).trans ?_)
  have := go94 (f := f) l [] LL 0 (by simp; omega) hb (by simp) (by simp) (by unfold LL; omega)
  rw [Int.zero_add] at this
  exact this
def cbGo (a b : List Int) : List Nat → Int
  | [] => 0
  | c :: cs => ifK (decide (c > a.length)) (cbGo a b cs) (ifK (decide (sumL (a.drop (a.length - c)) < sumL (b.drop (a.length - c)))) (-1) (ifK (decide (sumL (a.drop (a.length - c)) > sumL (b.drop (a.length - c)))) 1 (cbGo a b cs)))
def cbV (a b : List Int) : Int := cbGo a b [a.length, 9, 6, 3, 1]
def unints : List D → Option (List Int)
  | [] => some []
  | .int .i64 x :: r => (unints r).map (x :: ·)
  | _ :: _ => none
theorem unints_ints : ∀ l, unints (ints l) = some l
  | [] => rfl
  | x :: l => by
    rw [show ints (x :: l) = .int .i64 x :: ints l from rfl]
    unfold unints
    rw [unints_ints l]
    rfl
end Go.Pd
end
section
namespace Go.Pd
open Go Go.Proofs Go.RowKit
open Classical in
noncomputable def bCb : FuncId → List D → Option D := fun k ds => match k, ds with
  | 49, [.slc _ n c, .slc _ m d] => (match unints c, unints d with
    | some a, some b => if a.length = n ∧ b.length = m ∧ n = m ∧ n ≤ 1000 ∧ BndL a ∧ BndL b then some (.int .i64 (cbV a b)) else none
    | _, _ => none)
  | 103, [.slc _ n c, .slc _ m d] => (match unints c, unints d with
    | some a, some b => if a.length = n ∧ b.length = m ∧ n = m ∧ n ≤ 1000 ∧ BndL a ∧ BndL b then some (.int .i64 (cbV a b)) else none
    | _, _ => none)
  | _, _ => none
def rkGo (a : List Int) : List (List Int) → Int → Int
  | [], n => n
  | b :: r, n => rkGo a r (ifK (decide (cbV b a < 0)) (n + 1) n)
def ranksV (l : List (List Int)) : List Int := l.map fun a => rkGo a l 1
def sameLen (k : Nat) (l : List (List Int)) : Prop := ∀ x ∈ l, x.length = k ∧ BndL x
end Go.Pd
end
section
namespace Go.Pd
open Go Go.Proofs Go.RowKit
def unrows : List D → Option (List (List Int))
  | [] => some []
  | .slc false n cs :: r => (match unints cs with
    | some l => if l.length = n then (unrows r).map (l :: ·) else none
    | none => none)
  | _ :: _ => none
theorem unrows_rows : ∀ l, unrows (rows l) = some l
  | [] => rfl
  | x :: l => by
    rw [show rows (x :: l) = .slc false x.length (ints x) :: rows l from rfl]
    unfold unrows
    rw [unints_ints]
    dsimp only
    rw [if_pos rfl, unrows_rows l]
    rfl
open Classical in
noncomputable def bT : FuncId → List D → Option D := fun k ds => match k, ds with
  | 33, [.slc _ n c, .int .i64 m] => (match unints c with
    | some l => if l.length = n ∧ m ≤ 1000 then some (.int .i64 (numErr l m)) else none
    | none => none)
  | 93, [.slc _ n c, .int .i64 m] => (match unints c with
    | some l => if l.length = n ∧ n < 4611686018427387904 then some (.int .i64 (numErr l m)) else none
    | none => none)
  | 83, [.bool b, .int .i64 e] => some (.int .i64 (ifK b e 0))
  | 24, [.bool b, .int .i64 e] => some (.int .i64 (ifK b e 0))
  | 81, [.slc true 2 [.int .i64 x, .int .i64 y]] => some (.int .i64 (fst2 x y))
  | 81, [.slc true 3 [.int .i64 x, .int .i64 y, .int .i64 z]] => some (.int .i64 (fst3 x y z))
  | 22, [.slc true 3 [.int .i64 x, .int .i64 y, .int .i64 z]] => some (.int .i64 (fst3 x y z))
  | 51, [.slc _ n c] => (match unrows c with
    | some l => if l.length = n ∧ n ≤ 1000 ∧ 0 < n ∧ ∃ k, k ≤ 1000 ∧ sameLen k l then some (.slc false n (ints (ranksV l))) else none
    | none => none)
  | 104, [.slc _ n c] => (match unrows c with
    | some l => if l.length = n ∧ n ≤ 1000 ∧ 0 < n ∧ ∃ k, k ≤ 1000 ∧ sameLen k l then some (.slc false n (ints (ranksV l))) else none
    | none => none)
  | k, ds => bCb k ds
section
variable {f : Bool}
theorem at51 {l : List (List Int)} {k : Nat} (hk : k ≤ 1000) (hs : sameLen k l) (hl : l.length ≤ 1000) (h0 : 0 < l.length) : callOf bT 51 [.slc f l.length (rows l)] = some (.slc false l.length (ints (ranksV l))) := by
  show bT 51 [.slc f l.length (rows l)] = _
  unfold bT
  simp only [unrows_rows]
  rw [if_pos ⟨rfl, hl, h0, k, hk, hs⟩]
end
def cbErr (a b : List Int) : Int := fst3 (numErr a 36) (numErr b 36) (ifK ((a.length : Int) != b.length) 2 0)
def liGo (k : Nat) : List (List Int) → Int
  | [] => 0
  | x :: r => ifK (numErr x 36 != 0) (numErr x 36) (ifK ((x.length : Int) != k) 2 (liGo k r))
def listsErr (l : List (List Int)) : Int := ifK ((l.length : Int) == 0) 12 (ifK (decide ((l.length : Int) > 200)) 5 (liGo (l.headD []).length l))
def ranksR (l : List (List Int)) : D := ifK (listsErr l != 0) (.tup [.slc true 0 [], .int .i64 (listsErr l)]) (.tup [.slc false l.length (ints (ranksV l)), .int .i64 0])
def shGo : List (List Int) → Bool
  | [] => true
  | x :: r => ifK (decide ((x.length : Int) > 39)) false (shGo r)
def shortV (l : List (List Int)) : Bool := ifK (decide ((l.length : Int) > 8)) (ifK (decide ((l.length : Int) ≤ 200)) false (ifK (decide ((l.length : Int) > 203)) false (shGo l))) (ifK (decide ((l.length : Int) > 203)) false (shGo l))
end Go.Pd
end
section
namespace Go.Pd
open Go Go.Proofs Go.RowKit
open Classical in
noncomputable def b7 (l : List (List Int)) : FuncId → List D → Option D := fun k ds => match k, ds with
  | 16, [] => some (.bool true)
  | 46, ds => if ds = [.slc false l.length (rows l)] then some (.bool (shortV l)) else none
  | 50, ds => if ds = [.slc false l.length (rows l)] then some (.int .i64 (listsErr l)) else none
  | 48, ds => if ds = [.slc false l.length (rows l)] ∧ ∀ x ∈ l, x.length < 4611686018427387904 then some (ranksR l) else none
  | 47, [.slc _ n c, .slc _ m d] => (match unints c, unints d with
    | some a, some b => if a.length = n ∧ b.length = m ∧ n < 4611686018427387904 ∧ m < 4611686018427387904 then some (ifK (cbErr a b != 0) (.tup [.int .i64 0, .int .i64 (cbErr a b)]) (.tup [.int .i64 (cbV a b), .int .i64 0])) else none
    | _, _ => none)
  | 20, [.slc _ n c, .slc _ m d] => (match unints c with
    | some a => if a.length = n ∧ n = m ∧ c = d ∧ n < 4611686018427387904 then some (.bool true) else none
    | none => none)
  | 20, [.slc true 0 [], .nils] => some (.bool true)
  | k, ds => bT k ds
section
variable {l : List (List Int)}
theorem t46 : callOf (b7 l) 46 [.slc false l.length (rows l)] = some (.bool (shortV l)) := by
  show b7 l 46 [.slc false l.length (rows l)] = _
  unfold b7
  exact if_pos rfl
theorem t20 {f g : Bool} {a : List Int} {n : Nat} (hn : n = a.length) (ha : a.length < 4611686018427387904) : callOf (b7 l) 20 [.slc f n (ints a), .slc g n (ints a)] = some (.bool true) := by
  subst hn
  show b7 l 20 [.slc f a.length (ints a), .slc g a.length (ints a)] = _
  unfold b7
  simp only [unints_ints]
  rw [if_pos ⟨trivial, trivial, trivial, ha⟩]
theorem t22 (x y z : Int) : callOf (b7 l) 22 [.slc true 3 [.int .i64 x, .int .i64 y, .int .i64 z]] = some (.int .i64 (fst3 x y z)) := rfl
theorem t51 {f : Bool} {k : Nat} (hk : k ≤ 1000) (hs : sameLen k l) (hl : l.length ≤ 1000) (h0 : 0 < l.length) : callOf (b7 l) 51 [.slc f l.length (rows l)] = some (.slc false l.length (ints (ranksV l))) := at51 (f := f) hk hs hl h0
end
end Go.Pd
end
