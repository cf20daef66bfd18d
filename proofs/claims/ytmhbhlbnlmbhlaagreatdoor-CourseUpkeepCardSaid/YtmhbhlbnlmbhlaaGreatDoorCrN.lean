/-
  Chapter 2: calls whose answer may be a nil slice.
  Chapter 2: stations put into rounds by the reference, as equations.
  Chapter 2: rounds of stations by the reference, as equations.
  Chapter 2: the law of upkeep, as equations.
  Chapter 2: a slice turned round, as equations.
  Chapter 2: rows of numbers, tables of numbers, a row turned round.
  Chapter 2: stations put into rounds by the reference; they are those of the program.
  CourseUpkeep: Rotation and Rounds return the results or the errors of the reference.
  Chapter 2: numbers and pairs of numbers, laid open.
-/
import Derived.Test.YtmhbhlbnlmbhlaaGreatDoorCrB
import Derived.KernelRfl
import Derived.Test.YtmhbhlbnlmbhlaaGreatDoorCrA
import Derived.Test.YtmhbhlbnlmbhlaaGreatDoorCrF
import Derived.Test.YtmhbhlbnlmbhlaaGreatDoorCrM
import Derived.Test.YtmhbhlbnlmbhlaaGreatDoorCrI
import Derived.Test.YtmhbhlbnlmbhlaaGreatDoorCrLaw
section
namespace Go.Pd
open Go Go.Proofs

def splV : FuncId → Bool := fun k => match k with
  | 105 => true
  | 114 => true
  | _ => false
noncomputable def TEv (call : FuncId → List D → Option D) (L : Nat) (C : Nat → Nat) : TE := { E := { P := Tryz.prog, gl := glO, call := call, L := L, wr := wrM noMu, spl := splV }, cst := cstG, C := C, sq := sqT }
theorem fnV {base : FuncId → List D → Option D} (hb : CallsT base) {f : FuncId} {fn : Func} (hf : Tryz.prog.funcs[f]? = some fn) {ord : Ord} {N : NTab} {keep : FinM} (hk : keep = .canon ∨ keep = .raw) (hok : okFn Tryz.prog ord fn = true) {ds : List D} {r : D}
    (he : evFnT (TEv (callOf base) LL C1) ord N keep fn ds = some r) : OK2 f ds r :=
  evFnT_ok (Te := TEv (callOf base) LL C1) mixedT ⟨callOf_ok hb, wrM_ok noMu_ok, wrM_ow⟩ callOf_cst rfl sqT_ok hf (by rcases hk with h | h <;> subst h <;> simp) hok he
theorem ok_nil {k : FuncId} {a b : List D} {r : D} {f : Bool} (h : OK2 k (a ++ .slc f 0 [] :: b) r) : OK2 k (a ++ .nils :: b) r := by
  refine ⟨h.1, fun I w vs hI hg hl hr => h.2 I w vs hI hg (by simpa using hl) fun j d v hd hv => ?_⟩
  by_cases hj : j = a.length
  · subst hj
    have e : d = .slc f 0 [] := by simpa using hd.symm
    subst e
    have hn := hr a.length .nils v (by simp) hv
    have : v = .slice none 0 0 := (RelV.clo (A := fun _ _ => none) (G := fun _ => 0) hn).nils_inv
    subst this
    exact .slcn _
  · refine hr j d v ?_ hv
    by_cases hlt : j < a.length
    · rw [List.getElem?_append_left hlt] at hd ⊢
      exact hd
    · rw [List.getElem?_append_right (by omega)] at hd ⊢
      obtain ⟨m, hm⟩ : ∃ m, j - a.length = m + 1 := ⟨j - a.length - 1, by omega⟩
      rw [hm] at hd ⊢
      exact hd
end Go.Pd
end

section
namespace Go.Pd
open Go Go.Proofs
set_option maxRecDepth 100000
def N105 : NTab := fun p => match p with
  | 122 => some { keep := [0, 1, 2, 8, 9], kl := [38, 52, 55], ren := [(38, 38), (52, 52), (55, 52)] }
  | _ => none
noncomputable def F105_122 (call : FuncId → List D → Option D) (L : Nat) (C : Nat → Nat) (n : Nat) (vflows_f : Bool) (vflows_n : Nat) (vflows_c : List D) (vrounds_f : Bool) (vrounds_n : Nat) (vrounds_c : List D) (vroom_f : Bool) (vroom_n : Nat) (vroom_c : List D) (vf : Int) (vk : Int) : Option D :=
  loopAt (TEv call L C) O0 N105 FinM.raw Tryz.f105 [true, true, true, false, true, false] []  n (St.mk [D.slc vflows_f vflows_n vflows_c, D.slc vrounds_f vrounds_n vrounds_c, D.slc vroom_f vroom_n vroom_c, J, J, J, J, J, D.int IntKind.i64 vf, D.int IntKind.i64 vk, J, J, J, J, J, J, J, J, J, J, J, J, J, J, J, J, J, J, J, J, J, J, J, J, J, J, J, J, J, J, J, J, J, J, J, J, J, J, J, J, J, J, J, J, J, J, J, J, J, J, J, J] [Z, Z, Z, Z, Z, Z, Z, Z, Z, Z, Z, Z, Z, Z, Z, Z, Z, Z, Z, Z, Z, Z, Z, Z, Z, Z, Z, Z, Z, Z, Z, Z, Z, Z, Z, Z, Z, Z, Z, Z, Z, Z, Z, Z, Z, Z, Z, Z, Z, Z, Z, Z, Z, Z, Z, Z, Z, Z, Z, Z, Z, Z])
theorem F105_122_eq (call : FuncId → List D → Option D) (L : Nat) (C : Nat → Nat) (n : Nat) (vflows_f : Bool) (vflows_n : Nat) (vflows_c : List D) (vrounds_f : Bool) (vrounds_n : Nat) (vrounds_c : List D) (vroom_f : Bool) (vroom_n : Nat) (vroom_c : List D) (vf : Int) (vk : Int) : F105_122 call L C  (n + 1) vflows_f vflows_n vflows_c vrounds_f vrounds_n vrounds_c vroom_f vroom_n vroom_c (vf) (vk) =
  (ifK (decide (vk < (vroom_n : Int)))
    (chkK (decide (0 ≤ vk ∧ vk < (vroom_n : Int)))
      (cellK (vroom_c) (Int.toNat vk * 1) fun d_1 =>
      (intK IntKind.i64 (d_1) fun x_1 =>
      (ifK (decide (vf > x_1))
        (F105_122 call L C n vflows_f vflows_n vflows_c vrounds_f vrounds_n vrounds_c vroom_f vroom_n vroom_c (vf) (IntKind.wrap IntKind.i64 (vk + 1)))
        (chkK (decide (List.length vroom_c = vroom_n * 1))
          (chkK (List.all vroom_c D.one)
            (ifK (decide (vroom_n = 0))
              (chkK (decide (0 ≤ vk ∧ vk < (0 : Int)))
                (cellK ([]) (Int.toNat vk * 1) fun d_2 =>
                (intK IntKind.i64 (d_2) fun _x_2 =>
                (chkK (decide (0 ≤ vk ∧ vk < (0 : Int)))
                  none))))
              (chkK (decide (0 < vroom_n ∧ 0 = 0 ∧ (0 + vroom_n) * 8 ≤ limit ∧ 0 + vroom_n ≤ 4611686018427387903))
                (chkK (decide (0 ≤ vk ∧ vk < (((0 + vroom_n) : Nat) : Int)))
                  (cellK (vroom_c) (Int.toNat vk * 1) fun d_3 =>
                  (intK IntKind.i64 (d_3) fun x_3 =>
                  (chkK (decide (0 ≤ vk ∧ vk < (((0 + vroom_n) : Nat) : Int)))
                    (chkK (decide (Int.toNat vk * 1 + 1 ≤ List.length vroom_c))
                      (chkK (decide (List.length vrounds_c = vrounds_n * 1))
                        (chkK (List.all vrounds_c D.one)
                          (ifK (decide (vrounds_n = 0))
                            (optK (call 105 [D.slc vflows_f vflows_n vflows_c, D.slc false 1 [D.int IntKind.i64 vk], D.slc false (0 + vroom_n) (writeAt vroom_c (Int.toNat vk * 1) [D.int IntKind.i64 (IntKind.wrap IntKind.i64 (x_3 - vf))])]) fun r =>
                              (tupK (r) 2 fun c =>
                              (cellK (c) (0) fun d_4 =>
                              (nilK (d_4)
                                (cellK (c) (1) fun d_5 =>
                                (boolK (d_5) fun b =>
                                (ifK (b)
                                  (some (D.tup [D.nils, D.bool true]))
                                  (F105_122 call L C n vflows_f vflows_n vflows_c vrounds_f vrounds_n vrounds_c vroom_f vroom_n vroom_c (vf) (IntKind.wrap IntKind.i64 (vk + 1)))))) fun f n_1 c_1 =>
                                (cellK (c) (1) fun d_6 =>
                                (boolK (d_6) fun b_1 =>
                                (ifK (b_1)
                                  (some (D.tup [D.slc f n_1 c_1, D.bool true]))
                                  (F105_122 call L C n vflows_f vflows_n vflows_c vrounds_f vrounds_n vrounds_c vroom_f vroom_n vroom_c (vf) (IntKind.wrap IntKind.i64 (vk + 1))))))))))
                            (chkK (decide (0 < vrounds_n ∧ 0 = 0 ∧ (0 + vrounds_n) * 8 ≤ limit ∧ 0 + vrounds_n ≤ 4611686018427387903))
                              (chkK (decide ((0 + vrounds_n + 1) * 8 ≤ limit ∧ 0 + vrounds_n + 1 ≤ 9223372036854775807))
                                (optK (call 105 [D.slc vflows_f vflows_n vflows_c, D.slc false (0 + vrounds_n + 1) (vrounds_c ++ [D.int IntKind.i64 vk]), D.slc false (0 + vroom_n) (writeAt vroom_c (Int.toNat vk * 1) [D.int IntKind.i64 (IntKind.wrap IntKind.i64 (x_3 - vf))])]) fun r_1 =>
                                  (tupK (r_1) 2 fun c_2 =>
                                  (cellK (c_2) (0) fun d_7 =>
                                  (nilK (d_7)
                                    (cellK (c_2) (1) fun d_8 =>
                                    (boolK (d_8) fun b_2 =>
                                    (ifK (b_2)
                                      (some (D.tup [D.nils, D.bool true]))
                                      (F105_122 call L C n vflows_f vflows_n vflows_c vrounds_f vrounds_n vrounds_c vroom_f vroom_n vroom_c (vf) (IntKind.wrap IntKind.i64 (vk + 1)))))) fun f_1 n_2 c_3 =>
                                    (cellK (c_2) (1) fun d_9 =>
                                    (boolK (d_9) fun b_3 =>
                                    (ifK (b_3)
                                      (some (D.tup [D.slc f_1 n_2 c_3, D.bool true]))
                                      (F105_122 call L C n vflows_f vflows_n vflows_c vrounds_f vrounds_n vrounds_c vroom_f vroom_n vroom_c (vf) (IntKind.wrap IntKind.i64 (vk + 1))))))))))))))))))))))))))))
    (some (D.tup [D.nils, D.bool false]))) := by kernel_rfl
theorem F105_eq (call : FuncId → List D → Option D) (L : Nat) (C : Nat → Nat) (vflows_f : Bool) (vflows_n : Nat) (vflows_c : List D) (vrounds_f : Bool) (vrounds_n : Nat) (vrounds_c : List D) (vroom_f : Bool) (vroom_n : Nat) (vroom_c : List D) : evFnT (TEv call L C) O0 N105 FinM.raw Tryz.f105 [D.slc vflows_f vflows_n vflows_c, D.slc vrounds_f vrounds_n vrounds_c, D.slc vroom_f vroom_n vroom_c] =
  (ifK ((vrounds_n : Int) == (vflows_n : Int))
    (some (D.tup [D.slc vrounds_f vrounds_n vrounds_c, D.bool true]))
    (chkK (decide (0 ≤ (vrounds_n : Int) ∧ (vrounds_n : Int) < (vflows_n : Int)))
      (cellK (vflows_c) (Int.toNat (vrounds_n : Int) * 1) fun d =>
      (intK IntKind.i64 (d) fun x =>
      (F105_122 call L C L vflows_f vflows_n vflows_c vrounds_f vrounds_n vrounds_c vroom_f vroom_n vroom_c (x) (0)))))) := by kernel_rfl

end Go.Pd
end

section
namespace Go.Pd
open Go Go.Proofs
set_option maxRecDepth 100000
def N41 : NTab := fun p => match p with
  | 14 => some { keep := [0, 1, 5], kl := [], ren := [(11, 11)] }
  | _ => none
noncomputable def F41_14 (call : FuncId → List D → Option D) (L : Nat) (C : Nat → Nat) (n : Nat) (vflows_f : Bool) (vflows_n : Nat) (vflows_c : List D) (vlimit : Int) (vroom : Ow) : Option D :=
  loopAt (TEv call L C) O0 N41 FinM.canon Tryz.f41 [true, true, false] []  n (St.mk [D.slc vflows_f vflows_n vflows_c, D.int IntKind.i64 vlimit, J, J, J, ownD 11 vroom, J, J, J, J, J, J, J, J, J, J, J, J, J, J] [Z, Z, Z, Z, Z, Z, Z, Z, Z, Z, Z, ownO 3 1 vroom, Z, Z, Z, Z, Z, Z, Z, Z])
noncomputable def F41_14z (call : FuncId → List D → Option D) (L : Nat) (C : Nat → Nat) (n : Nat) (vflows_f : Bool) (vflows_n : Nat) (vflows_c : List D) (vlimit : Int) (m : Nat) (c : List D) : Option D :=
  loopAt (TEv call L C) O0 N41 FinM.canon Tryz.f41 [true, true, false] []  n (St.mk [D.slc vflows_f vflows_n vflows_c, D.int IntKind.i64 vlimit, J, J, J, D.own 11 0 m, J, J, J, J, J, J, J, J, J, J, J, J, J, J] [Z, Z, Z, Z, Z, Z, Z, Z, Z, Z, Z, (1, some (Ob.arr 3 1 c true)), Z, Z, Z, Z, Z, Z, Z, Z])
theorem F41_14_eqn (call : FuncId → List D → Option D) (L : Nat) (C : Nat → Nat) (n : Nat) (vflows_f : Bool) (vflows_n : Nat) (vflows_c : List D) (vlimit : Int) : F41_14 call L C  (n + 1) vflows_f vflows_n vflows_c vlimit (Ow.nil) =
  (optK (call 105 [D.slc vflows_f vflows_n vflows_c, D.nils, D.slc false 1 [D.int IntKind.i64 vlimit]]) fun r =>
    (tupK (r) 2 fun c =>
    (cellK (c) (0) fun d =>
    (nilK (d)
      (cellK (c) (1) fun d_1 =>
      (boolK (d_1) fun b =>
      (ifK (b)
        (some (D.slc true 0 []))
        (F41_14 call L C n vflows_f vflows_n vflows_c vlimit (Ow.own 1 [D.int IntKind.i64 vlimit]))))) fun f n_1 c_1 =>
      (cellK (c) (1) fun d_2 =>
      (boolK (d_2) fun b_1 =>
      (ifK (b_1)
        (some (D.slc f n_1 c_1))
        (F41_14z call L C n vflows_f vflows_n vflows_c vlimit 1 [D.int IntKind.i64 vlimit])))))))) := by kernel_rfl
theorem F41_14_eqo (call : FuncId → List D → Option D) (L : Nat) (C : Nat → Nat) (n : Nat) (vflows_f : Bool) (vflows_n : Nat) (vflows_c : List D) (vlimit : Int) (vroom_n : Nat) (vroom_c : List D) : F41_14 call L C  (n + 1) vflows_f vflows_n vflows_c vlimit (Ow.own vroom_n vroom_c) =
  (chkK (decide ((vroom_n + 1) * 8 ≤ limit ∧ vroom_n + 1 ≤ 9223372036854775807))
    (optK (call 105 [D.slc vflows_f vflows_n vflows_c, D.nils, D.slc false (vroom_n + 1) (vroom_c ++ [D.int IntKind.i64 vlimit])]) fun r_1 =>
      (tupK (r_1) 2 fun c_2 =>
      (cellK (c_2) (0) fun d_3 =>
      (nilK (d_3)
        (cellK (c_2) (1) fun d_4 =>
        (boolK (d_4) fun b_2 =>
        (ifK (b_2)
          (some (D.slc true 0 []))
          (F41_14 call L C n vflows_f vflows_n vflows_c vlimit (Ow.own (vroom_n + 1) (vroom_c ++ [D.int IntKind.i64 vlimit])))))) fun f_1 n_2 c_3 =>
        (cellK (c_2) (1) fun d_5 =>
        (boolK (d_5) fun b_3 =>
        (ifK (b_3)
          (some (D.slc f_1 n_2 c_3))
          (F41_14z call L C n vflows_f vflows_n vflows_c vlimit (vroom_n + 1) (vroom_c ++ [D.int IntKind.i64 vlimit])))))))))) := by kernel_rfl
theorem F41_eq (call : FuncId → List D → Option D) (L : Nat) (C : Nat → Nat) (vflows_f : Bool) (vflows_n : Nat) (vflows_c : List D) (vlimit : Int) : evFnT (TEv call L C) O0 N41 FinM.canon Tryz.f41 [D.slc vflows_f vflows_n vflows_c, D.int IntKind.i64 vlimit] =
  (F41_14 call L C L vflows_f vflows_n vflows_c vlimit (Ow.nil)) := by kernel_rfl

end Go.Pd
end

section
namespace Go.Pd
open Go Go.Proofs
set_option maxRecDepth 100000
def N6 : NTab := fun p => match p with
  | 7 => some { keep := [0, 2, 4], kl := [], ren := [(4, 4)] }
  | 255 => some { keep := [2, 4, 7, 8, 9, 10, 11, 12, 13, 14], kl := [], ren := [(4, 4)] }
  | _ => none
noncomputable def F6_255 (call : FuncId → List D → Option D) (L : Nat) (C : Nat → Nat) (vflows_f : Bool) (vflows_n : Nat) (vflows_c : List D) (vat0 : Int) (vat1 : Int) (vr_f : Bool) (vr_n : Nat) (vr_c : List D) (ve1 : Int) (vf_f : Bool) (vf_n : Nat) (vf_c : List D) (ve2 : Int) (vone : Int) (vtwo : Int) (vwant : Ow) : Option D :=
  cutAt (TEf call L C) O0 N6 FinM.canon Tryz.f6 [true, true, true, true, true, true, true] []  (C 255) (St.mk [J, J, D.slc vflows_f vflows_n vflows_c, J, D.loc 4 0 0, J, J, D.slc vr_f vr_n vr_c, D.int IntKind.i64 ve1, D.slc vf_f vf_n vf_c, D.int IntKind.i64 ve2, D.int IntKind.i64 vone, D.int IntKind.i64 vtwo, ownD 0 vwant, D.nils, J, J, J, J, J, J, J, J, J, J, J, J, J, J, J, J, J, J, J, J, J, J, J, J, J, J, J, J, J, J, J, J, J, J, J, J, J, J, J, J, J, J, J, J, J, J, J, J, J, J, J, J, J, J, J, J, J, J, J, J, J, J, J, J, J, J, J, J, J, J, J, J, J, J, J, J, J, J, J, J, J, J, J, J, J, J, J, J, J, J] [Z, Z, Z, Z, (1, some (Ob.box [D.int IntKind.i64 vat0, D.int IntKind.i64 vat1] false)), Z, Z, Z, Z, Z, Z, Z, Z, Z, Z, Z, Z, Z, Z, Z, Z, Z, Z, Z, Z, Z, Z, Z, Z, Z, Z, Z, Z, Z, Z, Z, Z, Z, Z, Z, Z, Z, Z, Z, Z, Z, Z, Z, Z, Z, Z, Z, Z, Z, Z, Z, Z, Z, Z, Z, Z, Z, Z, Z, Z, Z, Z, Z, Z, Z, Z, Z, Z, Z, Z, Z, Z, Z, Z, Z, Z, Z, Z, Z, Z, Z, Z, Z, Z, Z, Z, Z, Z, Z, Z, Z, Z, Z, Z, Z, Z, Z, Z, Z, Z])
noncomputable def F6_7 (call : FuncId → List D → Option D) (L : Nat) (C : Nat → Nat) (vl_f : Bool) (vl_n : Nat) (vl_c : List D) (vflows_f : Bool) (vflows_n : Nat) (vflows_c : List D) (vat0 : Int) (vat1 : Int) : Option D :=
  cutAt (TEf call L C) O0 N6 FinM.canon Tryz.f6 [true, true] []  (C 7) (St.mk [D.slc vl_f vl_n vl_c, J, D.slc vflows_f vflows_n vflows_c, J, D.loc 4 0 0, J, J, J, J, J, J, J, J, J, J, J, J, J, J, J, J, J, J, J, J, J, J, J, J, J, J, J, J, J, J, J, J, J, J, J, J, J, J, J, J, J, J, J, J, J, J, J, J, J, J, J, J, J, J, J, J, J, J, J, J, J, J, J, J, J, J, J, J, J, J, J, J, J, J, J, J, J, J, J, J, J, J, J, J, J, J, J, J, J, J, J, J, J, J, J, J, J, J, J, J] [Z, Z, Z, Z, (1, some (Ob.box [D.int IntKind.i64 vat0, D.int IntKind.i64 vat1] false)), Z, Z, Z, Z, Z, Z, Z, Z, Z, Z, Z, Z, Z, Z, Z, Z, Z, Z, Z, Z, Z, Z, Z, Z, Z, Z, Z, Z, Z, Z, Z, Z, Z, Z, Z, Z, Z, Z, Z, Z, Z, Z, Z, Z, Z, Z, Z, Z, Z, Z, Z, Z, Z, Z, Z, Z, Z, Z, Z, Z, Z, Z, Z, Z, Z, Z, Z, Z, Z, Z, Z, Z, Z, Z, Z, Z, Z, Z, Z, Z, Z, Z, Z, Z, Z, Z, Z, Z, Z, Z, Z, Z, Z, Z, Z, Z, Z, Z, Z, Z])
theorem F6_255_eqn (call : FuncId → List D → Option D) (L : Nat) (C : Nat → Nat) (vflows_f : Bool) (vflows_n : Nat) (vflows_c : List D) (vat0 : Int) (vat1 : Int) (vr_f : Bool) (vr_n : Nat) (vr_c : List D) (ve1 : Int) (vf_f : Bool) (vf_n : Nat) (vf_c : List D) (ve2 : Int) (vone : Int) (vtwo : Int) (hC : ∀ t, C t = 1) : F6_255 call L C  vflows_f vflows_n vflows_c vat0 vat1 (vr_f) (vr_n) (vr_c) (ve1) (vf_f) (vf_n) (vf_c) (ve2) (vone) (vtwo) (Ow.nil) =
  (ifK (vtwo == 0)
    (optK (call 41 [D.slc vflows_f vflows_n vflows_c, D.int IntKind.i64 vat0]) fun r_9 =>
      (slcK (r_9) fun f_3 n_5 c_5 =>
      (ifK (ve1 == vone)
        (optK (call 42 [D.slc vr_f vr_n vr_c, D.nils]) fun r_10 =>
          (boolK (r_10) fun b_4 =>
          (ifK (b_4)
            (ifK (ve2 == vtwo)
              (optK (call 42 [D.slc vf_f vf_n vf_c, D.slc f_3 n_5 c_5]) fun r_11 =>
                (boolK (r_11) fun b_5 =>
                (ifK (b_5)
                  (optK (call 17 []) fun r_12 =>
                    (boolK (r_12) fun b_6 =>
                    (some (D.bool b_6))))
                  (some (D.bool false)))))
              (some (D.bool false)))
            (some (D.bool false)))))
        (some (D.bool false)))))
    (ifK (ve1 == vone)
      (optK (call 42 [D.slc vr_f vr_n vr_c, D.nils]) fun r_13 =>
        (boolK (r_13) fun b_7 =>
        (ifK (b_7)
          (ifK (ve2 == vtwo)
            (optK (call 42 [D.slc vf_f vf_n vf_c, D.nils]) fun r_14 =>
              (boolK (r_14) fun b_8 =>
              (ifK (b_8)
                (optK (call 17 []) fun r_15 =>
                  (boolK (r_15) fun b_9 =>
                  (some (D.bool b_9))))
                (some (D.bool false)))))
            (some (D.bool false)))
          (some (D.bool false)))))
      (some (D.bool false)))) := by
  unfold F6_255
  rw [hC]
  kernel_rfl
theorem F6_255_eqs (call : FuncId → List D → Option D) (L : Nat) (C : Nat → Nat) (vflows_f : Bool) (vflows_n : Nat) (vflows_c : List D) (vat0 : Int) (vat1 : Int) (vr_f : Bool) (vr_n : Nat) (vr_c : List D) (ve1 : Int) (vf_f : Bool) (vf_n : Nat) (vf_c : List D) (ve2 : Int) (vone : Int) (vtwo : Int) (vwant_f : Bool) (vwant_n : Nat) (vwant_c : List D) (hC : ∀ t, C t = 1) : F6_255 call L C  vflows_f vflows_n vflows_c vat0 vat1 (vr_f) (vr_n) (vr_c) (ve1) (vf_f) (vf_n) (vf_c) (ve2) (vone) (vtwo) (Ow.slc vwant_f vwant_n vwant_c) =
  (ifK (vtwo == 0)
    (optK (call 41 [D.slc vflows_f vflows_n vflows_c, D.int IntKind.i64 vat0]) fun r_16 =>
      (slcK (r_16) fun f_4 n_6 c_6 =>
      (ifK (ve1 == vone)
        (optK (call 42 [D.slc vr_f vr_n vr_c, D.slc vwant_f vwant_n vwant_c]) fun r_17 =>
          (boolK (r_17) fun b_10 =>
          (ifK (b_10)
            (ifK (ve2 == vtwo)
              (optK (call 42 [D.slc vf_f vf_n vf_c, D.slc f_4 n_6 c_6]) fun r_18 =>
                (boolK (r_18) fun b_11 =>
                (ifK (b_11)
                  (optK (call 17 []) fun r_19 =>
                    (boolK (r_19) fun b_12 =>
                    (some (D.bool b_12))))
                  (some (D.bool false)))))
              (some (D.bool false)))
            (some (D.bool false)))))
        (some (D.bool false)))))
    (ifK (ve1 == vone)
      (optK (call 42 [D.slc vr_f vr_n vr_c, D.slc vwant_f vwant_n vwant_c]) fun r_20 =>
        (boolK (r_20) fun b_13 =>
        (ifK (b_13)
          (ifK (ve2 == vtwo)
            (optK (call 42 [D.slc vf_f vf_n vf_c, D.nils]) fun r_21 =>
              (boolK (r_21) fun b_14 =>
              (ifK (b_14)
                (optK (call 17 []) fun r_22 =>
                  (boolK (r_22) fun b_15 =>
                  (some (D.bool b_15))))
                (some (D.bool false)))))
            (some (D.bool false)))
          (some (D.bool false)))))
      (some (D.bool false)))) := by
  unfold F6_255
  rw [hC]
  kernel_rfl
theorem F6_7_eq (call : FuncId → List D → Option D) (L : Nat) (C : Nat → Nat) (vl_f : Bool) (vl_n : Nat) (vl_c : List D) (vflows_f : Bool) (vflows_n : Nat) (vflows_c : List D) (vat0 : Int) (vat1 : Int) (hC : ∀ t, C t = 1) : F6_7 call L C  vl_f vl_n vl_c vflows_f vflows_n vflows_c vat0 vat1  =
  (optK (call 36 [D.slc vl_f vl_n vl_c, D.int IntKind.i64 vat0, D.int IntKind.i64 vat1]) fun r_4 =>
    (tupK (r_4) 2 fun c =>
    (cellK (c) (0) fun d =>
    (slcK (d) fun f n_1 c_1 =>
    (cellK (c) (1) fun d_1 =>
    (intK IntKind.i64 (d_1) fun x =>
    (optK (call 37 [D.slc vflows_f vflows_n vflows_c, D.int IntKind.i64 vat0]) fun r_5 =>
      (tupK (r_5) 2 fun c_2 =>
      (cellK (c_2) (0) fun d_2 =>
      (slcK (d_2) fun f_1 n_2 c_3 =>
      (cellK (c_2) (1) fun d_3 =>
      (intK IntKind.i64 (d_3) fun x_1 =>
      (optK (call 38 [D.slc vl_f vl_n vl_c, D.int IntKind.i64 vat0, D.int IntKind.i64 vat1]) fun r_6 =>
        (intK IntKind.i64 (r_6) fun x_2 =>
        (optK (call 39 [D.slc vflows_f vflows_n vflows_c, D.int IntKind.i64 vat0]) fun r_7 =>
          (intK IntKind.i64 (r_7) fun x_3 =>
          (ifK (x_2 == 0)
            (optK (call 40 [D.slc vl_f vl_n vl_c, D.int IntKind.i64 vat0, D.int IntKind.i64 vat1]) fun r_8 =>
              (slcK (r_8) fun f_2 n_3 c_4 =>
              (F6_255 call L C vflows_f vflows_n vflows_c vat0 vat1 (f) (n_1) (c_1) (x) (f_1) (n_2) (c_3) (x_1) (x_2) (x_3) (Ow.slc f_2 n_3 c_4))))
            (F6_255 call L C vflows_f vflows_n vflows_c vat0 vat1 (f) (n_1) (c_1) (x) (f_1) (n_2) (c_3) (x_1) (x_2) (x_3) (Ow.nil))))))))))))))))))) := by
  unfold F6_7
  rw [hC]
  kernel_rfl
theorem F6_eq (call : FuncId → List D → Option D) (L : Nat) (C : Nat → Nat) (vl_f : Bool) (vl_n : Nat) (vl_c : List D) (vat0 : Int) (vat1 : Int) (vflows_f : Bool) (vflows_n : Nat) (vflows_c : List D) : evFnT (TEf call L C) O0 N6 FinM.canon Tryz.f6 [D.slc vl_f vl_n vl_c, D.agg [D.int IntKind.i64 vat0, D.int IntKind.i64 vat1], D.slc vflows_f vflows_n vflows_c] =
  (ifK (decide ((vl_n : Int) > 19))
    (optK (call 17 []) fun r =>
      (boolK (r) fun b =>
      (some (D.bool b))))
    (ifK (decide (vat1 > 20))
      (ifK (decide (vat1 ≤ 366))
        (optK (call 17 []) fun r_1 =>
          (boolK (r_1) fun b_1 =>
          (some (D.bool b_1))))
        (ifK (decide ((vflows_n : Int) > 6))
          (ifK (decide ((vflows_n : Int) ≤ 8))
            (optK (call 17 []) fun r_2 =>
              (boolK (r_2) fun b_2 =>
              (some (D.bool b_2))))
            (ifK (decide ((vflows_n : Int) > 20))
              (optK (call 17 []) fun r_3 =>
                (boolK (r_3) fun b_3 =>
                (some (D.bool b_3))))
              (F6_7 call L C vl_f vl_n vl_c vflows_f vflows_n vflows_c vat0 vat1)))
          (ifK (decide ((vflows_n : Int) > 20))
            (optK (call 17 []) fun r_23 =>
              (boolK (r_23) fun b_16 =>
              (some (D.bool b_16))))
            (F6_7 call L C vl_f vl_n vl_c vflows_f vflows_n vflows_c vat0 vat1))))
      (ifK (decide ((vflows_n : Int) > 6))
        (ifK (decide ((vflows_n : Int) ≤ 8))
          (optK (call 17 []) fun r_24 =>
            (boolK (r_24) fun b_17 =>
            (some (D.bool b_17))))
          (ifK (decide ((vflows_n : Int) > 20))
            (optK (call 17 []) fun r_25 =>
              (boolK (r_25) fun b_18 =>
              (some (D.bool b_18))))
            (F6_7 call L C vl_f vl_n vl_c vflows_f vflows_n vflows_c vat0 vat1)))
        (ifK (decide ((vflows_n : Int) > 20))
          (optK (call 17 []) fun r_26 =>
            (boolK (r_26) fun b_19 =>
            (some (D.bool b_19))))
          (F6_7 call L C vl_f vl_n vl_c vflows_f vflows_n vflows_c vat0 vat1))))) := by kernel_rfl

end Go.Pd
end

section
namespace Go.Pd
open Go Go.Proofs
set_option maxRecDepth 100000
def N177 : NTab := fun p => match p with
  | 6 => some { keep := [0, 2, 3], kl := [], ren := [] }
  | _ => none
noncomputable def F177_6 (call : FuncId → List D → Option D) (mu : FuncId → List D → Option D) (L : Nat) (C : Nat → Nat) (te0 : TypeId) (tn0 : Nat) (n : Nat) (vs_n : Nat) (vi : Int) (vj : Int) (vs_c_1 : List D) : Option D :=
  loopAt (TEM call mu L C te0 tn0) O0 N177 (FinM.over te0 tn0) Tryz.f177 [true, false] []  n (St.mk [D.own 0 0 vs_n, J, D.int IntKind.i64 vi, D.int IntKind.i64 vj, J, J, J, J, J, J, J, J, J, J, J, J, J, J, J, J, J, J, J, J, J, J, J, J] [(1, some (Ob.arr te0 tn0 vs_c_1 false)), Z, Z, Z, Z, Z, Z, Z, Z, Z, Z, Z, Z, Z, Z, Z, Z, Z, Z, Z, Z, Z, Z, Z, Z, Z, Z, Z])
theorem F177_6_eq (call : FuncId → List D → Option D) (mu : FuncId → List D → Option D) (L : Nat) (C : Nat → Nat) (te0 : TypeId) (tn0 : Nat) (n : Nat) (vs_n : Nat) (vi : Int) (vj : Int) (vs_c_1 : List D) : F177_6 call mu L C te0 tn0  (n + 1) vs_n (vi) (vj) (vs_c_1) =
  (ifK (decide (vi < vj))
    (chkK (decide (0 ≤ vj ∧ vj < (vs_n : Int)))
      (cellK (vs_c_1) (Int.toNat vj * 1) fun d =>
      (intK IntKind.i64 (d) fun x =>
      (chkK (decide (0 ≤ vi ∧ vi < (vs_n : Int)))
        (cellK (vs_c_1) (Int.toNat vi * 1) fun d_1 =>
        (intK IntKind.i64 (d_1) fun x_1 =>
        (chkK (decide (0 ≤ vi ∧ vi < (vs_n : Int)))
          (chkK (decide (Int.toNat vi * 1 + 1 ≤ List.length vs_c_1))
            (chkK (decide (0 ≤ vj ∧ vj < (vs_n : Int)))
              (chkK (decide (Int.toNat vj * 1 + 1 ≤ List.length (writeAt vs_c_1 (Int.toNat vi * 1) [D.int IntKind.i64 x])))
                (F177_6 call mu L C te0 tn0 n vs_n (IntKind.wrap IntKind.i64 (vi + 1)) (IntKind.wrap IntKind.i64 (vj - 1)) (writeAt (writeAt vs_c_1 (Int.toNat vi * 1) [D.int IntKind.i64 x]) (Int.toNat vj * 1) [D.int IntKind.i64 x_1]))))))))))))
    (chkK (decide (te0 = te0))
      (chkK (decide (tn0 = tn0))
        (chkK (decide (List.length vs_c_1 = vs_n * tn0))
          (chkK (List.all vs_c_1 D.plain)
            (some (D.slc false vs_n vs_c_1))))))) := by kernel_rfl
theorem F177_eq (call : FuncId → List D → Option D) (mu : FuncId → List D → Option D) (L : Nat) (C : Nat → Nat) (te0 : TypeId) (tn0 : Nat) (vs_n : Nat) (vs_c : List D) : evFnTM (TEM call mu L C te0 tn0) O0 N177 te0 tn0 Tryz.f177 vs_n vs_c [] =
  (F177_6 call mu L C te0 tn0 L vs_n (0) (IntKind.wrap IntKind.i64 ((vs_n : Int) - 1)) (vs_c)) := by kernel_rfl

end Go.Pd
end

section
namespace Go.Pd
open Go Go.Proofs Go.RowKit
set_option maxRecDepth 100000

/-! ### Rows -/
theorem ints_app1 (l : List Int) (x : Int) : ints l ++ [D.int .i64 x] = ints (l ++ [x]) := by simp [ints]
def rowF (n : Nat) (f : Nat → Int) : List Int := (List.range n).map f
theorem rowF_len (n : Nat) (f : Nat → Int) : (rowF n f).length = n := by simp [rowF]
theorem rowF_get {n k : Nat} (f : Nat → Int) (h : k < n) : (rowF n f)[k]? = some (f k) := by simp [rowF, h]
theorem rowF_set (n : Nat) (f : Nat → Int) (v : Nat) (x : Int) : (rowF n f).set v x = rowF n (updF f v x) := by
  apply List.ext_getElem?
  intro k
  by_cases hk : k < n
  · rw [rowF_get _ hk]
    by_cases e : v = k
    · subst e
      rw [List.getElem?_set_self (by rw [rowF_len]; exact hk), updF_same]
    · rw [List.getElem?_set_ne e, rowF_get _ hk, updF_ne _ _ (fun h => e h.symm)]
  · rw [List.getElem?_eq_none (by simp [rowF_len]; omega), List.getElem?_eq_none (by rw [rowF_len]; omega)]
theorem rowF_ext {n : Nat} {f g : Nat → Int} (h : ∀ k, k < n → f k = g k) : rowF n f = rowF n g :=
  List.map_congr_left fun k hk => h k (List.mem_range.1 hk)
theorem row_of (l : List Int) : l = rowF l.length fun k => l.getD k 0 := by
  apply List.ext_getElem?
  intro k
  by_cases hk : k < l.length
  · rw [rowF_get _ hk, List.getElem?_eq_getElem hk, List.getD_eq_getElem?_getD, List.getElem?_eq_getElem hk]
    rfl
  · rw [List.getElem?_eq_none (by omega), List.getElem?_eq_none (by rw [rowF_len]; omega)]
theorem rep_row (n : Nat) : List.replicate n (0 : Int) = rowF n fun _ => 0 := by
  apply List.ext_getElem?
  intro k
  by_cases hk : k < n
  · rw [rowF_get _ hk]; simp [hk]
  · rw [List.getElem?_eq_none (by simp; omega), List.getElem?_eq_none (by rw [rowF_len]; omega)]
theorem rep_rowI (n : Nat) : repD n [D.int .i64 0] = ints (rowF n fun _ => 0) := by
  rw [← rep_row]
  induction n with
  | zero => rfl
  | succ n ih => rw [List.replicate_succ]; show D.int .i64 0 :: repD n [D.int .i64 0] = D.int .i64 0 :: ints (List.replicate n 0); rw [ih]

/-! ### A row turned round in place -/
def gR (l : List Int) (i k : Nat) : Int := if k < i ∨ l.length ≤ k + i then l.getD (l.length - 1 - k) 0 else l.getD k 0
theorem gR_zero (l : List Int) : rowF l.length (gR l 0) = l := by
  conv => rhs; rw [row_of l]
  exact rowF_ext fun k hk => by unfold gR; rw [if_neg (by omega)]
theorem gR_step {l : List Int} {i : Nat} (h : i + 1 + i < l.length) : rowF l.length (updF (updF (gR l i) i (gR l i (l.length - 1 - i))) (l.length - 1 - i) (gR l i i)) = rowF l.length (gR l (i + 1)) := rowF_ext fun k hk => by
  have e1 : gR l i (l.length - 1 - i) = l.getD (l.length - 1 - i) 0 := by unfold gR; rw [if_neg (by omega)]
  have e2 : gR l i i = l.getD i 0 := by unfold gR; rw [if_neg (by omega)]
  rw [e1, e2]
  by_cases c1 : k = l.length - 1 - i
  · subst c1
    rw [updF_same]
    unfold gR
    rw [if_pos (by omega), show l.length - 1 - (l.length - 1 - i) = i by omega]
  · rw [updF_ne _ _ c1]
    by_cases c2 : k = i
    · subst c2
      rw [updF_same]
      unfold gR
      rw [if_pos (by omega)]
    · rw [updF_ne _ _ c2]
      unfold gR
      by_cases c3 : k < i ∨ l.length ≤ k + i
      · rw [if_pos c3, if_pos (by omega)]
      · rw [if_neg c3, if_neg (by omega)]
theorem gR_end {l : List Int} {i : Nat} (h : l.length ≤ i + 1 + i) : rowF l.length (gR l i) = l.reverse := by
  apply List.ext_getElem?
  intro k
  by_cases hk : k < l.length
  · rw [rowF_get _ hk, List.getElem?_reverse hk, List.getElem?_eq_getElem (by omega)]
    unfold gR
    by_cases c : k < i ∨ l.length ≤ k + i
    · rw [if_pos c, List.getD_eq_getElem?_getD, List.getElem?_eq_getElem (by omega)]
      rfl
    · rw [if_neg c, List.getD_eq_getElem?_getD, List.getElem?_eq_getElem (by omega)]
      congr 1
      simp only [Option.getD_some]
      congr 1
      omega
  · rw [List.getElem?_eq_none (by rw [rowF_len]; omega), List.getElem?_eq_none (by simp; omega)]
section
variable {call mu : FuncId → List D → Option D} {te : TypeId} {tn : Nat}
theorem go177 {l : List Int} (hl : l.length ≤ 1000) (hn : l.length = l.length * tn) : ∀ (k i fuel : Nat), l.length ≤ i + i + k → i ≤ l.length → k < fuel →
    F177_6 call mu LL C1 te tn fuel l.length (i : Int) ((l.length : Int) - 1 - i) (ints (rowF l.length (gR l i))) = some (.slc false l.length (ints l.reverse)) := by
  intro k
  induction k with
  | zero =>
    intro i fuel hi hil hf
    obtain ⟨fuel, rfl⟩ : ∃ n, fuel = n + 1 := ⟨fuel - 1, by omega⟩
    rw [F177_6_eq, show decide ((i : Int) < (l.length : Int) - 1 - i) = false by simp; omega, ifK_false, decide_eq_true rfl, chkK_true, decide_eq_true rfl, chkK_true, ints_len, rowF_len, decide_eq_true hn, chkK_true, ints_plain, chkK_true, gR_end (by omega)]
  | succ k ih =>
    intro i fuel hi hil hf
    obtain ⟨fuel, rfl⟩ : ∃ n, fuel = n + 1 := ⟨fuel - 1, by omega⟩
    by_cases hd : i + 1 + i < l.length
    · have ih := ih (i + 1) fuel (by omega) (by omega) (by omega)
      have ej : (l.length : Int) - 1 - i = ((l.length - 1 - i : Nat) : Int) := by omega
      have e1 : decide ((0 : Int) ≤ ((l.length - 1 - i : Nat) : Int) ∧ ((l.length - 1 - i : Nat) : Int) < (l.length : Int)) = true := decide_eq_true ⟨by omega, by omega⟩
      have e2 : decide ((0 : Int) ≤ (i : Int) ∧ (i : Int) < (l.length : Int)) = true := decide_eq_true ⟨by omega, by omega⟩
      have hj : l.length - 1 - i < l.length := by omega
      have hi' : i < l.length := by omega
      rw [F177_6_eq, ej, show decide ((i : Int) < ((l.length - 1 - i : Nat) : Int)) = true by simp; omega, ifK_true, e1, chkK_true, cell_at (rowF_get _ hj), intK_int, e2, chkK_true, cell_at (rowF_get _ hi'), intK_int, chkK_true, ints_len, rowF_len, Int.toNat_natCast, decide_eq_true (show i * 1 + 1 ≤ l.length by omega), chkK_true, chkK_true, ints_set, ints_len, List.length_set, rowF_len, Int.toNat_natCast,
        decide_eq_true (show (l.length - 1 - i) * 1 + 1 ≤ l.length by omega), chkK_true, ints_set, rowF_set, rowF_set, gR_step hd, show IntKind.wrap .i64 ((i : Int) + 1) = ((i + 1 : Nat) : Int) from (wrap_in (by omega)).trans (by omega),
        show IntKind.wrap .i64 (((l.length - 1 - i : Nat) : Int) - 1) = (l.length : Int) - 1 - ((i + 1 : Nat) : Int) from (wrap_in (by omega)).trans (by omega)]
      exact ih
    · rw [F177_6_eq, show decide ((i : Int) < (l.length : Int) - 1 - i) = false by simp; omega, ifK_false, decide_eq_true rfl, chkK_true, decide_eq_true rfl, chkK_true, ints_len, rowF_len, decide_eq_true hn, chkK_true, ints_plain, chkK_true, gR_end (by omega)]
end
def isI64 : D → Bool
  | .int .i64 _ => true
  | _ => false
theorem ints_of : ∀ {cs : List D}, cs.all isI64 = true → ∃ l : List Int, cs = ints l
  | [], _ => ⟨[], rfl⟩
  | d :: cs, h => by
    simp only [List.all_cons, Bool.and_eq_true] at h
    obtain ⟨l, rfl⟩ := ints_of h.2
    have h1 := h.1
    unfold isI64 at h1
    split at h1
    · rename_i x; exact ⟨x :: l, rfl⟩
    · cases h1
theorem ints_i64 : ∀ l : List Int, (ints l).all isI64 = true
  | [] => rfl
  | _ :: l => ints_i64 l
def muR : FuncId → List D → Option D := fun k ds => match k with
  | 177 => (match ds with
    | [.slc _ n cs] => ifK (cs.all isI64 && (decide (n ≤ 1000) && decide (cs.length = n))) (some (.slc false n cs.reverse)) none
    | _ => none)
  | _ => none
theorem muR_at (l : List Int) (h : l.length ≤ 1000) : muR 177 [.slc false l.length (ints l)] = some (.slc false l.length (ints l.reverse)) := by
  show ifK ((ints l).all isI64 && (decide (l.length ≤ 1000) && decide ((ints l).length = l.length))) (some (D.slc false l.length (ints l).reverse)) none = _
  rw [ints_i64, decide_eq_true h, decide_eq_true (ints_len l)]
  show some (D.slc false l.length (ints l).reverse) = _
  rw [show (ints l).reverse = ints l.reverse by simp [ints, List.map_reverse]]
theorem okf177 : okFn Tryz.prog O0 Tryz.f177 = true := by kernel_rfl
theorem muR_ok : MutsT trimT muR := by
  intro k cs len rest f m cs' h
  unfold muR at h
  split at h
  · split at h
    · rename_i hd
      cases hd
      cases hc : cs.all isI64 && (decide (len ≤ 1000) && decide (cs.length = len))
      · rw [hc] at h; cases h
      · rw [hc] at h
        cases h
        simp only [Bool.and_eq_true, decide_eq_true_eq] at hc
        obtain ⟨h1, h2, h3⟩ := hc
        obtain ⟨l, rfl⟩ := ints_of h1
        rw [ints_len] at h3
        subst h3
        rw [show (ints l).reverse = ints l.reverse by simp [ints, List.map_reverse]]
        refine fnM none_ok noMu_ok Tryz.func177 (ord := O0) (N := N177) okf177 (by kernel_rfl) fun e n he => (F177_eq _ _ _ _ _ _ _ _).trans ?_
        rw [ints_len] at he
        have hw : IntKind.wrap .i64 ((l.length : Int) - 1) = (l.length : Int) - 1 - ((0 : Nat) : Int) := (wrap_in (by omega)).trans (by omega)
        rw [hw]
        have := go177 (call := callOf fun _ _ => none) (mu := noMu) (te := e) (tn := n) h2 he l.length 0 LL (by omega) (by omega) (by unfold LL; omega)
        rw [gR_zero] at this
        exact this
    · cases h
  · cases h

/-! ### Steps of printed equations -/
section
variable {α : Type} {r : Option α}
theorem find_step {o : Option (Option Nat)} {j : Nat} {e : Option α} {c : Nat → Option α} (h : o = some (some j)) (h2 : c j = r) : findK o e c = r := by
  subst h
  exact h2
theorem cell_step {cs : List D} {i : Nat} {d : D} {k : D → Option α} (h : cs[i]? = some d) (h2 : k d = r) : cellK cs i k = r := (cellK_some h k).trans h2
theorem int_step {kd : IntKind} {n : Int} {k : Int → Option α} (h2 : k n = r) : intK kd (.int kd n) k = r := by
  rw [intK_int]
  exact h2
theorem chk_step {b : Bool} {t : Option α} (h : b = true) (h2 : t = r) : chkK b t = r := by
  subst h
  exact h2
theorem opt_step {β : Type} {o : Option β} {x : β} {k : β → Option α} (h : o = some x) (h2 : k x = r) : optK o k = r := by
  subst h
  exact h2
theorem slc_step {f : Bool} {n : Nat} {cs : List D} {k : Bool → Nat → List D → Option α} (h2 : k f n cs = r) : slcK (.slc f n cs) k = r := h2
theorem if_step {b b' : Bool} {t e t' e' : Option α} (h : b = b') (h1 : b' = true → t = t') (h2 : b' = false → e = e') : ifK b t e = ifK b' t' e' := by
  subst h
  cases b
  · exact h2 rfl
  · exact h1 rfl
end

/-! ### Tables -/
theorem findK_some {α : Type} (i : Nat) (e : Option α) (c : Nat → Option α) : findK (some (some i)) e c = c i := rfl
def asN (v : Nat) : List (Nat × Nat) → Option Nat
  | [] => none
  | (k, x) :: r => if v = k then some x else asN v r
def ixN (v : Nat) : List (Nat × Nat) → Nat → Option Nat
  | [], _ => none
  | (k, _) :: r, i => if v = k then some i else ixN v r (i + 1)
def upN (v x : Nat) : List (Nat × Nat) → List (Nat × Nat)
  | [] => [(v, x)]
  | (k, y) :: r => if v = k then (k, x) :: r else (k, y) :: upN v x r
def kysC (M : List (Nat × Nat)) : List D := M.map fun p => .int .i64 (p.1 : Int)
def vlsC (M : List (Nat × Nat)) : List D := M.map fun p => .int .i64 (p.2 : Int)
theorem findD_ix (v : Nat) : ∀ (M : List (Nat × Nat)) (i : Nat), findD (.int .i64 (v : Int)) (kysC M) i = some (ixN v M i)
  | [], _ => rfl
  | (k, x) :: r, i => by
    have hk : keyEq (.int .i64 (v : Int)) (.int .i64 (k : Int)) = some ((v : Int) == (k : Int)) := rfl
    show (match keyEq (.int .i64 (v : Int)) (.int .i64 (k : Int)) with
      | some true => some (some i)
      | some false => findD (.int .i64 (v : Int)) (kysC r) (i + 1)
      | none => none) = some (if v = k then some i else ixN v r (i + 1))
    rw [hk]
    by_cases e : v = k
    · subst e
      rw [if_pos rfl]
      simp
    · rw [if_neg e, show ((v : Int) == (k : Int)) = false by simp; omega]
      exact findD_ix v r (i + 1)
theorem ix_as {v : Nat} : ∀ {M : List (Nat × Nat)} {i : Nat}, (asN v M = none ∧ ixN v M i = none) ∨ ∃ j x, asN v M = some x ∧ ixN v M i = some (i + j) ∧ (vlsC M)[j]? = some (.int .i64 (x : Int)) ∧ j < M.length
  | [], _ => .inl ⟨rfl, rfl⟩
  | (k, y) :: r, i => by
    by_cases e : v = k
    · exact .inr ⟨0, y, by simp [asN, e], by simp [ixN, e], rfl, by simp⟩
    · rcases ix_as (v := v) (M := r) (i := i + 1) with ⟨h1, h2⟩ | ⟨j, x, h1, h2, h3, h4⟩
      · exact .inl ⟨by simp [asN, e, h1], by simp [ixN, e, h2]⟩
      · exact .inr ⟨j + 1, x, by simp [asN, e, h1], by simp only [ixN, if_neg e, h2]; congr 1; omega, h3, by simp; omega⟩
theorem as_up (v x v' : Nat) : ∀ M : List (Nat × Nat), asN v' (upN v x M) = updF (fun k => asN k M) v (some x) v'
  | [] => by
    unfold updF
    show (if v' = v then some x else none) = _
    rfl
  | (k, y) :: r => by
    have ih := as_up v x v' r
    unfold updF at ih ⊢
    by_cases e : v = k
    · subst e
      simp only [upN, if_true, asN]
      by_cases c : v' = v
      · simp [c]
      · simp [c]
    · simp only [upN, if_neg e, asN]
      by_cases c : v' = k
      · subst c
        rw [if_pos rfl, if_neg (fun h => e h.symm), if_pos rfl]
      · rw [if_neg c, ih]
        split
        · rfl
        · rfl
theorem upd_N (v x : Nat) (M : List (Nat × Nat)) : updD (.int .i64 (v : Int)) (.int .i64 (x : Int)) (kysC M) (vlsC M) = some (kysC (upN v x M), vlsC (upN v x M)) := by
  unfold updD
  rw [findD_ix]
  have key : ∀ (M : List (Nat × Nat)) (i : Nat), match ixN v M i with
      | some j => i ≤ j ∧ kysC (upN v x M) = kysC M ∧ vlsC (upN v x M) = (vlsC M).set (j - i) (.int .i64 (x : Int))
      | none => kysC (upN v x M) = kysC M ++ [.int .i64 (v : Int)] ∧ vlsC (upN v x M) = vlsC M ++ [.int .i64 (x : Int)] := by
    intro M
    induction M with
    | nil => exact fun i => ⟨rfl, rfl⟩
    | cons p r ih =>
      intro i
      obtain ⟨k, y⟩ := p
      by_cases e : v = k
      · subst e
        simp only [ixN, if_true, upN]
        exact ⟨Nat.le_refl _, rfl, by simp [vlsC]⟩
      · have ih := ih (i + 1)
        simp only [ixN, if_neg e, upN]
        cases hx : ixN v r (i + 1) with
        | none =>
          rw [hx] at ih
          exact ⟨by show _ :: kysC (upN v x r) = _; rw [ih.1]; rfl, by show _ :: vlsC (upN v x r) = _; rw [ih.2]; rfl⟩
        | some j =>
          rw [hx] at ih
          obtain ⟨h1, h2, h3⟩ := ih
          refine ⟨by omega, by show _ :: kysC (upN v x r) = _; rw [h2]; rfl, ?_⟩
          show _ :: vlsC (upN v x r) = _
          rw [h3, show j - i = (j - (i + 1)) + 1 by omega]
          rfl
  have := key M 0
  cases hx : ixN v M 0 with
  | none => rw [hx] at this; dsimp only; rw [this.1, this.2]
  | some j => rw [hx] at this; dsimp only; rw [this.2.1, this.2.2]; rfl
end Go.Pd
end

section
namespace Go.Pd
open Go Go.Proofs Go.RowKit
set_option maxRecDepth 100000

/-! ### What is computed -/
def tryQ (n : Int) (rec : List Int → Nat → Option (List Int)) (room : List Int) : Nat → Nat → Option (List Int)
  | 0, _ => none
  | k + 1, i => match room[i]? with
    | none => none
    | some u => if n > u then tryQ n rec room k (i + 1) else match rec (room.set i (u - n)) i with
      | some r => some r
      | none => tryQ n rec room k (i + 1)
def fillQ : List Int → List Int → List Int → Option (List Int)
  | [], _, l => some l
  | n :: rest, room, l => tryQ n (fun room' i => fillQ rest room' (l ++ [(i : Int)])) room room.length 0
def fillA (f : Bool) : Option (List Int) → D
  | some l => .tup [.slc f l.length (ints l), .bool true]
  | none => .tup [.nils, .bool false]
/-! The same as the program's, with the room that is left in place of what is used. -/
def roomOf (limit : Int) (used : List Int) : List Int := used.map fun u => limit - u
theorem room_set (limit : Int) (used : List Int) (i : Nat) (v : Int) : roomOf limit (used.set i v) = (roomOf limit used).set i (limit - v) := by simp [roomOf, List.map_set]
theorem try_same {limit n : Int} {rec : List Int → Nat → Option (List Int × List Int)} {rec' : List Int → Nat → Option (List Int)} (hr : ∀ u i, (rec u i).map Prod.fst = rec' (roomOf limit u) i) (used : List Int) : ∀ k i : Nat, (tryS limit n rec used k i).map Prod.fst = tryQ n rec' (roomOf limit used) k i
  | 0, _ => rfl
  | k + 1, i => by
    have ih := try_same (n := n) hr used k (i + 1)
    have hg : (roomOf limit used)[i]? = used[i]?.map fun u => limit - u := by simp [roomOf]
    unfold tryS tryQ
    rw [hg]
    cases used[i]? with
    | none => rfl
    | some u =>
      dsimp only [Option.map]
      have he : (limit - u - n) = limit - (u + n) := by omega
      by_cases hc : u + n > limit
      · rw [if_pos hc, if_pos (by omega)]
        exact ih
      · rw [if_neg hc, if_neg (by omega), he, ← room_set, ← hr]
        cases rec (used.set i (u + n)) i with
        | none => exact ih
        | some r => rfl
theorem fill_same (limit : Int) : ∀ rest used l : List Int, (fillS limit rest used l).map Prod.fst = fillQ rest (roomOf limit used) l
  | [], _, _ => rfl
  | n :: rest, used, l => by
    have h : (roomOf limit used).length = used.length := by simp [roomOf]
    unfold fillS fillQ
    rw [h]
    exact try_same (fun u i => fill_same limit rest u (l ++ [(i : Int)])) used used.length 0

/-! ### fill, told of the stations that are left -/
structure FQ (flows : List Int) (rest : List Int) where
  room : List Int
  l : List Int
  h1 : flows.drop l.length = rest
  h2 : l.length ≤ flows.length
  h3 : room.length ≤ 1000
  h4 : Fit 999999999 room
def famFQ (ff : Bool) (flows rest : List Int) : Fam := ⟨105, FQ flows rest, fun x => [.slc ff flows.length (ints flows), .slc false x.l.length (ints x.l), .slc false x.room.length (ints x.room)], fun x => fillA false (fillQ rest x.room x.l)⟩
theorem famFQ_good {ff : Bool} {flows rest : List Int} (h : ∀ x : FQ flows rest, OK2 105 [.slc ff flows.length (ints flows), .slc false x.l.length (ints x.l), .slc false x.room.length (ints x.room)] (fillA false (fillQ rest x.room x.l))) : (famFQ ff flows rest).Good :=
  ⟨h, fun (x y : FQ flows rest) e => by
    have e : [D.slc ff flows.length (ints flows), .slc false x.l.length (ints x.l), .slc false x.room.length (ints x.room)] = [D.slc ff flows.length (ints flows), .slc false y.l.length (ints y.l), .slc false y.room.length (ints y.room)] := e
    simp only [List.cons.injEq, D.slc.injEq, true_and, and_true] at e
    show fillA false (fillQ rest x.room x.l) = fillA false (fillQ rest y.room y.l)
    rw [ints_inj e.1.2, ints_inj e.2.2], fun _ => rfl⟩
section
variable {call : FuncId → List D → Option D} {ff : Bool} {flows : List Int} {n : Int} {rest room l : List Int} {lf gf : Bool}
theorem go105 (h105 : ∀ x : FQ flows rest, call 105 [.slc ff flows.length (ints flows), .slc false x.l.length (ints x.l), .slc false x.room.length (ints x.room)] = some (fillA false (fillQ rest x.room x.l)))
    (hd : flows.drop l.length = n :: rest) (hfl : flows.length ≤ 1000) (hrl : room.length ≤ 1000) (hfit : Fit 999999999 room) (hn : 1 ≤ n) : ∀ (k i fuel : Nat), i + k = room.length → k < fuel →
    F105_122 call LL C1 fuel ff flows.length (ints flows) lf l.length (ints l) gf room.length (ints room) n (i : Int) = some (fillA false (tryQ n (fun room' i => fillQ rest room' (l ++ [(i : Int)])) room k i)) := by
  have hll : l.length < flows.length := by
    have := congrArg List.length hd
    simp at this
    omega
  intro k
  induction k with
  | zero =>
    intro i fuel hi hf
    obtain ⟨fuel, rfl⟩ : ∃ n, fuel = n + 1 := ⟨fuel - 1, by omega⟩
    rw [F105_122_eq, show decide ((i : Int) < (room.length : Int)) = false by simp; omega, ifK_false]
    rfl
  | succ k ih =>
    intro i fuel hi hf
    obtain ⟨fuel, rfl⟩ : ∃ n, fuel = n + 1 := ⟨fuel - 1, by omega⟩
    have hlt : i < room.length := by omega
    have hu : room[i]? = some room[i] := List.getElem?_eq_getElem hlt
    have hb := hfit _ (List.getElem_mem hlt)
    have ih := ih (i + 1) fuel (by omega) (by omega)
    have e1 : decide ((0 : Int) ≤ (i : Int) ∧ (i : Int) < (room.length : Int)) = true := decide_eq_true ⟨by omega, by omega⟩
    have e2 : IntKind.wrap .i64 ((i : Int) + 1) = ((i + 1 : Nat) : Int) := (wrap_in (by omega)).trans (by omega)
    have e0 : decide ((i : Int) < (room.length : Int)) = true := by simp; omega
    rw [F105_122_eq, e0, ifK_true, e1, chkK_true, cell_at hu, intK_int, e2]
    unfold tryQ
    rw [hu]
    dsimp only
    by_cases hg : n > room[i]
    · rw [decide_eq_true hg, ifK_true, if_pos hg]
      exact ih
    · have e3 : IntKind.wrap .i64 (room[i] - n) = room[i] - n := wrap_in (by omega)
      have e4 : decide ((0 : Int) ≤ (i : Int) ∧ (i : Int) < (((0 + room.length : Nat)) : Int)) = true := decide_eq_true ⟨by omega, by omega⟩
      rw [decide_eq_false hg, ifK_false, if_neg hg, decide_eq_true (show (ints room).length = room.length * 1 by rw [ints_len]; omega), chkK_true, ints_one, chkK_true, decide_eq_false (show ¬ room.length = 0 by omega), ifK_false,
        decide_eq_true (show 0 < room.length ∧ 0 = 0 ∧ (0 + room.length) * 8 ≤ limit ∧ 0 + room.length ≤ 4611686018427387903 from ⟨by omega, rfl, by unfold limit; omega, by omega⟩), chkK_true]
      rw [e4, chkK_true, cell_at hu, intK_int, chkK_true, decide_eq_true (show Int.toNat (i : Int) * 1 + 1 ≤ (ints room).length by rw [ints_len]; simp; omega), chkK_true, e3, ints_set, Int.toNat_natCast, Nat.zero_add,
        decide_eq_true (show (ints l).length = l.length * 1 by rw [ints_len]; omega), chkK_true, ints_one, chkK_true]
      let x : FQ flows rest := ⟨room.set i (room[i] - n), l ++ [(i : Int)], by rw [List.length_append]; show flows.drop (l.length + 1) = rest; rw [← List.drop_drop, hd]; rfl, by simp; omega, by simpa using hrl, fit_set hfit (by omega) (by omega)⟩
      have hx := h105 x
      have hx : call 105 [.slc ff flows.length (ints flows), .slc false (l ++ [(i : Int)]).length (ints (l ++ [(i : Int)])), .slc false (room.set i (room[i] - n)).length (ints (room.set i (room[i] - n)))] = some (fillA false (fillQ rest (room.set i (room[i] - n)) (l ++ [(i : Int)]))) := hx
      rw [List.length_set, List.length_append] at hx
      have rd : ∀ (o : Option (List Int)) (A : Bool → Option D) (k : Bool → Nat → List D → Bool → Option D), (tupK (fillA false o) 2 fun c => cellK c 0 fun d => nilK d (cellK c 1 fun d1 => boolK d1 fun b => A b) fun f n c1 => cellK c 1 fun d1 => boolK d1 fun b => k f n c1 b) = (match o with
        | some l => k false l.length (ints l) true
        | none => A false) := fun o A k => by cases o <;> rfl
      have fin : (match fillQ rest (room.set i (room[i] - n)) (l ++ [(i : Int)]) with
          | some l' => ifK true (some (D.tup [D.slc false l'.length (ints l'), D.bool true])) (F105_122 call LL C1 fuel ff flows.length (ints flows) lf l.length (ints l) gf room.length (ints room) n ((i + 1 : Nat) : Int))
          | none => ifK false (some (D.tup [D.nils, D.bool true])) (F105_122 call LL C1 fuel ff flows.length (ints flows) lf l.length (ints l) gf room.length (ints room) n ((i + 1 : Nat) : Int))) = some (fillA false (match fillQ rest (room.set i (room[i] - n)) (l ++ [(i : Int)]) with
          | some r => some r
          | none => tryQ n (fun room' i => fillQ rest room' (l ++ [(i : Int)])) room k (i + 1))) := by
        cases fillQ rest (room.set i (room[i] - n)) (l ++ [(i : Int)]) with
        | some l' => rfl
        | none => exact ih
      by_cases hl0 : l.length = 0
      · have hl0' : l = [] := List.length_eq_zero_iff.1 hl0
        rw [decide_eq_true hl0, ifK_true]
        subst hl0'
        refine (congrArg (fun o => optK o _) hx).trans ?_
        rw [optK_some, rd]
        exact fin
      · rw [decide_eq_false hl0, ifK_false, decide_eq_true (show 0 < l.length ∧ 0 = 0 ∧ (0 + l.length) * 8 ≤ limit ∧ 0 + l.length ≤ 4611686018427387903 from ⟨by omega, rfl, by unfold limit; omega, by omega⟩), chkK_true,
          decide_eq_true (show (0 + l.length + 1) * 8 ≤ limit ∧ 0 + l.length + 1 ≤ 9223372036854775807 from ⟨by unfold limit; omega, by omega⟩), chkK_true, ints_app1, Nat.zero_add]
        refine (congrArg (fun o => optK o _) hx).trans ?_
        rw [optK_some, rd]
        exact fin
end
theorem okf105 : okFn Tryz.prog O0 Tryz.f105 = true := by kernel_rfl
theorem okFQ (ff : Bool) (flows : List Int) (hfl : flows.length ≤ 1000) (hr : ∀ n ∈ flows, 1 ≤ n) : ∀ (rest : List Int) (x : FQ flows rest) (f g : Bool), OK2 105 [.slc ff flows.length (ints flows), .slc f x.l.length (ints x.l), .slc g x.room.length (ints x.room)] (fillA (f && rest.isEmpty) (fillQ rest x.room x.l)) := by
  intro rest
  induction rest with
  | nil =>
    intro x f g
    have hll : x.l.length = flows.length := by
      have h1 := congrArg List.length x.h1
      have h2 := x.h2
      simp at h1
      omega
    refine fnV none_ok Tryz.func105 (ord := O0) (N := N105) (.inr rfl) okf105 ((F105_eq _ _ _ _ _ _ _ _ _ _ _ _).trans ?_)
    rw [show ((x.l.length : Int) == (flows.length : Int)) = true by simp [hll], ifK_true]
    cases f <;> rfl
  | cons n rest ih =>
    intro x f g
    obtain ⟨B, hb, h105, _⟩ := exF [famFQ ff flows rest] ⟨famFQ_good fun x => ih x false false, trivial⟩ rfl
    have hll : x.l.length < flows.length := by
      have := congrArg List.length x.h1
      simp at this
      omega
    have hnf : flows[x.l.length]? = some n := by
      have := congrArg (fun l : List Int => l[0]?) x.h1
      simpa using this
    have hn := hr n (List.mem_of_getElem? hnf)
    refine fnV hb Tryz.func105 (ord := O0) (N := N105) (.inr rfl) okf105 ((F105_eq _ _ _ _ _ _ _ _ _ _ _ _).trans ?_)
    rw [show ((x.l.length : Int) == (flows.length : Int)) = false by simp; omega, ifK_false, show decide ((0 : Int) ≤ (x.l.length : Int) ∧ (x.l.length : Int) < (flows.length : Int)) = true from decide_eq_true ⟨by omega, by omega⟩, chkK_true, cell_at hnf, intK_int, show (f && (n :: rest).isEmpty) = false by cases f <;> rfl]
    exact go105 (fun y => h105 y) x.h1 hfl x.h3 x.h4 hn x.room.length 0 LL (Nat.zero_add _) (by have := x.h3; unfold LL; omega)
end Go.Pd
end

section
namespace Go.Pd
open Go Go.Proofs Go.RowKit
set_option maxRecDepth 100000

/-! ### Rounds, by the reference -/
theorem room_rep (limit : Int) (r : Nat) : roomOf limit (List.replicate r 0) = List.replicate r limit := by simp [roomOf]
theorem rep_snoc (limit : Int) (r : Nat) : ints (List.replicate r limit) ++ [D.int .i64 limit] = ints (List.replicate (r + 1) limit) := by
  rw [ints_app1, ← List.replicate_succ']
def ow41 (limit : Int) : Nat → Ow
  | 0 => .nil
  | r + 1 => .own (r + 1) (ints (List.replicate (r + 1) limit))
section
variable {call : FuncId → List D → Option D} {ff : Bool} {flows : List Int} {limit : Int}
theorem rd_fill {o : Option (List Int × List Int)} {A : Bool → Option D} {k : Bool → Nat → List D → Bool → Option D} : (tupK (fillA false (o.map Prod.fst)) 2 fun c => cellK c 0 fun d => nilK d (cellK c 1 fun d1 => boolK d1 fun b => A b) fun f n c1 => cellK c 1 fun d1 => boolK d1 fun b => k f n c1 b) = (match o with
    | some x => k false x.1.length (ints x.1) true
    | none => A false) := by cases o <;> rfl
theorem go41 (h105 : ∀ r : Nat, r ≤ 1000 → call 105 [.slc ff flows.length (ints flows), .nils, .slc false r (ints (List.replicate r limit))] = some (fillA false ((fillS limit flows (List.replicate r 0) []).map Prod.fst)))
    (hfl : flows.length ≤ 1000) (hall : fillS limit flows (List.replicate flows.length 0) [] ≠ none) : ∀ (k r fuel : Nat), k + r = flows.length → 1 ≤ k → k < fuel →
    F41_14 call LL C1 fuel ff flows.length (ints flows) limit (ow41 limit r) = some (.slc false (roundsGo limit flows k (r + 1)).length (ints (roundsGo limit flows k (r + 1))))
  | 0, _, _, _, h, _ => by omega
  | k + 1, r, fuel, hk, _, hf => by
    obtain ⟨fuel, rfl⟩ : ∃ n, fuel = n + 1 := ⟨fuel - 1, by omega⟩
    have hc := h105 (r + 1) (by omega)
    have ih := go41 h105 hfl hall k (r + 1) fuel (by omega)
    rw [show roundsGo limit flows (k + 1) (r + 1) = (match fillS limit flows (List.replicate (r + 1) 0) [] with
      | some x => x.1
      | none => roundsGo limit flows k (r + 1 + 1)) from rfl]
    have hne : fillS limit flows (List.replicate (r + 1) 0) [] = none → 1 ≤ k := fun hS => by
      rcases Nat.eq_zero_or_pos k with h0 | h0
      · exact absurd (by rw [show flows.length = r + 1 by omega]; exact hS) hall
      · exact h0
    cases r with
    | zero =>
      show F41_14 call LL C1 (fuel + 1) ff flows.length (ints flows) limit .nil = _
      rw [F41_14_eqn]
      refine (congrArg (fun o => optK o _) hc).trans ?_
      rw [optK_some, rd_fill]
      cases hS : fillS limit flows (List.replicate (0 + 1) 0) [] with
      | some x => rfl
      | none => exact ih (hne hS) (by omega)
    | succ r =>
      show F41_14 call LL C1 (fuel + 1) ff flows.length (ints flows) limit (.own (r + 1) (ints (List.replicate (r + 1) limit))) = _
      rw [F41_14_eqo, decide_eq_true (show (r + 1 + 1) * 8 ≤ Go.Pd.limit ∧ r + 1 + 1 ≤ 9223372036854775807 from ⟨by unfold Go.Pd.limit; omega, by omega⟩), chkK_true, rep_snoc]
      refine (congrArg (fun o => optK o _) hc).trans ?_
      rw [optK_some, rd_fill]
      cases hS : fillS limit flows (List.replicate (r + 1 + 1) 0) [] with
      | some x => rfl
      | none => exact ih (hne hS) (by omega)
end
theorem okf41 : okFn Tryz.prog O0 Tryz.f41 = true := by kernel_rfl
theorem rnd_in {flows : List Int} {limit : Int} (hz : roundsE flows limit = 0) : flows ≠ [] ∧ flows.length ≤ 8 ∧ (1 ≤ limit ∧ limit ≤ 999999999) ∧ ∀ m ∈ flows, 1 ≤ m ∧ m ≤ limit := by
  rw [rounds_same] at hz
  unfold rndE at hz
  cases h1 : ((flows.length : Int) == 0) <;> cases h2 : decide ((flows.length : Int) > 8) <;> cases h3 : decide (limit < 1) <;> cases h4 : decide (limit > 999999999) <;> rw [h1, h2, h3, h4] at hz <;> first
    | (cases hz; done)
    | (simp only [ifK_false] at hz
       rw [flE_eq] at hz
       simp at h1 h2 h3 h4
       refine ⟨h1, by omega, by omega, fun m hm => ?_⟩
       have h5 : greatB limit flows = false := ifK_zero hz
       have := List.any_eq_false.1 h5 m hm
       have h6 : outLM (m, 1, limit) = false := by simpa using this
       have := outLM_in h6
       omega)
theorem ok41 {f : Bool} {flows : List Int} {limit : Int} (hz : roundsE flows limit = 0) : OK2 41 [.slc f flows.length (ints flows), .int .i64 limit] (.slc false (roundsS limit flows).length (ints (roundsS limit flows))) := by
  obtain ⟨h1, h2, h3, h4⟩ := rnd_in hz
  obtain ⟨B, hb, e, _⟩ := exF [⟨105, {r : Nat // r ≤ 1000}, fun r => [.slc f flows.length (ints flows), .nils, .slc false r.1 (ints (List.replicate r.1 limit))], fun r => fillA false ((fillS limit flows (List.replicate r.1 0) []).map Prod.fst)⟩]
    ⟨⟨fun r => by
      have hok := okFQ f flows (by omega) (fun n hn => (h4 n hn).1) flows ⟨List.replicate r.1 limit, [], rfl, Nat.zero_le _, by simpa using r.2, fun u hu => by rw [List.eq_of_mem_replicate hu]; omega⟩ false false
      show OK2 105 [.slc f flows.length (ints flows), .nils, .slc false r.1 (ints (List.replicate r.1 limit))] (fillA false ((fillS limit flows (List.replicate r.1 0) []).map Prod.fst))
      rw [fill_same, room_rep]
      have hok : OK2 105 ([.slc f flows.length (ints flows)] ++ .slc false 0 [] :: [.slc false (List.replicate r.1 limit).length (ints (List.replicate r.1 limit))]) (fillA (false && flows.isEmpty) (fillQ flows (List.replicate r.1 limit) [])) := hok
      rw [List.length_replicate] at hok
      exact ok_nil hok, fun (x y : {r : Nat // r ≤ 1000}) e => by
      have e : [D.slc f flows.length (ints flows), .nils, .slc false x.1 (ints (List.replicate x.1 limit))] = [D.slc f flows.length (ints flows), .nils, .slc false y.1 (ints (List.replicate y.1 limit))] := e
      simp only [List.cons.injEq, D.slc.injEq, true_and, and_true] at e
      show fillA false ((fillS limit flows (List.replicate x.1 0) []).map Prod.fst) = fillA false ((fillS limit flows (List.replicate y.1 0) []).map Prod.fst)
      rw [e.1], fun _ => rfl⟩, trivial⟩ rfl
  refine fnV hb Tryz.func41 (ord := O0) (N := N41) (.inl rfl) okf41 ((F41_eq _ _ _ _ _ _ _).trans ?_)
  exact go41 (fun r hr => e ⟨r, hr⟩) (by omega) (fillS_all fun m hm => (h4 m hm).2) flows.length 0 LL rfl (by have := List.length_pos_iff.2 h1; omega) (by unfold LL; omega)

/-! ### The law -/
theorem okf6 : okFn Tryz.prog O0 Tryz.f6 = true := by kernel_rfl
theorem slcI_eq (l : List Int) : slcI l = .slc l.isEmpty l.length (ints l) := by
  cases l <;> rfl
def famT (k : FuncId) : Fam := ⟨k, {ds : List D // OK2 k ds (.bool true)}, fun x => x.1, fun _ => .bool true⟩
theorem famT_good {k : FuncId} (h : ∀ ds, cstG k ds = none) : (famT k).Good := ⟨fun x => x.2, fun _ _ _ => rfl, fun x => h x.1⟩
theorem rotD_eq (l : List Pt) (r d : Int) : ∃ f R, rotD l r d = .tup [.slc f (R : List Int).length (ints R), .int .i64 (rotE l r d)] ∧ (rotE l r d ≠ 0 → R = []) ∧ (rotE l r d = 0 → R = rotS l r d) := by
  unfold rotD
  by_cases h : rotE l r d = 0
  · exact ⟨_, rotS l r d, by rw [h, slcI_eq]; rfl, fun h' => absurd h h', fun _ => rfl⟩
  · exact ⟨true, [], by rw [show (rotE l r d != 0) = true by simpa using h]; rfl, fun _ => rfl, fun h' => absurd h' h⟩
theorem roundsD_eq (l : List Int) (m : Int) : ∃ f R, roundsD l m = .tup [.slc f (R : List Int).length (ints R), .int .i64 (roundsE l m)] ∧ (roundsE l m ≠ 0 → R = []) ∧ (roundsE l m = 0 → R = roundsS m l) := by
  unfold roundsD
  by_cases h : roundsE l m = 0
  · exact ⟨_, roundsS m l, by rw [h]; rfl, fun h' => absurd h h', fun _ => rfl⟩
  · exact ⟨true, [], by rw [show (roundsE l m != 0) = true by simpa using h]; rfl, fun _ => rfl, fun h' => absurd h' h⟩
theorem rd_sl {γ : Type} (f : Bool) (n : Nat) (c : List D) (e : Int) (k : Bool → Nat → List D → Int → Option γ) : (tupK (.tup [.slc f n c, .int .i64 e]) 2 fun c' => cellK c' 0 fun d => slcK d fun f n c1 => cellK c' 1 fun d1 => intK .i64 d1 fun x => k f n c1 x) = k f n c e := rfl
theorem rotG_len {l : List Pt} {rr : Int} : ∀ (k : Nat) (w out : List Int), (rotG l rr k w out).length = out.length + k
  | 0, _, _ => rfl
  | k + 1, w, out => by
    show (rotG l rr k _ (out ++ [_])).length = _
    rw [rotG_len k]
    simp
    omega
theorem tryS_len1 {limit n : Int} {m : Nat} {rec : List Int → Nat → Option (List Int × List Int)} (hr : ∀ u i r, rec u i = some r → r.1.length = m) {used : List Int} : ∀ (k i : Nat) (r : List Int × List Int), tryS limit n rec used k i = some r → r.1.length = m
  | 0, _, _, h => by cases h
  | k + 1, i, r, h => by
    unfold tryS at h
    split at h
    · cases h
    · split at h
      · exact tryS_len1 hr k (i + 1) r h
      · split at h
        · rename_i r' hr'
          cases h
          exact hr _ i _ hr'
        · exact tryS_len1 hr k (i + 1) r h
theorem fillS_len1 (limit : Int) : ∀ (rest used l : List Int) (r : List Int × List Int), fillS limit rest used l = some r → r.1.length = l.length + rest.length
  | [], _, _, r, h => by cases h; rfl
  | n :: rest, used, l, r, h => tryS_len1 (fun u i r' hr' => by rw [fillS_len1 limit rest _ _ r' hr']; simp; omega) _ _ r h
theorem roundsGo_len (limit : Int) (flows : List Int) : ∀ k r : Nat, (roundsGo limit flows k r).length ≤ flows.length
  | 0, _ => Nat.zero_le _
  | k + 1, r => by
    unfold roundsGo
    split
    · rename_i x hx
      rw [fillS_len1 _ _ _ _ _ hx]
      simp
    · exact roundsGo_len limit flows k (r + 1)
theorem seenR_zero : ∀ {r pre : List Pt}, seenR r pre = 0 → ∀ p ∈ r, outP p = false
  | [], _, _, p, hp => by cases hp
  | x :: r, pre, h, p, hp => by
    rw [show seenR (x :: r) pre = ifK (outP x) 3 (ifK (anyB x pre) 9 (seenR r (pre ++ [x]))) from rfl] at h
    cases h1 : outP x <;> cases h2 : anyB x pre <;> rw [h1, h2] at h <;> first
      | (cases h; done)
      | (rcases List.mem_cons.1 hp with rfl | hp
         · exact h1
         · exact seenR_zero h p hp)
theorem rot_in {l : List Pt} {r d : Int} (hz : rotE l r d = 0) : (0 < l.length ∧ l.length ≤ 16) ∧ (∀ p ∈ l, InP p) ∧ (0 ≤ d ∧ d ≤ 366) := by
  rw [rot_same] at hz
  unfold rotR at hz
  cases h1 : ((l.length : Int) == 0) <;> cases h2 : decide ((l.length : Int) > 16) <;> cases h3 : (seenR l [] != 0) <;> cases h4 : decide (r < 0) <;> cases h5 : decide (r > 1000000) <;> cases h6 : decide (d < 0) <;> cases h7 : decide (d > 366) <;> rw [h1, h2, h3, h4, h5, h6, h7] at hz <;> first
    | (cases hz; done)
    | (exfalso; simp at h3; exact h3 hz)
    | (simp at h1 h2 h6 h7
       have h3 : seenR l [] = 0 := by simpa using h3
       exact ⟨⟨List.length_pos_iff.2 h1, by omega⟩, fun p hp => inP_of (seenR_zero h3 p hp), by omega⟩)
theorem rotS_eq {l : List Pt} {r d : Int} (hz : rotE l r d = 0) : rotS l r d = rotRG l (w64 (r * r)) d.toNat d.toNat [] := by
  obtain ⟨⟨h1, _⟩, h2, h3⟩ := rot_in hz
  exact rot_eq h1 h2 (by omega) d.toNat _ _ (by simp) (by simp) fun i hi => by
    rw [List.getD_eq_getElem?_getD]
    simp [hi, cntR]
theorem ok6 {f g : Bool} (l : List Pt) (a0 a1 : Int) (flows : List Int) : OK2 6 [.slc f l.length (ptsC l), .agg [.int .i64 a0, .int .i64 a1], .slc g flows.length (ints flows)] (.bool true) := by
  by_cases hs : l.length ≤ 19 ∧ flows.length ≤ 20
  · obtain ⟨f1, R, r1, r2, r3⟩ := rotD_eq l a0 a1
    obtain ⟨f2, F, s1, s2, s3⟩ := roundsD_eq flows a0
    obtain ⟨B, hB, e17, e36, e37, e38, e39, e40, e41, e42, _⟩ := exF [one 17 [] (.bool true), one 36 [.slc f l.length (ptsC l), .int .i64 a0, .int .i64 a1] (rotD l a0 a1), one 37 [.slc g flows.length (ints flows), .int .i64 a0] (roundsD flows a0),
        one 38 [.slc f l.length (ptsC l), .int .i64 a0, .int .i64 a1] (.int .i64 (rotR l a0 a1)), one 39 [.slc g flows.length (ints flows), .int .i64 a0] (.int .i64 (rndE flows a0)),
        ⟨40, {u : Unit // rotE l a0 a1 = 0}, fun _ => [.slc f l.length (ptsC l), .int .i64 a0, .int .i64 a1], fun _ => slcI (rotS l a0 a1)⟩,
        ⟨41, {u : Unit // roundsE flows a0 = 0}, fun _ => [.slc g flows.length (ints flows), .int .i64 a0], fun _ => .slc false (roundsS a0 flows).length (ints (roundsS a0 flows))⟩, famT 42]
      ⟨one_good ok17 rfl, one_good (ok36 l a0 a1) rfl, one_good (ok37 flows a0 (by omega)) rfl, one_good (ok38 l a0 a1) rfl, one_good (ok39 flows a0) rfl,
        ⟨fun u => by
          obtain ⟨⟨h1, h2⟩, _, h3⟩ := rot_in u.2
          have := ok40 (f := f) l a0 a1.toNat (by omega) h1 (by omega)
          rw [← rotS_eq u.2, Int.toNat_of_nonneg h3.1] at this
          exact this, fun _ _ _ => rfl, fun _ => rfl⟩,
        ⟨fun u => ok41 u.2, fun _ _ _ => rfl, fun _ => rfl⟩, famT_good fun _ => rfl, trivial⟩ rfl
    refine fnT hB Tryz.func6 (ord := O0) (N := N6) okf6 ((F6_eq _ _ _ _ _ _ _ _ _ _ _).trans ?_)
    have f17 : callOf B 17 [] = some (.bool true) := e17 ()
    have f36 : callOf B 36 [.slc f l.length (ptsC l), .int .i64 a0, .int .i64 a1] = some (.tup [.slc f1 R.length (ints R), .int .i64 (rotE l a0 a1)]) := by rw [← r1]; exact e36 ()
    have f37 : callOf B 37 [.slc g flows.length (ints flows), .int .i64 a0] = some (.tup [.slc f2 F.length (ints F), .int .i64 (roundsE flows a0)]) := by rw [← s1]; exact e37 ()
    have f38 : callOf B 38 [.slc f l.length (ptsC l), .int .i64 a0, .int .i64 a1] = some (.int .i64 (rotE l a0 a1)) := by rw [rot_same]; exact e38 ()
    have f39 : callOf B 39 [.slc g flows.length (ints flows), .int .i64 a0] = some (.int .i64 (roundsE flows a0)) := by rw [rounds_same]; exact e39 ()
    have t42 : ∀ (f g : Bool) (l : List Int), l.length ≤ 1000 → callOf B 42 [.slc f l.length (ints l), .slc g l.length (ints l)] = some (.bool true) := fun f g l h => e42 ⟨_, ok42 l (by omega)⟩
    have t42n : ∀ f : Bool, callOf B 42 [.slc f 0 [], .nils] = some (.bool true) := fun f => e42 ⟨_, ok_nil (a := [.slc f 0 []]) (b := []) (f := true) (ok42 (f := f) (g := true) [] (by simp))⟩
    have lR : R.length ≤ 1000 := by
      by_cases hz : rotE l a0 a1 = 0
      · rw [r3 hz]
        unfold rotS
        rw [rotG_len]
        have := (rot_in hz).2.2
        simp
        omega
      · rw [r2 hz]; simp
    have lF : F.length ≤ 1000 := by
      by_cases hz : roundsE flows a0 = 0
      · rw [s3 hz]
        have := roundsGo_len a0 flows flows.length 1
        unfold roundsS
        omega
      · rw [s2 hz]; simp
    have tail : ∀ (w : D) (_ : callOf B 42 [.slc f1 R.length (ints R), w] = some (.bool true)) (X : Option D), X = F6_255 (callOf B) LL C1 g flows.length (ints flows) a0 a1 f1 R.length (ints R) (rotE l a0 a1) f2 F.length (ints F) (roundsE flows a0) (rotE l a0 a1) (roundsE flows a0) (match w with | .slc x y z => .slc x y z | _ => .nil) → (w = .nils ∨ ∃ x y z, w = .slc x y z) → X = some (.bool true) := by
      intro w hw X hX hww
      rw [hX]
      rcases hww with rfl | ⟨x, y, z, rfl⟩
      · show F6_255 (callOf B) LL C1 g flows.length (ints flows) a0 a1 f1 R.length (ints R) (rotE l a0 a1) f2 F.length (ints F) (roundsE flows a0) (rotE l a0 a1) (roundsE flows a0) .nil = _
        rw [F6_255_eqn (C := C1) (hC := fun _ => rfl)]
        simp only [beq_self_eq_true, ifK_true, hw, optK_some, boolK_bool]
        by_cases hz : roundsE flows a0 = 0
        · rw [show (roundsE flows a0 == 0) = true by simpa using hz, ifK_true]
          refine (congrArg (fun o => optK o _) (e41 ⟨(), hz⟩)).trans ?_
          rw [optK_some, slcK_slc, ← s3 hz]
          simp only [t42 _ _ F lF, f17, optK_some, boolK_bool, ifK_true]
        · rw [show (roundsE flows a0 == 0) = false by simpa using hz, ifK_false, s2 hz]
          simp only [List.length_nil, show ints [] = [] from rfl, t42n, f17, optK_some, boolK_bool, ifK_true]
      · show F6_255 (callOf B) LL C1 g flows.length (ints flows) a0 a1 f1 R.length (ints R) (rotE l a0 a1) f2 F.length (ints F) (roundsE flows a0) (rotE l a0 a1) (roundsE flows a0) (.slc x y z) = _
        rw [F6_255_eqs (C := C1) (hC := fun _ => rfl)]
        simp only [beq_self_eq_true, ifK_true, hw, optK_some, boolK_bool]
        by_cases hz : roundsE flows a0 = 0
        · rw [show (roundsE flows a0 == 0) = true by simpa using hz, ifK_true]
          refine (congrArg (fun o => optK o _) (e41 ⟨(), hz⟩)).trans ?_
          rw [optK_some, slcK_slc, ← s3 hz]
          simp only [t42 _ _ F lF, f17, optK_some, boolK_bool, ifK_true]
        · rw [show (roundsE flows a0 == 0) = false by simpa using hz, ifK_false, s2 hz]
          simp only [List.length_nil, show ints [] = [] from rfl, t42n, f17, optK_some, boolK_bool, ifK_true]
    have mid : F6_7 (callOf B) LL C1 f l.length (ptsC l) g flows.length (ints flows) a0 a1 = some (.bool true) := by
      rw [F6_7_eq (C := C1) (hC := fun _ => rfl), f36, optK_some, rd_sl, f37, optK_some, rd_sl, f38, optK_some, intK_int, f39, optK_some, intK_int]
      by_cases hz : rotE l a0 a1 = 0
      · rw [show (rotE l a0 a1 == 0) = true by simpa using hz, ifK_true]
        refine (congrArg (fun o => optK o _) (e40 ⟨(), hz⟩)).trans ?_
        rw [optK_some, slcI_eq, slcK_slc, ← r3 hz]
        exact tail (.slc R.isEmpty R.length (ints R)) (t42 _ _ R lR) _ rfl (.inr ⟨_, _, _, rfl⟩)
      · rw [show (rotE l a0 a1 == 0) = false by simpa using hz, ifK_false]
        exact tail .nils (by rw [r2 hz]; exact t42n _) _ rfl (.inl rfl)
    rw [f17, mid, optK_some, boolK_bool]
    cases decide ((l.length : Int) > 19) <;> cases decide (a1 > 20) <;> cases decide (a1 ≤ 366) <;> cases decide ((flows.length : Int) > 6) <;> cases decide ((flows.length : Int) ≤ 8) <;> cases decide ((flows.length : Int) > 20) <;> rfl
  · obtain ⟨B, hB, e17, _⟩ := exF [one 17 [] (.bool true)] ⟨one_good ok17 rfl, trivial⟩ rfl
    refine fnT hB Tryz.func6 (ord := O0) (N := N6) okf6 ((F6_eq _ _ _ _ _ _ _ _ _ _ _).trans ?_)
    have f17 : callOf B 17 [] = some (.bool true) := e17 ()
    rw [f17, optK_some, boolK_bool]
    by_cases h1 : l.length ≤ 19
    · have h2 : 20 < flows.length := by omega
      rw [decide_eq_true (show (flows.length : Int) > 20 by omega)]
      cases decide ((l.length : Int) > 19) <;> cases decide (a1 > 20) <;> cases decide (a1 ≤ 366) <;> cases decide ((flows.length : Int) > 6) <;> cases decide ((flows.length : Int) ≤ 8) <;> rfl
    · rw [decide_eq_true (show (l.length : Int) > 19 by omega), ifK_true]
end Go.Pd
end

section
namespace Go.Pd
open Go Go.Proofs Go.RowKit
set_option maxRecDepth 100000

theorem ty_ints {n : Nat} {c : List D} (h : Ty Tryz.prog (n + 3) 69 c) : ∃ l : List Int, c = [.slc false l.length (ints l)] := by
  obtain ⟨gs, rfl, _, h1⟩ := ty_slice Tryz.underlying69 h
  have key : ∀ gs : List (List D), (∀ g ∈ gs, Ty Tryz.prog (n + 2) 3 g) → ∃ l : List Int, gs.length = l.length ∧ gs.flatten = ints l := by
    intro gs
    induction gs with
    | nil => exact fun _ => ⟨[], rfl, rfl⟩
    | cons g gs ih =>
      intro h
      obtain ⟨l, e1, e2⟩ := ih fun g hg => h g (List.mem_cons_of_mem _ hg)
      obtain ⟨x, rfl, _⟩ := ty_int Tryz.underlying3 (h g (List.mem_cons_self ..))
      exact ⟨x :: l, by simp [e1], by rw [List.flatten_cons, e2]; rfl⟩
  obtain ⟨l, e1, e2⟩ := key gs h1
  exact ⟨l, by rw [e1, e2]⟩
theorem ty_two {n : Nat} {c : List D} (h : Ty Tryz.prog (n + 2) 68 c) : ∃ x y : Int, c = [.int .i64 x, .int .i64 y] := by
  unfold Ty at h
  rw [Tryz.underlying68] at h
  obtain ⟨gs, rfl, hl, h1⟩ := h
  match gs, hl with
  | [a, b], _ =>
    obtain ⟨x, rfl, _⟩ := ty_int Tryz.underlying3 (h1 a (by simp))
    obtain ⟨y, rfl, _⟩ := ty_int Tryz.underlying3 (h1 b (by simp))
    exact ⟨x, y, rfl⟩
end Go.Pd
end
