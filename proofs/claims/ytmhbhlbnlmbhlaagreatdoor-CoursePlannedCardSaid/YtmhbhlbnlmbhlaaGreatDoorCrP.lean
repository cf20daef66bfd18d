/-
  A slice that is an argument is no longer than the row's reach.
  Chapter 2: the law of days that are planned, as equations.
  Chapter 2: least days, in plain numbers: what holds of them, and when conditions are added.
  CoursePlanned: the days fulfil all conditions, and what is added to these.
  CoursePlanned: the law.
-/
import Derived.Test.YtmhbhlbnlmbhlaaGreatDoorCrK
import Derived.Test.YtmhbhlbnlmbhlaaGreatDoorCrN
import Derived.KernelRfl
import Derived.Test.YtmhbhlbnlmbhlaaGreatDoorCrO
section
namespace Go.Pd
open Go.RowKit Go.ChangeShapes Go.WideShapes

theorem len_boundS {I : Nat → Prop} {w : World} {P : Program} {H : Type} {enc : TypeId × Value → H} {base : Nat} {spare : Nat → Bool} {held : Bool} {t e : TypeId} {v : Value} {dd : DataW H} {ps : List MemPlace}
    (hu : P.underlying t = some (.slice e)) (h : DataW.Trod enc P w base spare held t v dd ps) (hw : ∀ k ∈ dd.weights P t, k ≤ reachBytes) {g : Bool} {m : Nat} {c : List D} (hr : RelC I w (.slc g m c) v) : m * P.bytesOf e ≤ reachBytes := by
  obtain ⟨fuel, hm⟩ := h
  rcases Deep.open_slice hu hm with ⟨hcs, _⟩ | ⟨a, len, cap, m', n, Dd, Pl, hcs, _, _, _, _, hxx, _⟩
  · cases hr with
    | slc _ _ _ a cap us hI hf hl hc hr => simp [Value.cells] at hcs
    | slcn =>
      rw [Nat.zero_mul]
      exact Nat.zero_le _
  · cases hr with
    | slc _ _ _ a cap us hI hf hl hc hr =>
      have hlen : m = len := by
        simp [Value.cells] at hcs
        exact hcs.2.1
      subst hlen
      have hdd := (Prod.mk.inj hxx).1
      have hmem : ((((List.range m).map Dd).length + ((List.range (m' - m)).map fun j => Dd (m + j)).length) * P.bytesOf e) ∈ dd.weights P t := by
        rw [hdd]
        simp [DataW.weights, hu]
      have := hw _ hmem
      rw [List.length_map, List.length_map, List.length_range, List.length_range] at this
      exact Nat.le_trans (Nat.mul_le_mul_right _ (Nat.le_add_right _ _)) this
    | slcn =>
      rw [Nat.zero_mul]
      exact Nat.zero_le _
theorem u8_in {y : Int} (h : (Lit.int .u8 y).wf = true) : 0 ≤ y ∧ y ≤ 255 := by
  have h : (decide (IntKind.min .u8 ≤ y) && decide (y ≤ IntKind.max .u8)) = true := h
  rw [show IntKind.min .u8 = 0 from rfl, show IntKind.max .u8 = 255 from rfl] at h
  simpa using h
end Go.Pd
end

section
namespace Go.Pd
open Go Go.Proofs
set_option maxRecDepth 100000
def N11 : NTab := fun p => match p with
  | 15 => some { keep := [0, 1, 2, 7], kl := [14, 84, 174, 180, 186, 191], ren := [(14, 14), (84, 84), (174, 174), (180, 174), (186, 186), (191, 186)], cn := true }
  | 255 => some { keep := [0, 1, 2, 8], kl := [14, 84, 174, 180, 186, 191], ren := [(14, 14), (84, 84), (174, 174), (180, 174), (186, 186), (191, 186)], cn := true }
  | 4090 => some { keep := [0, 1, 2, 8, 12, 85, 86, 87], kl := [14, 174, 180, 186, 191], ren := [(14, 14), (84, 84), (174, 174), (180, 174), (186, 186), (191, 186)], cn := true }
  | 8186 => some { keep := [0, 1, 2, 8, 12, 124, 125, 126], kl := [14, 174, 180, 186, 191], ren := [(14, 14), (84, 84), (174, 174), (180, 174), (186, 186), (191, 186)], cn := true }
  | 16383 => some { keep := [0, 1, 8, 17, 18, 19], kl := [14, 84, 174, 180, 186, 191], ren := [(14, 14), (84, 84), (174, 174), (180, 174), (186, 186), (191, 186)], cn := true }
  | _ => none
noncomputable def F11_16383 (call : FuncId → List D → Option D) (L : Nat) (C : Nat → Nat) (vjobs : Int) (vl_f : Bool) (vl_n : Nat) (vl_c : List D) (vd_f : Bool) (vd_n : Nat) (vd_c : List D) (va : Int) (vb : Int) (vleast : Int) : Option D :=
  cutAt (TEf call L C) O0 N11 FinM.canon Tryz.f11 [true, true, true, true, true, true, true, true, true, true, true, true, true] []  (C 16383) (St.mk [D.int IntKind.i64 vjobs, D.slc vl_f vl_n vl_c, J, J, J, J, J, J, D.slc vd_f vd_n vd_c, J, J, J, J, J, J, J, J, D.int IntKind.i64 va, D.int IntKind.i64 vb, D.int IntKind.i64 vleast, J, J, J, J, J, J, J, J, J, J, J, J, J, J, J, J, J, J, J, J, J, J, J, J, J, J, J, J, J, J, J, J, J, J, J, J, J, J, J, J, J, J, J, J, J, J, J, J, J, J, J, J, J, J, J, J, J, J, J, J, J, J, J, J, J, J, J, J, J, J, J, J, J, J, J, J, J, J, J, J, J, J, J, J, J, J, J, J, J, J, J, J, J, J, J, J, J, J, J, J, J, J, J, J, J, J, J, J, J, J, J, J, J, J, J, J, J, J, J, J, J, J, J, J, J, J, J, J, J, J, J, J, J, J, J, J, J, J, J, J, J, J, J, J, J, J, J, J, J, J, J, J, J, J, J, J, J, J, J, J, J, J, J, J, J, J, J, J, J, J, J, J, J, J, J, J, J, J, J, J, J, J, J, J, J, J, J, J, J, J, J, J, J, J, J, J, J, J, J, J, J, J, J, J, J, J, J, J, J] [Z, Z, Z, Z, Z, Z, Z, Z, Z, Z, Z, Z, Z, Z, Z, Z, Z, Z, Z, Z, Z, Z, Z, Z, Z, Z, Z, Z, Z, Z, Z, Z, Z, Z, Z, Z, Z, Z, Z, Z, Z, Z, Z, Z, Z, Z, Z, Z, Z, Z, Z, Z, Z, Z, Z, Z, Z, Z, Z, Z, Z, Z, Z, Z, Z, Z, Z, Z, Z, Z, Z, Z, Z, Z, Z, Z, Z, Z, Z, Z, Z, Z, Z, Z, Z, Z, Z, Z, Z, Z, Z, Z, Z, Z, Z, Z, Z, Z, Z, Z, Z, Z, Z, Z, Z, Z, Z, Z, Z, Z, Z, Z, Z, Z, Z, Z, Z, Z, Z, Z, Z, Z, Z, Z, Z, Z, Z, Z, Z, Z, Z, Z, Z, Z, Z, Z, Z, Z, Z, Z, Z, Z, Z, Z, Z, Z, Z, Z, Z, Z, Z, Z, Z, Z, Z, Z, Z, Z, Z, Z, Z, Z, Z, Z, Z, Z, Z, Z, Z, Z, Z, Z, Z, Z, Z, Z, Z, Z, Z, Z, Z, Z, Z, Z, Z, Z, Z, Z, Z, Z, Z, Z, Z, Z, Z, Z, Z, Z, Z, Z, Z, Z, Z, Z, Z, Z, Z, Z, Z, Z, Z, Z, Z, Z, Z, Z, Z, Z, Z, Z, Z, Z, Z, Z, Z, Z, Z, Z, Z])
noncomputable def F11_8186 (call : FuncId → List D → Option D) (L : Nat) (C : Nat → Nat) (n_6 : Nat) (vjobs : Int) (vl_f : Bool) (vl_n : Nat) (vl_c : List D) (vmore : Int) (vd_f : Bool) (vd_n : Nat) (vd_c : List D) (vtight_n : Nat) (t84_c : List D) (t125 : Int) (t126 : Int) : Option D :=
  loopAt (TEf call L C) O0 N11 FinM.canon Tryz.f11 [true, true, true, true, true, true, true, true, true, false, true, false] []  n_6 (St.mk [D.int IntKind.i64 vjobs, D.slc vl_f vl_n vl_c, D.int IntKind.u8 vmore, J, J, J, J, J, D.slc vd_f vd_n vd_c, J, J, J, D.own 84 0 vtight_n, J, J, J, J, J, J, J, J, J, J, J, J, J, J, J, J, J, J, J, J, J, J, J, J, J, J, J, J, J, J, J, J, J, J, J, J, J, J, J, J, J, J, J, J, J, J, J, J, J, J, J, J, J, J, J, J, J, J, J, J, J, J, J, J, J, J, J, J, J, J, J, J, J, J, J, J, J, J, J, J, J, J, J, J, J, J, J, J, J, J, J, J, J, J, J, J, J, J, J, J, J, J, J, J, J, J, J, J, J, J, J, D.slc vd_f vd_n vd_c, D.int IntKind.i64 t125, D.int IntKind.i64 t126, J, J, J, J, J, J, J, J, J, J, J, J, J, J, J, J, J, J, J, J, J, J, J, J, J, J, J, J, J, J, J, J, J, J, J, J, J, J, J, J, J, J, J, J, J, J, J, J, J, J, J, J, J, J, J, J, J, J, J, J, J, J, J, J, J, J, J, J, J, J, J, J, J, J, J, J, J, J, J, J, J, J, J, J, J, J, J, J, J, J, J, J, J, J, J, J, J, J, J, J, J, J] [Z, Z, Z, Z, Z, Z, Z, Z, Z, Z, Z, Z, Z, Z, Z, Z, Z, Z, Z, Z, Z, Z, Z, Z, Z, Z, Z, Z, Z, Z, Z, Z, Z, Z, Z, Z, Z, Z, Z, Z, Z, Z, Z, Z, Z, Z, Z, Z, Z, Z, Z, Z, Z, Z, Z, Z, Z, Z, Z, Z, Z, Z, Z, Z, Z, Z, Z, Z, Z, Z, Z, Z, Z, Z, Z, Z, Z, Z, Z, Z, Z, Z, Z, Z, (1, some (Ob.arr 4 1 t84_c false)), Z, Z, Z, Z, Z, Z, Z, Z, Z, Z, Z, Z, Z, Z, Z, Z, Z, Z, Z, Z, Z, Z, Z, Z, Z, Z, Z, Z, Z, Z, Z, Z, Z, Z, Z, Z, Z, Z, Z, Z, Z, Z, Z, Z, Z, Z, Z, Z, Z, Z, Z, Z, Z, Z, Z, Z, Z, Z, Z, Z, Z, Z, Z, Z, Z, Z, Z, Z, Z, Z, Z, Z, Z, Z, Z, Z, Z, Z, Z, Z, Z, Z, Z, Z, Z, Z, Z, Z, Z, Z, Z, Z, Z, Z, Z, Z, Z, Z, Z, Z, Z, Z, Z, Z, Z, Z, Z, Z, Z, Z, Z, Z, Z, Z, Z, Z, Z, Z, Z, Z, Z, Z, Z, Z, Z, Z, Z, Z, Z, Z, Z, Z, Z, Z, Z, Z, Z, Z, Z, Z, Z, Z, Z, Z])
noncomputable def F11_4090 (call : FuncId → List D → Option D) (L : Nat) (C : Nat → Nat) (n_5 : Nat) (vjobs : Int) (vl_f : Bool) (vl_n : Nat) (vl_c : List D) (vmore : Int) (vd_f : Bool) (vd_n : Nat) (vd_c : List D) (vtight_n : Nat) (t86 : Int) (t87 : Int) (t84_c : List D) : Option D :=
  loopAt (TEf call L C) O0 N11 FinM.canon Tryz.f11 [true, true, true, true, true, true, true, true, false, true, false] []  n_5 (St.mk [D.int IntKind.i64 vjobs, D.slc vl_f vl_n vl_c, D.int IntKind.u8 vmore, J, J, J, J, J, D.slc vd_f vd_n vd_c, J, J, J, D.own 84 0 vtight_n, J, J, J, J, J, J, J, J, J, J, J, J, J, J, J, J, J, J, J, J, J, J, J, J, J, J, J, J, J, J, J, J, J, J, J, J, J, J, J, J, J, J, J, J, J, J, J, J, J, J, J, J, J, J, J, J, J, J, J, J, J, J, J, J, J, J, J, J, J, J, J, J, D.slc vl_f vl_n vl_c, D.int IntKind.i64 t86, D.int IntKind.i64 t87, J, J, J, J, J, J, J, J, J, J, J, J, J, J, J, J, J, J, J, J, J, J, J, J, J, J, J, J, J, J, J, J, J, J, J, J, J, J, J, J, J, J, J, J, J, J, J, J, J, J, J, J, J, J, J, J, J, J, J, J, J, J, J, J, J, J, J, J, J, J, J, J, J, J, J, J, J, J, J, J, J, J, J, J, J, J, J, J, J, J, J, J, J, J, J, J, J, J, J, J, J, J, J, J, J, J, J, J, J, J, J, J, J, J, J, J, J, J, J, J, J, J, J, J, J, J, J, J, J, J, J, J, J, J, J, J, J, J, J, J, J] [Z, Z, Z, Z, Z, Z, Z, Z, Z, Z, Z, Z, Z, Z, Z, Z, Z, Z, Z, Z, Z, Z, Z, Z, Z, Z, Z, Z, Z, Z, Z, Z, Z, Z, Z, Z, Z, Z, Z, Z, Z, Z, Z, Z, Z, Z, Z, Z, Z, Z, Z, Z, Z, Z, Z, Z, Z, Z, Z, Z, Z, Z, Z, Z, Z, Z, Z, Z, Z, Z, Z, Z, Z, Z, Z, Z, Z, Z, Z, Z, Z, Z, Z, Z, (1, some (Ob.arr 4 1 t84_c false)), Z, Z, Z, Z, Z, Z, Z, Z, Z, Z, Z, Z, Z, Z, Z, Z, Z, Z, Z, Z, Z, Z, Z, Z, Z, Z, Z, Z, Z, Z, Z, Z, Z, Z, Z, Z, Z, Z, Z, Z, Z, Z, Z, Z, Z, Z, Z, Z, Z, Z, Z, Z, Z, Z, Z, Z, Z, Z, Z, Z, Z, Z, Z, Z, Z, Z, Z, Z, Z, Z, Z, Z, Z, Z, Z, Z, Z, Z, Z, Z, Z, Z, Z, Z, Z, Z, Z, Z, Z, Z, Z, Z, Z, Z, Z, Z, Z, Z, Z, Z, Z, Z, Z, Z, Z, Z, Z, Z, Z, Z, Z, Z, Z, Z, Z, Z, Z, Z, Z, Z, Z, Z, Z, Z, Z, Z, Z, Z, Z, Z, Z, Z, Z, Z, Z, Z, Z, Z, Z, Z, Z, Z, Z, Z])
noncomputable def F11_255 (call : FuncId → List D → Option D) (L : Nat) (C : Nat → Nat) (vjobs : Int) (vl_f : Bool) (vl_n : Nat) (vl_c : List D) (vmore : Int) (vd_f : Bool) (vd_n : Nat) (vd_c : List D) : Option D :=
  cutAt (TEf call L C) O0 N11 FinM.canon Tryz.f11 [true, true, true, true, true, true, true] []  (C 255) (St.mk [D.int IntKind.i64 vjobs, D.slc vl_f vl_n vl_c, D.int IntKind.u8 vmore, J, J, J, J, J, D.slc vd_f vd_n vd_c, J, J, J, J, J, J, J, J, J, J, J, J, J, J, J, J, J, J, J, J, J, J, J, J, J, J, J, J, J, J, J, J, J, J, J, J, J, J, J, J, J, J, J, J, J, J, J, J, J, J, J, J, J, J, J, J, J, J, J, J, J, J, J, J, J, J, J, J, J, J, J, J, J, J, J, J, J, J, J, J, J, J, J, J, J, J, J, J, J, J, J, J, J, J, J, J, J, J, J, J, J, J, J, J, J, J, J, J, J, J, J, J, J, J, J, J, J, J, J, J, J, J, J, J, J, J, J, J, J, J, J, J, J, J, J, J, J, J, J, J, J, J, J, J, J, J, J, J, J, J, J, J, J, J, J, J, J, J, J, J, J, J, J, J, J, J, J, J, J, J, J, J, J, J, J, J, J, J, J, J, J, J, J, J, J, J, J, J, J, J, J, J, J, J, J, J, J, J, J, J, J, J, J, J, J, J, J, J, J, J, J, J, J, J, J, J, J, J, J, J] [Z, Z, Z, Z, Z, Z, Z, Z, Z, Z, Z, Z, Z, Z, Z, Z, Z, Z, Z, Z, Z, Z, Z, Z, Z, Z, Z, Z, Z, Z, Z, Z, Z, Z, Z, Z, Z, Z, Z, Z, Z, Z, Z, Z, Z, Z, Z, Z, Z, Z, Z, Z, Z, Z, Z, Z, Z, Z, Z, Z, Z, Z, Z, Z, Z, Z, Z, Z, Z, Z, Z, Z, Z, Z, Z, Z, Z, Z, Z, Z, Z, Z, Z, Z, Z, Z, Z, Z, Z, Z, Z, Z, Z, Z, Z, Z, Z, Z, Z, Z, Z, Z, Z, Z, Z, Z, Z, Z, Z, Z, Z, Z, Z, Z, Z, Z, Z, Z, Z, Z, Z, Z, Z, Z, Z, Z, Z, Z, Z, Z, Z, Z, Z, Z, Z, Z, Z, Z, Z, Z, Z, Z, Z, Z, Z, Z, Z, Z, Z, Z, Z, Z, Z, Z, Z, Z, Z, Z, Z, Z, Z, Z, Z, Z, Z, Z, Z, Z, Z, Z, Z, Z, Z, Z, Z, Z, Z, Z, Z, Z, Z, Z, Z, Z, Z, Z, Z, Z, Z, Z, Z, Z, Z, Z, Z, Z, Z, Z, Z, Z, Z, Z, Z, Z, Z, Z, Z, Z, Z, Z, Z, Z, Z, Z, Z, Z, Z, Z, Z, Z, Z, Z, Z, Z, Z, Z, Z, Z, Z])
noncomputable def F11_15 (call : FuncId → List D → Option D) (L : Nat) (C : Nat → Nat) (vjobs : Int) (vl_f : Bool) (vl_n : Nat) (vl_c : List D) (vmore : Int) (vx_f : Bool) (vx_n : Nat) (vx_c : List D) : Option D :=
  cutAt (TEf call L C) O0 N11 FinM.canon Tryz.f11 [true, true, true] []  (C 15) (St.mk [D.int IntKind.i64 vjobs, D.slc vl_f vl_n vl_c, D.int IntKind.u8 vmore, J, J, J, J, D.slc vx_f vx_n vx_c, J, J, J, J, J, J, J, J, J, J, J, J, J, J, J, J, J, J, J, J, J, J, J, J, J, J, J, J, J, J, J, J, J, J, J, J, J, J, J, J, J, J, J, J, J, J, J, J, J, J, J, J, J, J, J, J, J, J, J, J, J, J, J, J, J, J, J, J, J, J, J, J, J, J, J, J, J, J, J, J, J, J, J, J, J, J, J, J, J, J, J, J, J, J, J, J, J, J, J, J, J, J, J, J, J, J, J, J, J, J, J, J, J, J, J, J, J, J, J, J, J, J, J, J, J, J, J, J, J, J, J, J, J, J, J, J, J, J, J, J, J, J, J, J, J, J, J, J, J, J, J, J, J, J, J, J, J, J, J, J, J, J, J, J, J, J, J, J, J, J, J, J, J, J, J, J, J, J, J, J, J, J, J, J, J, J, J, J, J, J, J, J, J, J, J, J, J, J, J, J, J, J, J, J, J, J, J, J, J, J, J, J, J, J, J, J, J, J, J, J, J] [Z, Z, Z, Z, Z, Z, Z, Z, Z, Z, Z, Z, Z, Z, Z, Z, Z, Z, Z, Z, Z, Z, Z, Z, Z, Z, Z, Z, Z, Z, Z, Z, Z, Z, Z, Z, Z, Z, Z, Z, Z, Z, Z, Z, Z, Z, Z, Z, Z, Z, Z, Z, Z, Z, Z, Z, Z, Z, Z, Z, Z, Z, Z, Z, Z, Z, Z, Z, Z, Z, Z, Z, Z, Z, Z, Z, Z, Z, Z, Z, Z, Z, Z, Z, Z, Z, Z, Z, Z, Z, Z, Z, Z, Z, Z, Z, Z, Z, Z, Z, Z, Z, Z, Z, Z, Z, Z, Z, Z, Z, Z, Z, Z, Z, Z, Z, Z, Z, Z, Z, Z, Z, Z, Z, Z, Z, Z, Z, Z, Z, Z, Z, Z, Z, Z, Z, Z, Z, Z, Z, Z, Z, Z, Z, Z, Z, Z, Z, Z, Z, Z, Z, Z, Z, Z, Z, Z, Z, Z, Z, Z, Z, Z, Z, Z, Z, Z, Z, Z, Z, Z, Z, Z, Z, Z, Z, Z, Z, Z, Z, Z, Z, Z, Z, Z, Z, Z, Z, Z, Z, Z, Z, Z, Z, Z, Z, Z, Z, Z, Z, Z, Z, Z, Z, Z, Z, Z, Z, Z, Z, Z, Z, Z, Z, Z, Z, Z, Z, Z, Z, Z, Z, Z, Z, Z, Z, Z, Z, Z])
theorem F11_16383_eq (call : FuncId → List D → Option D) (L : Nat) (C : Nat → Nat) (vjobs : Int) (vl_f : Bool) (vl_n : Nat) (vl_c : List D) (vd_f : Bool) (vd_n : Nat) (vd_c : List D) (va : Int) (vb : Int) (vleast : Int) (hC : ∀ t, C t = 1) : F11_16383 call L C  vjobs vl_f vl_n vl_c vd_f vd_n vd_c (va) (vb) (vleast) =
  (chkK (decide (List.length vl_c = vl_n * 3))
    (chkK (List.all vl_c D.one)
      (ifK (decide (vl_n = 0))
        (optK (call 58 [D.int IntKind.i64 vjobs, D.slc false 1 [D.int IntKind.i64 va, D.int IntKind.i64 vb, D.int IntKind.i64 vleast]]) fun r_11 =>
          (tupK (r_11) 2 fun c_5 =>
          (cellK (c_5) (0) fun d_15 =>
          (slcK (d_15) fun f_3 n_8 c_6 =>
          (cellK (c_5) (1) fun d_16 =>
          (intK IntKind.i64 (d_16) fun x_15 =>
          (chkK (decide (List.length vl_c = vl_n * 3))
            (chkK (List.all vl_c D.one)
              (ifK (decide (vl_n = 0))
                (optK (call 58 [D.int IntKind.i64 vjobs, D.slc false 1 [D.int IntKind.i64 va, D.int IntKind.i64 va, D.int IntKind.i64 1]]) fun r_12 =>
                  (tupK (r_12) 2 fun c_7 =>
                  (cellK (c_7) (0) fun d_17 =>
                  (slcK (d_17) fun _f_4 _n_9 _c_8 =>
                  (cellK (c_7) (1) fun d_18 =>
                  (intK IntKind.i64 (d_18) fun x_16 =>
                  (optK (call 59 [D.int IntKind.i64 vjobs, D.slc false 1 [D.int IntKind.i64 va, D.int IntKind.i64 va, D.int IntKind.i64 1]]) fun r_13 =>
                    (tupK (r_13) 2 fun c_9 =>
                    (cellK (c_9) (0) fun d_19 =>
                    (slcK (d_19) fun f_5 n_10 c_10 =>
                    (cellK (c_9) (1) fun d_20 =>
                    (intK IntKind.i64 (d_20) fun x_17 =>
                    (ifK (x_15 == 0)
                      (optK (call 42 [D.slc f_3 n_8 c_6, D.slc vd_f vd_n vd_c]) fun r_14 =>
                        (boolK (r_14) fun b_6 =>
                        (ifK (b_6)
                          (ifK (x_16 == 23)
                            (ifK (x_17 == 0)
                              (optK (call 56 [D.slc false 1 [D.int IntKind.i64 va, D.int IntKind.i64 va, D.int IntKind.i64 1]]) fun r_15 =>
                                (slcK (r_15) fun f_6 n_11 c_11 =>
                                (optK (call 61 [D.slc f_6 n_11 c_11, D.slc f_5 n_10 c_10]) fun r_16 =>
                                  (intK IntKind.i64 (r_16) fun x_18 =>
                                  (ifK (x_18 == 0)
                                    (optK (call 17 []) fun r_17 =>
                                      (boolK (r_17) fun b_7 =>
                                      (some (D.bool b_7))))
                                    (some (D.bool false)))))))
                              (some (D.bool false)))
                            (some (D.bool false)))
                          (some (D.bool false)))))
                      (some (D.bool false)))))))))))))))
                (chkK (decide (0 < vl_n ∧ 0 = 0 ∧ (0 + vl_n) * 24 ≤ limit ∧ 0 + vl_n ≤ 4611686018427387903))
                  (chkK (decide ((0 + vl_n + 1) * 24 ≤ limit ∧ 0 + vl_n + 1 ≤ 9223372036854775807))
                    (optK (call 58 [D.int IntKind.i64 vjobs, D.slc false (0 + vl_n + 1) (vl_c ++ [D.int IntKind.i64 va, D.int IntKind.i64 va, D.int IntKind.i64 1])]) fun r_18 =>
                      (tupK (r_18) 2 fun c_12 =>
                      (cellK (c_12) (0) fun d_21 =>
                      (slcK (d_21) fun _f_7 _n_12 _c_13 =>
                      (cellK (c_12) (1) fun d_22 =>
                      (intK IntKind.i64 (d_22) fun x_19 =>
                      (optK (call 59 [D.int IntKind.i64 vjobs, D.slc false (0 + vl_n + 1) (vl_c ++ [D.int IntKind.i64 va, D.int IntKind.i64 va, D.int IntKind.i64 1])]) fun r_19 =>
                        (tupK (r_19) 2 fun c_14 =>
                        (cellK (c_14) (0) fun d_23 =>
                        (slcK (d_23) fun f_8 n_13 c_15 =>
                        (cellK (c_14) (1) fun d_24 =>
                        (intK IntKind.i64 (d_24) fun x_20 =>
                        (ifK (x_15 == 0)
                          (optK (call 42 [D.slc f_3 n_8 c_6, D.slc vd_f vd_n vd_c]) fun r_20 =>
                            (boolK (r_20) fun b_8 =>
                            (ifK (b_8)
                              (ifK (x_19 == 23)
                                (ifK (x_20 == 0)
                                  (optK (call 56 [D.slc false (0 + vl_n + 1) (vl_c ++ [D.int IntKind.i64 va, D.int IntKind.i64 va, D.int IntKind.i64 1])]) fun r_21 =>
                                    (slcK (r_21) fun f_9 n_14 c_16 =>
                                    (optK (call 61 [D.slc f_9 n_14 c_16, D.slc f_8 n_13 c_15]) fun r_22 =>
                                      (intK IntKind.i64 (r_22) fun x_21 =>
                                      (ifK (x_21 == 0)
                                        (optK (call 17 []) fun r_23 =>
                                          (boolK (r_23) fun b_9 =>
                                          (some (D.bool b_9))))
                                        (some (D.bool false)))))))
                                  (some (D.bool false)))
                                (some (D.bool false)))
                              (some (D.bool false)))))
                          (some (D.bool false))))))))))))))))))))))))))
        (chkK (decide (0 < vl_n ∧ 0 = 0 ∧ (0 + vl_n) * 24 ≤ limit ∧ 0 + vl_n ≤ 4611686018427387903))
          (chkK (decide ((0 + vl_n + 1) * 24 ≤ limit ∧ 0 + vl_n + 1 ≤ 9223372036854775807))
            (optK (call 58 [D.int IntKind.i64 vjobs, D.slc false (0 + vl_n + 1) (vl_c ++ [D.int IntKind.i64 va, D.int IntKind.i64 vb, D.int IntKind.i64 vleast])]) fun r_24 =>
              (tupK (r_24) 2 fun c_17 =>
              (cellK (c_17) (0) fun d_25 =>
              (slcK (d_25) fun f_10 n_15 c_18 =>
              (cellK (c_17) (1) fun d_26 =>
              (intK IntKind.i64 (d_26) fun x_22 =>
              (chkK (decide (List.length vl_c = vl_n * 3))
                (chkK (List.all vl_c D.one)
                  (ifK (decide (vl_n = 0))
                    (optK (call 58 [D.int IntKind.i64 vjobs, D.slc false 1 [D.int IntKind.i64 va, D.int IntKind.i64 va, D.int IntKind.i64 1]]) fun r_25 =>
                      (tupK (r_25) 2 fun c_19 =>
                      (cellK (c_19) (0) fun d_27 =>
                      (slcK (d_27) fun _f_11 _n_16 _c_20 =>
                      (cellK (c_19) (1) fun d_28 =>
                      (intK IntKind.i64 (d_28) fun x_23 =>
                      (optK (call 59 [D.int IntKind.i64 vjobs, D.slc false 1 [D.int IntKind.i64 va, D.int IntKind.i64 va, D.int IntKind.i64 1]]) fun r_26 =>
                        (tupK (r_26) 2 fun c_21 =>
                        (cellK (c_21) (0) fun d_29 =>
                        (slcK (d_29) fun f_12 n_17 c_22 =>
                        (cellK (c_21) (1) fun d_30 =>
                        (intK IntKind.i64 (d_30) fun x_24 =>
                        (ifK (x_22 == 0)
                          (optK (call 42 [D.slc f_10 n_15 c_18, D.slc vd_f vd_n vd_c]) fun r_27 =>
                            (boolK (r_27) fun b_10 =>
                            (ifK (b_10)
                              (ifK (x_23 == 23)
                                (ifK (x_24 == 0)
                                  (optK (call 56 [D.slc false 1 [D.int IntKind.i64 va, D.int IntKind.i64 va, D.int IntKind.i64 1]]) fun r_28 =>
                                    (slcK (r_28) fun f_13 n_18 c_23 =>
                                    (optK (call 61 [D.slc f_13 n_18 c_23, D.slc f_12 n_17 c_22]) fun r_29 =>
                                      (intK IntKind.i64 (r_29) fun x_25 =>
                                      (ifK (x_25 == 0)
                                        (optK (call 17 []) fun r_30 =>
                                          (boolK (r_30) fun b_11 =>
                                          (some (D.bool b_11))))
                                        (some (D.bool false)))))))
                                  (some (D.bool false)))
                                (some (D.bool false)))
                              (some (D.bool false)))))
                          (some (D.bool false)))))))))))))))
                    (chkK (decide (0 < vl_n ∧ 0 = 0 ∧ (0 + vl_n) * 24 ≤ limit ∧ 0 + vl_n ≤ 4611686018427387903))
                      (chkK (decide ((0 + vl_n + 1) * 24 ≤ limit ∧ 0 + vl_n + 1 ≤ 9223372036854775807))
                        (optK (call 58 [D.int IntKind.i64 vjobs, D.slc false (0 + vl_n + 1) (vl_c ++ [D.int IntKind.i64 va, D.int IntKind.i64 va, D.int IntKind.i64 1])]) fun r_31 =>
                          (tupK (r_31) 2 fun c_24 =>
                          (cellK (c_24) (0) fun d_31 =>
                          (slcK (d_31) fun _f_14 _n_19 _c_25 =>
                          (cellK (c_24) (1) fun d_32 =>
                          (intK IntKind.i64 (d_32) fun x_26 =>
                          (optK (call 59 [D.int IntKind.i64 vjobs, D.slc false (0 + vl_n + 1) (vl_c ++ [D.int IntKind.i64 va, D.int IntKind.i64 va, D.int IntKind.i64 1])]) fun r_32 =>
                            (tupK (r_32) 2 fun c_26 =>
                            (cellK (c_26) (0) fun d_33 =>
                            (slcK (d_33) fun f_15 n_20 c_27 =>
                            (cellK (c_26) (1) fun d_34 =>
                            (intK IntKind.i64 (d_34) fun x_27 =>
                            (ifK (x_22 == 0)
                              (optK (call 42 [D.slc f_10 n_15 c_18, D.slc vd_f vd_n vd_c]) fun r_33 =>
                                (boolK (r_33) fun b_12 =>
                                (ifK (b_12)
                                  (ifK (x_26 == 23)
                                    (ifK (x_27 == 0)
                                      (optK (call 56 [D.slc false (0 + vl_n + 1) (vl_c ++ [D.int IntKind.i64 va, D.int IntKind.i64 va, D.int IntKind.i64 1])]) fun r_34 =>
                                        (slcK (r_34) fun f_16 n_21 c_28 =>
                                        (optK (call 61 [D.slc f_16 n_21 c_28, D.slc f_15 n_20 c_27]) fun r_35 =>
                                          (intK IntKind.i64 (r_35) fun x_28 =>
                                          (ifK (x_28 == 0)
                                            (optK (call 17 []) fun r_36 =>
                                              (boolK (r_36) fun b_13 =>
                                              (some (D.bool b_13))))
                                            (some (D.bool false)))))))
                                      (some (D.bool false)))
                                    (some (D.bool false)))
                                  (some (D.bool false)))))
                              (some (D.bool false))))))))))))))))))))))))))))))) := by
  unfold F11_16383
  rw [hC]
  kernel_rfl
theorem F11_8186_eq (call : FuncId → List D → Option D) (L : Nat) (C : Nat → Nat) (n_6 : Nat) (vjobs : Int) (vl_f : Bool) (vl_n : Nat) (vl_c : List D) (vmore : Int) (vd_f : Bool) (vd_n : Nat) (vd_c : List D) (vtight_n : Nat) (t84_c : List D) (t125 : Int) (t126 : Int) : F11_8186 call L C  (n_6 + 1) vjobs vl_f vl_n vl_c vmore vd_f vd_n vd_c vtight_n t84_c (t125) (t126) =
  (ifK (decide (t126 < t125))
    (chkK (decide (0 ≤ t126 ∧ t126 < (vd_n : Int)))
      (cellK (vd_c) (Int.toNat t126 * 1) fun d_11 =>
      (intK IntKind.i64 (d_11) fun x_12 =>
      (ifK (decide (x_12 < 0))
        (some (D.bool false))
        (ifK (decide (x_12 > 0))
          (chkK (decide (0 ≤ t126 ∧ t126 < (vtight_n : Int)))
            (cellK (t84_c) (Int.toNat t126 * 1) fun d_12 =>
            (boolK (d_12) fun b_3 =>
            (ifK (!b_3)
              (some (D.bool false))
              (F11_8186 call L C n_6 vjobs vl_f vl_n vl_c vmore vd_f vd_n vd_c vtight_n t84_c (t125) (IntKind.wrap IntKind.i64 (t126 + 1)))))))
          (F11_8186 call L C n_6 vjobs vl_f vl_n vl_c vmore vd_f vd_n vd_c vtight_n t84_c (t125) (IntKind.wrap IntKind.i64 (t126 + 1))))))))
    (chkK (!decide (vjobs = 0))
      (chkK (!decide (vjobs = 0))
        (chkK (decide (0 ≤ Int.tmod (IntKind.wrap IntKind.i64 (Int.tdiv (IntKind.wrap IntKind.i64 vmore) 7)) vjobs ∧ Int.tmod (IntKind.wrap IntKind.i64 (Int.tdiv (IntKind.wrap IntKind.i64 vmore) 7)) vjobs < (vd_n : Int)))
          (cellK (vd_c) (Int.toNat (Int.tmod (IntKind.wrap IntKind.i64 (Int.tdiv (IntKind.wrap IntKind.i64 vmore) 7)) vjobs) * 1) fun d_13 =>
          (intK IntKind.i64 (d_13) fun x_13 =>
          (chkK (decide (0 ≤ Int.tmod (IntKind.wrap IntKind.i64 vmore) vjobs ∧ Int.tmod (IntKind.wrap IntKind.i64 vmore) vjobs < (vd_n : Int)))
            (cellK (vd_c) (Int.toNat (Int.tmod (IntKind.wrap IntKind.i64 vmore) vjobs) * 1) fun d_14 =>
            (intK IntKind.i64 (d_14) fun x_14 =>
            (ifK (decide (IntKind.wrap IntKind.i64 (x_13 - x_14) < -10000))
              (optK (call 17 []) fun r_9 =>
                (boolK (r_9) fun b_4 =>
                (some (D.bool b_4))))
              (ifK (decide (IntKind.wrap IntKind.i64 (x_13 - x_14) > 10000))
                (optK (call 17 []) fun r_10 =>
                  (boolK (r_10) fun b_5 =>
                  (some (D.bool b_5))))
                (F11_16383 call L C vjobs vl_f vl_n vl_c vd_f vd_n vd_c (Int.tmod (IntKind.wrap IntKind.i64 vmore) vjobs) (Int.tmod (IntKind.wrap IntKind.i64 (Int.tdiv (IntKind.wrap IntKind.i64 vmore) 7)) vjobs) (IntKind.wrap IntKind.i64 (x_13 - x_14)))))))))))))) := by kernel_rfl
theorem F11_4090_eq (call : FuncId → List D → Option D) (L : Nat) (C : Nat → Nat) (n_5 : Nat) (vjobs : Int) (vl_f : Bool) (vl_n : Nat) (vl_c : List D) (vmore : Int) (vd_f : Bool) (vd_n : Nat) (vd_c : List D) (vtight_n : Nat) (t86 : Int) (t87 : Int) (t84_c : List D) : F11_4090 call L C  (n_5 + 1) vjobs vl_f vl_n vl_c vmore vd_f vd_n vd_c (vtight_n) (t86) (t87) (t84_c) =
  (ifK (decide (t87 < t86))
    (chkK (decide (0 ≤ t87 ∧ t87 < (vl_n : Int)))
      (cellK (vl_c) (Int.toNat t87 * 3 + 0) fun d_4 =>
      (intK IntKind.i64 (d_4) fun x_5 =>
      (cellK (vl_c) (Int.toNat t87 * 3 + 1) fun d_5 =>
      (intK IntKind.i64 (d_5) fun x_6 =>
      (cellK (vl_c) (Int.toNat t87 * 3 + 2) fun d_6 =>
      (intK IntKind.i64 (d_6) fun x_7 =>
      (chkK (decide (0 ≤ x_6 ∧ x_6 < (vd_n : Int)))
        (cellK (vd_c) (Int.toNat x_6 * 1) fun d_7 =>
        (intK IntKind.i64 (d_7) fun x_8 =>
        (chkK (decide (0 ≤ x_5 ∧ x_5 < (vd_n : Int)))
          (cellK (vd_c) (Int.toNat x_5 * 1) fun d_8 =>
          (intK IntKind.i64 (d_8) fun x_9 =>
          (ifK (decide (x_8 < IntKind.wrap IntKind.i64 (x_9 + x_7)))
            (some (D.bool false))
            (chkK (decide (0 ≤ x_6 ∧ x_6 < (vd_n : Int)))
              (cellK (vd_c) (Int.toNat x_6 * 1) fun d_9 =>
              (intK IntKind.i64 (d_9) fun x_10 =>
              (chkK (decide (0 ≤ x_5 ∧ x_5 < (vd_n : Int)))
                (cellK (vd_c) (Int.toNat x_5 * 1) fun d_10 =>
                (intK IntKind.i64 (d_10) fun x_11 =>
                (ifK (x_10 == IntKind.wrap IntKind.i64 (x_11 + x_7))
                  (chkK (decide (0 ≤ x_6 ∧ x_6 < (vtight_n : Int)))
                    (chkK (decide (Int.toNat x_6 * 1 + 1 ≤ List.length t84_c))
                      (F11_4090 call L C n_5 vjobs vl_f vl_n vl_c vmore vd_f vd_n vd_c (vtight_n) (t86) (IntKind.wrap IntKind.i64 (t87 + 1)) (writeAt t84_c (Int.toNat x_6 * 1) [D.bool true]))))
                  (F11_4090 call L C n_5 vjobs vl_f vl_n vl_c vmore vd_f vd_n vd_c (vtight_n) (t86) (IntKind.wrap IntKind.i64 (t87 + 1)) (t84_c)))))))))))))))))))))))
    (F11_8186 call L C L vjobs vl_f vl_n vl_c vmore vd_f vd_n vd_c vtight_n t84_c ((vd_n : Int)) (0))) := by kernel_rfl
theorem F11_255_eq (call : FuncId → List D → Option D) (L : Nat) (C : Nat → Nat) (vjobs : Int) (vl_f : Bool) (vl_n : Nat) (vl_c : List D) (vmore : Int) (vd_f : Bool) (vd_n : Nat) (vd_c : List D) (hC : ∀ t, C t = 1) : F11_255 call L C  vjobs vl_f vl_n vl_c vmore (vd_f) (vd_n) (vd_c) =
  (chkK (decide (0 ≤ vjobs ∧ vjobs ≤ vjobs ∧ vjobs * (1 : Int) ≤ 140737488355328 ∧ vjobs ≤ 9223372036854775807))
    (F11_4090 call L C L vjobs vl_f vl_n vl_c vmore vd_f vd_n vd_c (Int.toNat vjobs) ((vl_n : Int)) (0) (repD (Int.toNat vjobs) [D.bool false]))) := by
  unfold F11_255
  rw [hC]
  kernel_rfl
theorem F11_15_eq (call : FuncId → List D → Option D) (L : Nat) (C : Nat → Nat) (vjobs : Int) (vl_f : Bool) (vl_n : Nat) (vl_c : List D) (vmore : Int) (vx_f : Bool) (vx_n : Nat) (vx_c : List D) (hC : ∀ t, C t = 1) : F11_15 call L C  vjobs vl_f vl_n vl_c vmore (vx_f) (vx_n) (vx_c) =
  (optK (call 58 [D.int IntKind.i64 vjobs, D.slc vl_f vl_n vl_c]) fun r_4 =>
    (tupK (r_4) 2 fun c_1 =>
    (cellK (c_1) (0) fun d =>
    (slcK (d) fun f_1 n_2 c_2 =>
    (cellK (c_1) (1) fun d_1 =>
    (intK IntKind.i64 (d_1) fun x_1 =>
    (optK (call 59 [D.int IntKind.i64 vjobs, D.slc vl_f vl_n vl_c]) fun r_5 =>
      (tupK (r_5) 2 fun c_3 =>
      (cellK (c_3) (0) fun d_2 =>
      (slcK (d_2) fun f_2 n_3 c_4 =>
      (cellK (c_3) (1) fun d_3 =>
      (intK IntKind.i64 (d_3) fun x_2 =>
      (ifK (x_1 != 0)
        (ifK (x_1 == 23)
          (ifK (x_2 == 0)
            (optK (call 61 [D.slc vx_f vx_n vx_c, D.slc f_2 n_3 c_4]) fun r_6 =>
              (intK IntKind.i64 (r_6) fun x_3 =>
              (ifK (x_3 == 0)
                (optK (call 60 [D.int IntKind.i64 vjobs, D.slc vl_f vl_n vl_c, D.slc f_2 n_3 c_4]) fun r_7 =>
                  (intK IntKind.i64 (r_7) fun x_4 =>
                  (ifK (x_4 == 0)
                    (optK (call 17 []) fun r_8 =>
                      (boolK (r_8) fun b_2 =>
                      (some (D.bool b_2))))
                    (some (D.bool false)))))
                (some (D.bool false)))))
            (some (D.bool false)))
          (some (D.bool false)))
        (ifK (x_2 != 7)
          (some (D.bool false))
          (ifK ((n_2 : Int) != vjobs)
            (some (D.bool false))
            (F11_255 call L C vjobs vl_f vl_n vl_c vmore (f_1) (n_2) (c_2))))))))))))))))) := by
  unfold F11_15
  rw [hC]
  kernel_rfl
theorem F11_eq (call : FuncId → List D → Option D) (L : Nat) (C : Nat → Nat) (vjobs : Int) (vl_f : Bool) (vl_n : Nat) (vl_c : List D) (vmore : Int) : evFnT (TEf call L C) O0 N11 FinM.canon Tryz.f11 [D.int IntKind.i64 vjobs, D.slc vl_f vl_n vl_c, D.int IntKind.u8 vmore] =
  (optK (call 56 [D.slc vl_f vl_n vl_c]) fun r =>
    (slcK (r) fun f n c =>
    (ifK (decide ((vl_n : Int) > 30))
      (optK (call 17 []) fun r_1 =>
        (boolK (r_1) fun b =>
        (some (D.bool b))))
      (optK (call 57 [D.int IntKind.i64 vjobs, D.slc f n c]) fun r_2 =>
        (intK IntKind.i64 (r_2) fun x =>
        (ifK (x != 0)
          (optK (call 17 []) fun r_3 =>
            (boolK (r_3) fun b_1 =>
            (some (D.bool b_1))))
          (F11_15 call L C vjobs vl_f vl_n vl_c vmore (f) (n) (c)))))))) := by kernel_rfl

end Go.Pd
end

section
namespace Go.Pd
open Go Go.Proofs Go.RowKit
set_option maxRecDepth 100000

def Feas (R : List Rl) (e : Nat → Int) : Prop := ∀ x ∈ R, e x.1 + x.2.2 ≤ e x.2.1
theorem step_below {e : Nat → Int} {i now : Nat} {r : Rl} {S : BF} (he : e r.1 + r.2.2 ≤ e r.2.1) (h : ∀ v, S.d v ≤ e v) : ∀ v, (bfStep i now r S).d v ≤ e v := by
  intro v
  unfold bfStep
  split
  · show updF S.d r.2.1 (S.d r.1 + r.2.2) v ≤ e v
    unfold updF
    split
    · rename_i hv
      have := h r.1
      rw [hv]
      omega
    · exact h v
  · exact h v
theorem go_below {e : Nat → Int} : ∀ (r : List Rl) (i now : Nat) (S : BF), Feas r e → (∀ v, S.d v ≤ e v) → ∀ v, (bfGo r i now S).d v ≤ e v
  | [], _, _, _, _, h => h
  | x :: r, i, now, S, hf, h => go_below r (i + 1) (now + 1) (bfStep i now x S) (fun y hy => hf y (List.mem_cons_of_mem _ hy)) (step_below (hf x (List.mem_cons_self ..)) h)
theorem rlx_below {R : List Rl} {e : Nat → Int} (hf : Feas R e) : ∀ (k ρ : Nat) (S : BF), (∀ v, S.d v ≤ e v) → ∀ v, (rlxGo R k ρ S).d v ≤ e v
  | 0, _, _, h => h
  | k + 1, ρ, S, h => by
    have h1 : ∀ v, (bfRound R ρ S).d v ≤ e v := go_below R 0 (ρ * R.length) { S with last := none } hf h
    rw [rlxGo]
    split
    · exact h1
    · exact rlx_below hf k (ρ + 1) _ h1
structure Fin (R : List Rl) (J : Nat) (S : BF) : Prop where
  inv : ∃ now, BInv R now S
  bd : Bd ((J + 1) * R.length) S
  feas : S.last = none → Feas R S.d
theorem rlx_fin {R : List Rl} {J : Nat} (hR : Rok J R) : ∀ (k ρ : Nat) (S : BF), ρ + k = J + 1 → BInv R (ρ * R.length) S → Bd (ρ * R.length) S → (k = 0 → S.last ≠ none) → Fin R J (rlxGo R k ρ S)
  | 0, ρ, S, hk, hI, hb, h0 => ⟨⟨_, hI⟩, by rw [show J + 1 = ρ by omega]; exact hb, fun h => absurd h (h0 rfl)⟩
  | k + 1, ρ, S, hk, hI, hb, _ => by
    have hI' := binv_round (ρ := ρ) hI
    have hb' : Bd ((ρ + 1) * R.length) (bfRound R ρ S) := by
      have := bd_go (fun x hx => (hR.l x hx).2) R 0 (ρ * R.length) { S with last := none } (fun _ h => h) hb
      rw [show ρ * R.length + R.length = (ρ + 1) * R.length by rw [Nat.succ_mul]] at this
      exact this
    rw [rlxGo]
    cases hl : (bfRound R ρ S).last with
    | none =>
      refine ⟨⟨_, hI'⟩, fun v => ?_, fun _ => ?_⟩
      · have h1 := hb' v
        have h2 : (ρ + 1) * R.length ≤ (J + 1) * R.length := Nat.mul_le_mul_right _ (by omega)
        refine ⟨h1.1, Int.le_trans h1.2 ?_⟩
        omega
      · have h1 := still_round hl
        intro x hx
        have h2 := h1.2 x hx
        rw [h1.1]
        exact h2
    | some v => exact rlx_fin hR k (ρ + 1) _ (by omega) hI' hb' (fun _ h => by rw [hl] at h; cases h)
theorem fin_of {R : List Rl} {J : Nat} (hR : Rok J R) : Fin R J (rlxF R J) :=
  rlx_fin hR (J + 1) 0 bf0 (by omega) (by rw [Nat.zero_mul]; exact binv_start R) (fun v => ⟨Int.le_refl 0, by show (0 : Int) ≤ _; omega⟩) (fun h => by omega)
theorem sumF_sub : ∀ (n : Nat) (f g : Nat → Int), (sumF n fun k => f k - g k) = sumF n f - sumF n g
  | 0, _, _ => rfl
  | n + 1, f, g => by
    show (sumF n fun k => f k - g k) + (f n - g n) = (sumF n f + f n) - (sumF n g + g n)
    rw [sumF_sub n f g]; omega
theorem sumF_le : ∀ {n : Nat} {f g : Nat → Int}, (∀ k, k < n → f k ≤ g k) → sumF n f ≤ sumF n g
  | 0, _, _, _ => Int.le_refl _
  | n + 1, f, g, h => by
    have h1 := sumF_le (n := n) (f := f) (g := g) fun k hk => h k (by omega)
    have h2 := h n (by omega)
    show sumF n f + f n ≤ sumF n g + g n
    omega
theorem sumF_shift {q : Nat} (hq : 1 ≤ q) (h : Nat → Int) : (sumF q fun k => h ((k + 1) % q)) = sumF q h := by
  obtain ⟨m, rfl⟩ : ∃ m, q = m + 1 := ⟨q - 1, by omega⟩
  show (sumF m fun k => h ((k + 1) % (m + 1))) + h ((m + 1) % (m + 1)) = _
  rw [Nat.mod_self, sumF_front, sumF_congr (f := fun k => h ((k + 1) % (m + 1))) (g := fun k => h (k + 1)) fun k hk => by rw [Nat.mod_eq_of_lt (by omega)]]
  omega
theorem conf_infeas {R : List Rl} {q : Nat} {g : Nat → Int} (hc : Conf R q g) {e : Nat → Int} (hf : Feas R e) : False := by
  have hat : ∀ k, k < q → rlAt R (g k) ∈ R := fun k hk => by
    have := hc.r k hk
    unfold rlAt
    rw [List.getD_eq_getElem?_getD, List.getElem?_eq_getElem (by omega)]
    exact List.getElem_mem _
  have h1 : (sumF q fun k => (rlAt R (g k)).2.2) ≤ sumF q fun k => e (rlAt R (g k)).2.1 - e (rlAt R (g k)).1 := sumF_le fun k hk => by
    have := hf _ (hat k hk)
    omega
  rw [sumF_sub, sumF_congr (f := fun k => e (rlAt R (g k)).2.1) (g := fun k => e (rlAt R (g ((k + 1) % q))).1) fun k hk => by rw [hc.e k hk], sumF_shift hc.p fun k => e (rlAt R (g k)).1] at h1
  have := hc.s
  omega
section
variable {R : List Rl} {J : Nat}
theorem fin_feas (hR : Rok J R) {e : Nat → Int} (hf : Feas R e) : (rlxF R J).last = none := by
  cases hl : (rlxF R J).last with
  | none => rfl
  | some v =>
    obtain ⟨q, g, _, hc, _⟩ := (ok114 (f := false) hR).2 v hl
    exact (conf_infeas hc hf).elim
theorem fin_least (e : Nat → Int) (hf : Feas R e) (h0 : ∀ v, 0 ≤ e v) : ∀ v, (rlxF R J).d v ≤ e v := rlx_below hf (J + 1) 0 bf0 h0
theorem fin_pos (hR : Rok J R) (v : Nat) : 0 ≤ (rlxF R J).d v := ((fin_of hR).bd v).1
theorem fin_tight (hR : Rok J R) (hn : (rlxF R J).last = none) {v : Nat} (hv : (rlxF R J).d v ≠ 0) : ∃ x ∈ R, x.2.1 = v ∧ (rlxF R J).d v = (rlxF R J).d x.1 + x.2.2 := by
  obtain ⟨now, hI⟩ := (fin_of hR).inv
  have hf := (fin_of hR).feas hn
  cases hb : (rlxF R J).b v with
  | none => exact absurd (hI.root v hb).1 hv
  | some i =>
    obtain ⟨u, w, h1, h2, _⟩ := hI.par v i hb
    have h3 : (rlxF R J).d u + w ≤ (rlxF R J).d v := hf _ (List.mem_of_getElem? h1)
    exact ⟨_, List.mem_of_getElem? h1, rfl, by show _ = (rlxF R J).d u + w; omega⟩
theorem fin_add (hR : Rok J R) (hn : (rlxF R J).last = none) {x : Rl} (hR' : Rok J (R ++ [x])) (hx : (rlxF R J).d x.1 + x.2.2 ≤ (rlxF R J).d x.2.1) : (rlxF (R ++ [x]) J).last = none ∧ (rlxF (R ++ [x]) J).d = (rlxF R J).d := by
  have hf := (fin_of hR).feas hn
  have hf' : Feas (R ++ [x]) (rlxF R J).d := fun y hy => by
    rcases List.mem_append.1 hy with hy | hy
    · exact hf y hy
    · rw [List.mem_singleton.1 hy]; exact hx
  have hn' := fin_feas hR' hf'
  refine ⟨hn', funext fun v => ?_⟩
  have h1 := fin_least (J := J) (rlxF R J).d hf' (fin_pos hR) v
  have hg := (fin_of hR').feas hn'
  have h2 := fin_least (J := J) (rlxF (R ++ [x]) J).d (fun y hy => hg y (List.mem_append.2 (.inl hy))) (fin_pos hR') v
  omega
theorem fin_bad {a : Nat} (hR' : Rok J (R ++ [(a, a, 1)])) : (rlxF (R ++ [(a, a, 1)]) J).last ≠ none := fun hn => by
  have h := (fin_of hR').feas hn (a, a, 1) (by simp)
  have h : (rlxF (R ++ [(a, a, 1)]) J).d a + 1 ≤ (rlxF (R ++ [(a, a, 1)]) J).d a := h
  omega
end
end Go.Pd
end

section
namespace Go.Pd
open Go Go.Proofs Go.RowKit
set_option maxRecDepth 100000

/-! ### Families of calls -/
structure Ans (J : Int) (f : Bool) (L : List Rz) (p : D × D) : Prop where
  a : OK2 58 [.int .i64 J, lD f L] p.1
  b : OK2 59 [.int .i64 J, lD f L] p.2
  n : ruE J L = 0 → Infeas J L = false → p = (.tup [.slc false (daysI J L).length (ints (daysI J L)), .int .i64 0], .tup [.slc true 0 [], .int .i64 7])
  s : ruE J L = 0 → Infeas J L = true → ∃ q g, q ≤ J.toNat ∧ Conf (toR L) q g ∧ p = (.tup [.slc true 0 [], .int .i64 23], .tup [.slc false (rowF q g).length (ints (rowF q g)), .int .i64 0])
theorem ex58 (J : Int) (f : Bool) (L : List Rz) (hL : L.length ≤ 1000) : ∃ p, Ans J f L p := by
  by_cases hz : ruE J L = 0
  · cases hI : Infeas J L
    · obtain ⟨h1, h2⟩ := ok58n (f := f) hz hI
      exact ⟨(_, _), h1, h2, fun _ _ => rfl, fun _ h => by rw [hI] at h; cases h⟩
    · obtain ⟨q, g, h1, h2, h3, h4⟩ := ok58s (f := f) hz hI
      refine ⟨(_, _), h3, h4, (fun _ h => by rw [hI] at h; cases h), fun _ _ => ⟨q, g, h1, h2, ?_⟩⟩
      rw [rowF_len]
  · exact ⟨(_, _), ok58e hL hz, ok59e hL hz, fun h => absurd h hz, fun h => absurd h hz⟩
abbrev Lf := Bool × {L : List Rz // L.length ≤ 1000}
noncomputable def ans (J : Int) (x : Lf) : D × D := Classical.choose (ex58 J x.1 x.2.1 x.2.2)
theorem ans_ok (J : Int) (x : Lf) : Ans J x.1 x.2.1 (ans J x) := Classical.choose_spec (ex58 J x.1 x.2.1 x.2.2)
theorem lD_inj {f g : Bool} {L M : List Rz} (h : lD f L = lD g M) : f = g ∧ L = M := by
  unfold lD at h
  simp only [D.slc.injEq] at h
  exact ⟨h.1, rzC_inj h.2.2⟩
theorem lf_inj {x y : Lf} (h : lD x.1 x.2.1 = lD y.1 y.2.1) : x = y := by
  obtain ⟨f, L, h1⟩ := x
  obtain ⟨g, M, h2⟩ := y
  obtain ⟨rfl, e⟩ := lD_inj h
  cases e
  rfl
noncomputable def fam58 (J : Int) : Fam := ⟨58, Lf, fun x => [.int .i64 J, lD x.1 x.2.1], fun x => (ans J x).1⟩
noncomputable def fam59 (J : Int) : Fam := ⟨59, Lf, fun x => [.int .i64 J, lD x.1 x.2.1], fun x => (ans J x).2⟩
theorem fam58_good (J : Int) : (fam58 J).Good := ⟨fun x => (ans_ok J x).a, fun (x y : Lf) e => by
  have e : [D.int .i64 J, lD x.1 x.2.1] = [D.int .i64 J, lD y.1 y.2.1] := e
  simp only [List.cons.injEq, true_and, and_true] at e
  rw [lf_inj e], fun _ => rfl⟩
theorem fam59_good (J : Int) : (fam59 J).Good := ⟨fun x => (ans_ok J x).b, fun (x y : Lf) e => by
  have e : [D.int .i64 J, lD x.1 x.2.1] = [D.int .i64 J, lD y.1 y.2.1] := e
  simp only [List.cons.injEq, true_and, and_true] at e
  rw [lf_inj e], fun _ => rfl⟩
def fam56 : Fam := ⟨56, {x : Bool × List Rz // x.2.length * 24 ≤ 140737488355328}, fun x => [lD x.1.1 x.1.2], fun x => lD x.1.2.isEmpty x.1.2⟩
theorem fam56_good : fam56.Good := ⟨fun x => ok56 x.1.2 x.2, fun (x y : {x : Bool × List Rz // x.2.length * 24 ≤ 140737488355328}) e => by
  have e : [lD x.1.1 x.1.2] = [lD y.1.1 y.1.2] := e
  simp only [List.cons.injEq, and_true] at e
  show lD x.1.2.isEmpty x.1.2 = lD y.1.2.isEmpty y.1.2
  rw [(lD_inj e).2], fun _ => rfl⟩
abbrev Lc := {x : (Bool × List Rz) × Bool × List Int // Rin x.1.2 ∧ x.2.2.length ≤ 1000}
def fam61 : Fam := ⟨61, Lc, fun x => [lD x.1.1.1 x.1.1.2, .slc x.1.2.1 x.1.2.2.length (ints x.1.2.2)], fun x => .int .i64 (cyE x.1.1.2 x.1.2.2)⟩
theorem fam61_good : fam61.Good := ⟨fun x => ok61 x.2.1 x.1.2.2 x.2.2, fun (x y : Lc) e => by
  have e : [lD x.1.1.1 x.1.1.2, .slc x.1.2.1 x.1.2.2.length (ints x.1.2.2)] = [lD y.1.1.1 y.1.1.2, .slc y.1.2.1 y.1.2.2.length (ints y.1.2.2)] := e
  simp only [List.cons.injEq, D.slc.injEq, and_true] at e
  show D.int .i64 (cyE x.1.1.2 x.1.2.2) = .int .i64 (cyE y.1.1.2 y.1.2.2)
  rw [(lD_inj e.1).2, ints_inj e.2.2.2], fun _ => rfl⟩
abbrev Jc := {x : Lf × Bool × List Int // x.2.2.length ≤ 1000}
def fam60 (J : Int) : Fam := ⟨60, Jc, fun x => [.int .i64 J, lD x.1.1.1 x.1.1.2.1, .slc x.1.2.1 x.1.2.2.length (ints x.1.2.2)], fun x => .int .i64 (chkE J x.1.1.2.1 x.1.2.2)⟩
theorem fam60_good (J : Int) : (fam60 J).Good := ⟨fun x => ok60 J x.1.1.2.1 x.1.1.2.2 x.1.2.2 x.2, fun (x y : Jc) e => by
  have e : [D.int .i64 J, lD x.1.1.1 x.1.1.2.1, .slc x.1.2.1 x.1.2.2.length (ints x.1.2.2)] = [D.int .i64 J, lD y.1.1.1 y.1.1.2.1, .slc y.1.2.1 y.1.2.2.length (ints y.1.2.2)] := e
  simp only [List.cons.injEq, D.slc.injEq, true_and, and_true] at e
  show D.int .i64 (chkE J x.1.1.2.1 x.1.2.2) = .int .i64 (chkE J y.1.1.2.1 y.1.2.2)
  rw [(lD_inj e.1).2, ints_inj e.2.2.2], fun _ => rfl⟩
def fam57 (J : Int) : Fam := ⟨57, Lf, fun x => [.int .i64 J, lD x.1 x.2.1], fun x => .int .i64 (ruE J x.2.1)⟩
theorem fam57_good (J : Int) : (fam57 J).Good := ⟨fun x => ok57 J x.2.1 x.2.2, fun (x y : Lf) e => by
  have e : [D.int .i64 J, lD x.1 x.2.1] = [D.int .i64 J, lD y.1 y.2.1] := e
  simp only [List.cons.injEq, true_and, and_true] at e
  show D.int .i64 (ruE J x.2.1) = .int .i64 (ruE J y.2.1)
  rw [lf_inj e], fun _ => rfl⟩

/-! ### Conditions that are added -/
section
variable {J : Int} {L : List Rz}
theorem ruG_app : ∀ (L : List Rz) (x : Rz), ruG J L = 0 → (0 ≤ x.1 ∧ x.1 < J) → (0 ≤ x.2.1 ∧ x.2.1 < J) → (-10000 ≤ x.2.2 ∧ x.2.2 ≤ 10000) → ruG J (L ++ [x]) = 0
  | [], x, _, h1, h2, h3 => by
    show ifK (decide (x.1 < 0)) 10 (ifK (decide (x.1 ≥ J)) 10 (ifK (decide (x.2.1 < 0)) 10 (ifK (decide (x.2.1 ≥ J)) 10 (ifK (decide (x.2.2 < -10000)) 3 (ifK (decide (x.2.2 > 10000)) 3 0))))) = 0
    rw [decide_eq_false (by omega), decide_eq_false (by omega), decide_eq_false (by omega), decide_eq_false (by omega), decide_eq_false (by omega), decide_eq_false (by omega)]
    rfl
  | y :: L, x, h, h1, h2, h3 => by
    have hy := ruG_zero h y (List.mem_cons_self ..)
    have ih := ruG_app L x
    have e : ∀ M, ruG J (y :: M) = ruG J M := fun M => by
      show ifK (decide (y.1 < 0)) 10 (ifK (decide (y.1 ≥ J)) 10 (ifK (decide (y.2.1 < 0)) 10 (ifK (decide (y.2.1 ≥ J)) 10 (ifK (decide (y.2.2 < -10000)) 3 (ifK (decide (y.2.2 > 10000)) 3 (ruG J M)))))) = ruG J M
      rw [decide_eq_false (by omega), decide_eq_false (by omega), decide_eq_false (by omega), decide_eq_false (by omega), decide_eq_false (by omega), decide_eq_false (by omega)]
      rfl
    rw [e] at h
    show ruG J (y :: (L ++ [x])) = 0
    rw [e]
    exact ih h h1 h2 h3
theorem ruE_app {x : Rz} (hz : ruE J L = 0) (hl : L.length ≤ 30) (h1 : 0 ≤ x.1 ∧ x.1 < J) (h2 : 0 ≤ x.2.1 ∧ x.2.1 < J) (h3 : -10000 ≤ x.2.2 ∧ x.2.2 ≤ 10000) : ruE J (L ++ [x]) = 0 := by
  obtain ⟨e1, e2, e3⟩ := ruE_zero hz
  unfold ruE
  rw [decide_eq_false (by omega), decide_eq_false (by omega), decide_eq_false (by simp; omega), ruG_app L x e3 h1 h2 h3]
  rfl
theorem toR_app (L : List Rz) (x : Rz) : toR (L ++ [x]) = toR L ++ [(x.1.toNat, x.2.1.toNat, x.2.2)] := by simp [toR]
def dv (J : Int) (L : List Rz) (v : Nat) : Int := (rlxF (toR L) J.toNat).d v
theorem inf_none (h : Infeas J L = false) : (rlxF (toR L) J.toNat).last = none := by unfold Infeas at h; simpa using h
theorem dv_feas (hz : ruE J L = 0) (hI : Infeas J L = false) {x : Rz} (hx : x ∈ L) : dv J L x.1.toNat + x.2.2 ≤ dv J L x.2.1.toNat :=
  (fin_of (rok_of hz)).feas (inf_none hI) (x.1.toNat, x.2.1.toNat, x.2.2) (List.mem_map.2 ⟨x, hx, rfl⟩)
theorem dv_tight (hz : ruE J L = 0) (hI : Infeas J L = false) {v : Nat} (hv : dv J L v ≠ 0) : ∃ x ∈ L, x.2.1.toNat = v ∧ dv J L v = dv J L x.1.toNat + x.2.2 := by
  obtain ⟨y, hy, h1, h2⟩ := fin_tight (rok_of hz) (inf_none hI) hv
  obtain ⟨x, hx, rfl⟩ := List.mem_map.1 hy
  exact ⟨x, hx, h1, h2⟩
theorem dv_pos (hz : ruE J L = 0) (v : Nat) : 0 ≤ dv J L v := fin_pos (rok_of hz) v
theorem dv_le (hz : ruE J L = 0) (v : Nat) : dv J L v ≤ 100000000 := by
  have h := ((fin_of (rok_of hz)).bd v).2
  obtain ⟨h1, h2, _⟩ := ruE_zero hz
  have h3 : (J.toNat + 1) * (toR L).length ≤ 25 * 256 := Nat.mul_le_mul (by omega) (by simp [toR]; omega)
  unfold dv
  omega
theorem add_same (hz : ruE J L = 0) (hI : Infeas J L = false) {a b : Nat} {x : Int} (hz' : ruE J (L ++ [((a : Int), (b : Int), x)]) = 0) (hx : dv J L a + x ≤ dv J L b) : Infeas J (L ++ [((a : Int), (b : Int), x)]) = false ∧ daysI J (L ++ [((a : Int), (b : Int), x)]) = daysI J L := by
  have hR := rok_of hz'
  rw [toR_app] at hR
  have h := fin_add (x := (((a : Int)).toNat, ((b : Int)).toNat, x)) (rok_of hz) (inf_none hI) hR (by rw [Int.toNat_natCast, Int.toNat_natCast]; exact hx)
  unfold Infeas daysI
  rw [toR_app]
  rw [h.1, h.2]
  exact ⟨rfl, rfl⟩
theorem add_bad {a : Nat} (hz' : ruE J (L ++ [((a : Int), (a : Int), 1)]) = 0) : Infeas J (L ++ [((a : Int), (a : Int), 1)]) = true := by
  have hR := rok_of hz'
  rw [toR_app] at hR
  have h := fin_bad (a := ((a : Int)).toNat) hR
  unfold Infeas
  rw [toR_app]
  cases hl : (rlxF (toR L ++ [(((a : Int)).toNat, ((a : Int)).toNat, 1)]) J.toNat).last with
  | none => exact absurd hl h
  | some v => rfl
end
end Go.Pd
end

section
namespace Go.Pd
open Go Go.Proofs Go.RowKit
set_option maxRecDepth 100000

/-! ### Rows of Bools -/
def rowB (n : Nat) (f : Nat → Bool) : List D := (List.range n).map fun k => .bool (f k)
theorem rowB_len (n : Nat) (f : Nat → Bool) : (rowB n f).length = n := by simp [rowB]
theorem rowB_get {n k : Nat} (f : Nat → Bool) (h : k < n) : (rowB n f)[k]? = some (.bool (f k)) := by simp [rowB, h]
theorem rowB_set (n : Nat) (f : Nat → Bool) (v : Nat) (x : Bool) : writeAt (rowB n f) (v * 1) [.bool x] = rowB n (updF f v x) := by
  show (rowB n f).set (v * 1) (.bool x) = _
  rw [Nat.mul_one]
  apply List.ext_getElem?
  intro k
  by_cases hk : k < n
  · rw [rowB_get _ hk]
    by_cases e : v = k
    · subst e
      rw [List.getElem?_set_self (by rw [rowB_len]; exact hk), updF_same]
    · rw [List.getElem?_set_ne e, rowB_get _ hk, updF_ne _ _ (fun h => e h.symm)]
  · rw [List.getElem?_eq_none (by simp [rowB_len]; omega), List.getElem?_eq_none (by rw [rowB_len]; omega)]
theorem rep_rowB : ∀ n : Nat, repD n [D.bool false] = rowB n fun _ => false
  | 0 => rfl
  | n + 1 => by
    show D.bool false :: repD n [D.bool false] = _
    rw [rep_rowB n]
    unfold rowB
    rw [List.range_succ_eq_map, List.map_cons, List.map_map]
    rfl
theorem cellRB {γ : Type} {n v : Nat} {f : Nat → Bool} (h : v < n) (k : D → Option γ) : cellK (rowB n f) (Int.toNat (v : Int) * 1) k = k (.bool (f v)) := cellK_some (by rw [Int.toNat_natCast, Nat.mul_one]; exact rowB_get f h) k
section
variable {call : FuncId → List D → Option D} {f fd : Bool} {j : Nat} {L : List Rz} {more : Int}
theorem days_row (j : Nat) (L : List Rz) : daysI (j : Int) L = rowF j (dv (j : Int) L) := by
  unfold daysI
  rw [Int.toNat_natCast]
  refine rowF_ext fun k _ => ?_
  unfold dv
  rw [Int.toNat_natCast]
theorem go4090 (hz : ruE (j : Int) L = 0) (hI : Infeas (j : Int) L = false) : ∀ (r : List Rz) (i : Nat) (T : Nat → Bool) (fuel : Nat), L.drop i = r → i ≤ L.length → r.length < fuel →
    (∀ k, k < i → ∀ x, L[k]? = some x → dv (j : Int) L x.2.1.toNat = dv (j : Int) L x.1.toNat + x.2.2 → T x.2.1.toNat = true) →
    ∃ T' : Nat → Bool, (∀ x ∈ L, dv (j : Int) L x.2.1.toNat = dv (j : Int) L x.1.toNat + x.2.2 → T' x.2.1.toNat = true) ∧
      F11_4090 call LL C1 fuel (j : Int) f L.length (rzC L) more fd j (ints (rowF j (dv (j : Int) L))) j (L.length : Int) (i : Int) (rowB j T) = F11_8186 call LL C1 LL (j : Int) f L.length (rzC L) more fd j (ints (rowF j (dv (j : Int) L))) j (rowB j T') (j : Int) 0 := by
  have hL := (ruE_zero hz).2.1
  intro r
  induction r with
  | nil =>
    intro i T fuel hd hi hf hT
    obtain ⟨fuel, rfl⟩ : ∃ n, fuel = n + 1 := ⟨fuel - 1, by omega⟩
    have hi' : i = L.length := by
      have := congrArg List.length hd
      simp at this
      omega
    refine ⟨T, fun x hx => ?_, ?_⟩
    · obtain ⟨k, hk, rfl⟩ := List.getElem_of_mem hx
      exact hT k (by omega) _ (List.getElem?_eq_getElem hk)
    · rw [F11_4090_eq, show decide ((i : Int) < (L.length : Int)) = false by simp; omega, ifK_false]
  | cons x r ih =>
    intro i T fuel hd hi hf hT
    obtain ⟨fuel, rfl⟩ : ∃ n, fuel = n + 1 := ⟨fuel - 1, by omega⟩
    have hlt : i < L.length := by
      have := congrArg List.length hd
      simp at this
      omega
    have hx : L[i]? = some x := by
      have := congrArg (fun l : List Rz => l[0]?) hd
      simpa using this
    have hxm := List.mem_of_getElem? hx
    have hfe := dv_feas hz hI hxm
    obtain ⟨h1, h2, h3⟩ := ruG_zero (ruE_zero hz).2.2 x hxm
    obtain ⟨u, hu⟩ : ∃ u : Nat, x.1 = (u : Int) := ⟨x.1.toNat, by omega⟩
    obtain ⟨v, hv⟩ : ∃ v : Nat, x.2.1 = (v : Int) := ⟨x.2.1.toNat, by omega⟩
    have p1 := dv_pos hz u
    have p2 := dv_le hz u
    have e1 : decide ((0 : Int) ≤ (i : Int) ∧ (i : Int) < (L.length : Int)) = true := decide_eq_true ⟨by omega, by omega⟩
    have e2 : decide ((0 : Int) ≤ (v : Int) ∧ (v : Int) < (j : Int)) = true := decide_eq_true ⟨by omega, by omega⟩
    have e3 : decide ((0 : Int) ≤ (u : Int) ∧ (u : Int) < (j : Int)) = true := decide_eq_true ⟨by omega, by omega⟩
    have e4 : IntKind.wrap .i64 (dv (j : Int) L u + x.2.2) = dv (j : Int) L u + x.2.2 := wrap_in (by omega)
    have e5 : IntKind.wrap .i64 ((i : Int) + 1) = ((i + 1 : Nat) : Int) := (wrap_in (by omega)).trans (by omega)
    have hvj : v < j := by omega
    have huj : u < j := by omega
    rw [hu, hv, Int.toNat_natCast, Int.toNat_natCast] at hfe
    rw [F11_4090_eq, show decide ((i : Int) < (L.length : Int)) = true by simp; omega, ifK_true, e1, chkK_true, rz0 hx, intK_int, rz1 hx, intK_int, rz2 hx, intK_int, hu, hv, e2, chkK_true, cell_at (rowF_get (dv (j : Int) L) hvj), intK_int, e3, chkK_true, cell_at (rowF_get (dv (j : Int) L) huj), intK_int, e4,
      decide_eq_false (show ¬ dv (j : Int) L v < dv (j : Int) L u + x.2.2 by omega), ifK_false, chkK_true, cell_at (rowF_get (dv (j : Int) L) hvj), intK_int, chkK_true, cell_at (rowF_get (dv (j : Int) L) huj), intK_int, e4, e5]
    by_cases hq : dv (j : Int) L v = dv (j : Int) L u + x.2.2
    · obtain ⟨T', t1, t2⟩ := ih (i + 1) (updF T v true) fuel (by rw [← List.drop_drop, hd]; rfl) (by omega) (by simp at hf; omega) (fun k hk y hy he => by
        unfold updF
        split
        · rfl
        · rename_i hne
          by_cases hki : k = i
          · subst hki
            rw [hx] at hy
            cases hy
            rw [hv, Int.toNat_natCast] at hne
            exact absurd rfl hne
          · exact hT k (by omega) y hy he)
      refine ⟨T', t1, ?_⟩
      rw [show (dv (j : Int) L v == dv (j : Int) L u + x.2.2) = true by simpa using hq, ifK_true, chkK_true, rowB_len, Int.toNat_natCast, decide_eq_true (show v * 1 + 1 ≤ j by omega), chkK_true, rowB_set]
      exact t2
    · obtain ⟨T', t1, t2⟩ := ih (i + 1) T fuel (by rw [← List.drop_drop, hd]; rfl) (by omega) (by simp at hf; omega) (fun k hk y hy he => by
        by_cases hki : k = i
        · subst hki
          rw [hx] at hy
          cases hy
          rw [hu, hv, Int.toNat_natCast, Int.toNat_natCast] at he
          exact absurd he hq
        · exact hT k (by omega) y hy he)
      refine ⟨T', t1, ?_⟩
      rw [show (dv (j : Int) L v == dv (j : Int) L u + x.2.2) = false by simpa using hq, ifK_false]
      exact t2
theorem go8186 (hz : ruE (j : Int) L = 0) (hI : Infeas (j : Int) L = false) {m : Nat} (hm : m ≤ 255) {T : Nat → Bool} (hT : ∀ x ∈ L, dv (j : Int) L x.2.1.toNat = dv (j : Int) L x.1.toNat + x.2.2 → T x.2.1.toNat = true) (h17 : call 17 [] = some (.bool true))
    (h16 : -10000 ≤ dv (j : Int) L (m / 7 % j) - dv (j : Int) L (m % j) → dv (j : Int) L (m / 7 % j) - dv (j : Int) L (m % j) ≤ 10000 → F11_16383 call LL C1 (j : Int) f L.length (rzC L) fd j (ints (rowF j (dv (j : Int) L))) ((m % j : Nat) : Int) ((m / 7 % j : Nat) : Int) (dv (j : Int) L (m / 7 % j) - dv (j : Int) L (m % j)) = some (.bool true)) :
    ∀ (k i fuel : Nat), i + k = j → k < fuel → F11_8186 call LL C1 fuel (j : Int) f L.length (rzC L) (m : Int) fd j (ints (rowF j (dv (j : Int) L))) j (rowB j T) (j : Int) (i : Int) = some (.bool true) := by
  have hJ := (ruE_zero hz).1
  intro k
  induction k with
  | zero =>
    intro i fuel hi hf
    obtain ⟨fuel, rfl⟩ : ∃ n, fuel = n + 1 := ⟨fuel - 1, by omega⟩
    have w1 : IntKind.wrap .i64 (m : Int) = (m : Int) := wrap_in (by omega)
    have w2 : IntKind.wrap .i64 (Int.tdiv (m : Int) 7) = ((m / 7 : Nat) : Int) := by
      rw [show Int.tdiv (m : Int) 7 = ((m / 7 : Nat) : Int) from rfl]
      have : m / 7 ≤ m := Nat.div_le_self _ _
      exact wrap_in (by omega)
    have w3 : Int.tmod ((m / 7 : Nat) : Int) (j : Int) = ((m / 7 % j : Nat) : Int) := rfl
    have w4 : Int.tmod (m : Int) (j : Int) = ((m % j : Nat) : Int) := rfl
    have l1 : m / 7 % j < j := Nat.mod_lt _ (by omega)
    have l2 : m % j < j := Nat.mod_lt _ (by omega)
    have e0 : (!decide ((j : Int) = 0)) = true := by rw [decide_eq_false (by omega)]; rfl
    have p1 := dv_pos hz (m / 7 % j)
    have p2 := dv_le hz (m / 7 % j)
    have p3 := dv_pos hz (m % j)
    have p4 := dv_le hz (m % j)
    have w5 : IntKind.wrap .i64 (dv (j : Int) L (m / 7 % j) - dv (j : Int) L (m % j)) = dv (j : Int) L (m / 7 % j) - dv (j : Int) L (m % j) := wrap_in (by omega)
    rw [F11_8186_eq, show decide ((i : Int) < (j : Int)) = false by simp; omega, ifK_false, w1, w2, w3, w4]
    refine chk_step e0 (chk_step e0 (chk_step (decide_eq_true ⟨by omega, by omega⟩) (cell_step (d := .int .i64 (dv (j : Int) L (m / 7 % j))) ?_ (int_step (chk_step (decide_eq_true ⟨by omega, by omega⟩) (cell_step (d := .int .i64 (dv (j : Int) L (m % j))) ?_ (int_step ?_)))))))
    · rw [Int.toNat_natCast, Nat.mul_one]; simp [ints, rowF_get _ l1]
    · rw [Int.toNat_natCast, Nat.mul_one]; simp [ints, rowF_get _ l2]
    · rw [w5, h17, optK_some, boolK_bool]
      cases h1 : decide (dv (j : Int) L (m / 7 % j) - dv (j : Int) L (m % j) < -10000)
      · cases h2 : decide (dv (j : Int) L (m / 7 % j) - dv (j : Int) L (m % j) > 10000)
        · rw [ifK_false, ifK_false]
          simp only [decide_eq_false_iff_not] at h1 h2
          exact h16 (by omega) (by omega)
        · rfl
      · rfl
  | succ k ih =>
    intro i fuel hi hf
    obtain ⟨fuel, rfl⟩ : ∃ n, fuel = n + 1 := ⟨fuel - 1, by omega⟩
    have ih := ih (i + 1) fuel (by omega) (by omega)
    have hij : i < j := by omega
    have e1 : decide ((0 : Int) ≤ (i : Int) ∧ (i : Int) < (j : Int)) = true := decide_eq_true ⟨by omega, by omega⟩
    have p1 := dv_pos hz i
    have e5 : IntKind.wrap .i64 ((i : Int) + 1) = ((i + 1 : Nat) : Int) := (wrap_in (by omega)).trans (by omega)
    rw [F11_8186_eq, show decide ((i : Int) < (j : Int)) = true by simp; omega, ifK_true, e1, chkK_true, cell_at (rowF_get (dv (j : Int) L) hij), intK_int, decide_eq_false (show ¬ dv (j : Int) L i < 0 by omega), ifK_false, e5]
    by_cases hp : dv (j : Int) L i > 0
    · have ht : T i = true := by
        obtain ⟨x, hx, h1, h2⟩ := dv_tight hz hI (v := i) (by omega)
        have := hT x hx (by rw [h1]; exact h2)
        rw [h1] at this
        exact this
      rw [decide_eq_true hp, ifK_true, chkK_true, cellRB hij, boolK_bool, ht, Bool.not_true, ifK_false]
      exact ih
    · rw [decide_eq_false hp, ifK_false]
      exact ih
end
theorem lD_app (f : Bool) (L : List Rz) (x y z : Int) : D.slc f (0 + L.length + 1) (rzC L ++ [.int .i64 x, .int .i64 y, .int .i64 z]) = lD f (L ++ [(x, y, z)]) := by
  unfold lD
  rw [rzC_app, List.length_append, Nat.zero_add]
  rfl
theorem rzC_ones : ∀ L : List Rz, (rzC L).all D.one = true
  | [] => rfl
  | _ :: l => rzC_ones l
section
variable {B : FuncId → List D → Option D} {f : Bool} {j : Nat} {L : List Rz}
structure Base (B : FuncId → List D → Option D) (j : Nat) : Prop where
  c17 : callOf B 17 [] = some (.bool true)
  c56 : ∀ (f : Bool) (L : List Rz), L.length * 24 ≤ 140737488355328 → callOf B 56 [lD f L] = some (lD L.isEmpty L)
  c57 : ∀ (f : Bool) (L : List Rz), L.length ≤ 1000 → callOf B 57 [.int .i64 (j : Int), lD f L] = some (.int .i64 (ruE (j : Int) L))
  c58 : ∀ x : Lf, callOf B 58 [.int .i64 (j : Int), lD x.1 x.2.1] = some (ans (j : Int) x).1
  c59 : ∀ x : Lf, callOf B 59 [.int .i64 (j : Int), lD x.1 x.2.1] = some (ans (j : Int) x).2
  c60 : ∀ (f g : Bool) (L : List Rz) (c : List Int), L.length ≤ 1000 → c.length ≤ 1000 → callOf B 60 [.int .i64 (j : Int), lD f L, .slc g c.length (ints c)] = some (.int .i64 (chkE (j : Int) L c))
  c61 : ∀ (f g : Bool) (L : List Rz) (c : List Int), Rin L → c.length ≤ 1000 → callOf B 61 [lD f L, .slc g c.length (ints c)] = some (.int .i64 (cyE L c))
  c42 : ∀ (f g : Bool) (l : List Int), l.length ≤ 1000 → callOf B 42 [.slc f l.length (ints l), .slc g l.length (ints l)] = some (.bool true)
theorem base_ex (j : Nat) : ∃ B, CallsT B ∧ Base B j := by
  obtain ⟨B, hB, e17, e56, e57, e58, e59, e60, e61, e42, _⟩ := exF [one 17 [] (.bool true), fam56, fam57 (j : Int), fam58 (j : Int), fam59 (j : Int), fam60 (j : Int), fam61, famT 42]
    ⟨one_good ok17 rfl, fam56_good, fam57_good _, fam58_good _, fam59_good _, fam60_good _, fam61_good, famT_good fun _ => rfl, trivial⟩ rfl
  exact ⟨B, hB, e17 (), fun f L h => e56 ⟨(f, L), h⟩, fun f L h => e57 (f, ⟨L, h⟩), fun x => e58 x, fun x => e59 x, fun f g L c h1 h2 => e60 ⟨((f, ⟨L, h1⟩), g, c), h2⟩, fun f g L c h1 h2 => e61 ⟨((f, L), g, c), h1, h2⟩, fun f g l h => e42 ⟨_, ok42 l (by omega)⟩⟩
theorem tail16 (hB : Base B j) (hz : ruE (j : Int) L = 0) (hI : Infeas (j : Int) L = false) (hl : L.length ≤ 30) {a b : Nat} (ha : a < j) (hb : b < j) (h1 : -10000 ≤ dv (j : Int) L b - dv (j : Int) L a) (h2 : dv (j : Int) L b - dv (j : Int) L a ≤ 10000) :
    F11_16383 (callOf B) LL C1 (j : Int) f L.length (rzC L) false j (ints (rowF j (dv (j : Int) L))) (a : Int) (b : Int) (dv (j : Int) L b - dv (j : Int) L a) = some (.bool true) := by
  have hJ := (ruE_zero hz).1
  have z1 : ruE (j : Int) (L ++ [((a : Int), (b : Int), dv (j : Int) L b - dv (j : Int) L a)]) = 0 := ruE_app hz hl ⟨Int.natCast_nonneg a, by show (a : Int) < j; omega⟩ ⟨Int.natCast_nonneg b, by show (b : Int) < j; omega⟩ ⟨h1, h2⟩
  have z2 : ruE (j : Int) (L ++ [((a : Int), (a : Int), 1)]) = 0 := ruE_app hz hl ⟨Int.natCast_nonneg a, by show (a : Int) < j; omega⟩ ⟨Int.natCast_nonneg a, by show (a : Int) < j; omega⟩ ⟨by show (-10000 : Int) ≤ 1; omega, by show (1 : Int) ≤ 10000; omega⟩
  obtain ⟨i1, i2⟩ := add_same hz hI z1 (by omega)
  have i3 := add_bad z2
  have n1 : (L ++ [((a : Int), (b : Int), dv (j : Int) L b - dv (j : Int) L a)]).length ≤ 1000 := by simp; omega
  have n2 : (L ++ [((a : Int), (a : Int), (1 : Int))]).length ≤ 1000 := by simp; omega
  have p1 := (ans_ok (j : Int) (false, ⟨_, n1⟩)).n z1 i1
  obtain ⟨q, g, hq, hcf, p2⟩ := (ans_ok (j : Int) (false, ⟨_, n2⟩)).s z2 i3
  have f1 : callOf B 58 [.int .i64 (j : Int), lD false (L ++ [((a : Int), (b : Int), dv (j : Int) L b - dv (j : Int) L a)])] = some (.tup [.slc false (daysI (j : Int) L).length (ints (daysI (j : Int) L)), .int .i64 0]) := by
    have := hB.c58 (false, ⟨_, n1⟩)
    rw [p1, i2] at this
    exact this
  have f2 : callOf B 58 [.int .i64 (j : Int), lD false (L ++ [((a : Int), (a : Int), (1 : Int))])] = some (.tup [.slc true 0 [], .int .i64 23]) := by
    have := hB.c58 (false, ⟨_, n2⟩)
    rw [p2] at this
    exact this
  have f3 : callOf B 59 [.int .i64 (j : Int), lD false (L ++ [((a : Int), (a : Int), (1 : Int))])] = some (.tup [.slc false (rowF q g).length (ints (rowF q g)), .int .i64 0]) := by
    have := hB.c59 (false, ⟨_, n2⟩)
    rw [p2] at this
    exact this
  have hql : (rowF q g).length ≤ 1000 := by rw [rowF_len]; omega
  have hdl : (daysI (j : Int) L).length = j := by rw [days_row, rowF_len]
  have f4 := hB.c42 false false (daysI (j : Int) L) (by rw [hdl]; omega)
  rw [hdl] at f1 f4
  have f5 := hB.c56 false (L ++ [((a : Int), (a : Int), (1 : Int))]) (by simp; omega)
  have f6 := hB.c61 (L ++ [((a : Int), (a : Int), (1 : Int))]).isEmpty false (L ++ [((a : Int), (a : Int), (1 : Int))]) (rowF q g) (rin_of z2) hql
  rw [conf_zero z2 hq hcf] at f6
  rw [days_row] at f1 f4
  have c1 : decide ((rzC L).length = L.length * 3) = true := decide_eq_true (rzC_len L)
  rw [F11_16383_eq (C := C1) (hC := fun _ => rfl)]
  refine chk_step c1 (chk_step (rzC_ones L) ?_)
  by_cases h0 : L = []
  · subst h0
    rw [decide_eq_true (show ([] : List Rz).length = 0 from rfl), ifK_true]
    refine opt_step f1 ?_
    rw [rd_sl]
    refine chk_step c1 (chk_step rfl ?_)
    rw [ifK_true]
    refine opt_step f2 ?_
    rw [rd_sl]
    refine opt_step f3 ?_
    rw [rd_sl]
    refine opt_step f4 (opt_step f5 (slc_step (opt_step f6 (opt_step hB.c17 rfl))))
  · have hpos : 0 < L.length := List.length_pos_iff.2 h0
    have c2 : decide (0 < L.length ∧ 0 = 0 ∧ (0 + L.length) * 24 ≤ limit ∧ 0 + L.length ≤ 4611686018427387903) = true := decide_eq_true ⟨hpos, rfl, by unfold limit; omega, by omega⟩
    have c3 : decide ((0 + L.length + 1) * 24 ≤ limit ∧ 0 + L.length + 1 ≤ 9223372036854775807) = true := decide_eq_true ⟨by unfold limit; omega, by omega⟩
    rw [decide_eq_false (show ¬ L.length = 0 by omega), ifK_false]
    rw [lD_app, lD_app]
    refine chk_step c2 (chk_step c3 (opt_step f1 ?_))
    rw [rd_sl]
    refine chk_step c1 (chk_step (rzC_ones L) ?_)
    rw [ifK_false]
    refine chk_step c2 (chk_step c3 (opt_step f2 ?_))
    rw [rd_sl]
    refine opt_step f3 ?_
    rw [rd_sl]
    refine opt_step f4 (opt_step f5 (slc_step (opt_step f6 (opt_step hB.c17 rfl))))
theorem okf11 : okFn Tryz.prog O0 Tryz.f11 = true := by kernel_rfl
theorem mid15 (hB : Base B j) (hz : ruE (j : Int) L = 0) (hl : L.length ≤ 30) {m : Nat} (hm : m ≤ 255) : F11_15 (callOf B) LL C1 (j : Int) f L.length (rzC L) (m : Int) L.isEmpty L.length (rzC L) = some (.bool true) := by
  have hJ := (ruE_zero hz).1
  have nl : L.length ≤ 1000 := by omega
  have c1 := hB.c58 (f, ⟨L, nl⟩)
  have c2 := hB.c59 (f, ⟨L, nl⟩)
  rw [F11_15_eq (C := C1) (hC := fun _ => rfl)]
  cases hI : Infeas (j : Int) L
  · have p := (ans_ok (j : Int) (f, ⟨L, nl⟩)).n hz hI
    have f1 : callOf B 58 [.int .i64 (j : Int), lD f L] = some (.tup [.slc false (daysI (j : Int) L).length (ints (daysI (j : Int) L)), .int .i64 0]) := by rw [p] at c1; exact c1
    have f2 : callOf B 59 [.int .i64 (j : Int), lD f L] = some (.tup [.slc true 0 [], .int .i64 7]) := by rw [p] at c2; exact c2
    rw [show (daysI (j : Int) L).length = j by rw [days_row, rowF_len], days_row] at f1
    refine opt_step f1 ?_
    rw [rd_sl]
    refine opt_step f2 ?_
    rw [rd_sl, show ((0 : Int) != 0) = false from rfl, ifK_false, show ((7 : Int) != 7) = false from rfl, ifK_false, show ((j : Int) != (j : Int)) = false by simp, ifK_false, F11_255_eq (C := C1) (hC := fun _ => rfl)]
    refine chk_step (decide_eq_true ⟨by omega, by omega, by omega, by omega⟩) ?_
    rw [Int.toNat_natCast, rep_rowB]
    obtain ⟨T', t1, t2⟩ := go4090 (call := callOf B) (f := f) (fd := false) (more := (m : Int)) hz hI L 0 (fun _ => false) LL rfl (Nat.zero_le _) (by unfold LL; omega) (fun k hk => absurd hk (Nat.not_lt_zero k))
    refine t2.trans ?_
    exact go8186 hz hI hm t1 hB.c17 (fun a b => tail16 hB hz hI hl (Nat.mod_lt _ (by omega)) (Nat.mod_lt _ (by omega)) a b) j 0 LL (Nat.zero_add _) (by unfold LL; omega)
  · obtain ⟨q, g, hq, hcf, p⟩ := (ans_ok (j : Int) (f, ⟨L, nl⟩)).s hz hI
    have f1 : callOf B 58 [.int .i64 (j : Int), lD f L] = some (.tup [.slc true 0 [], .int .i64 23]) := by rw [p] at c1; exact c1
    have f2 : callOf B 59 [.int .i64 (j : Int), lD f L] = some (.tup [.slc false (rowF q g).length (ints (rowF q g)), .int .i64 0]) := by rw [p] at c2; exact c2
    have hql : (rowF q g).length ≤ 1000 := by rw [rowF_len]; omega
    have f3 := hB.c61 L.isEmpty false L (rowF q g) (rin_of hz) hql
    have f4 := hB.c60 f false L (rowF q g) nl hql
    have hce := conf_zero hz hq hcf
    rw [hce] at f3
    rw [show chkE (j : Int) L (rowF q g) = 0 by unfold chkE; rw [hz, hce]; rfl] at f4
    refine opt_step f1 ?_
    rw [rd_sl]
    refine opt_step f2 ?_
    rw [rd_sl]
    refine opt_step f3 (opt_step f4 (opt_step hB.c17 rfl))
end
theorem ok11 {f : Bool} (J : Int) (L : List Rz) (hb : L.length * 24 ≤ 140737488355328) (more : Int) (hm : 0 ≤ more ∧ more ≤ 255) : OK2 11 [.int .i64 J, lD f L, .int .u8 more] (.bool true) := by
  obtain ⟨m, rfl⟩ : ∃ m : Nat, more = (m : Int) := ⟨more.toNat, by omega⟩
  have hm' : m ≤ 255 := by omega
  by_cases hJ : 0 ≤ J
  · obtain ⟨j, rfl⟩ : ∃ j : Nat, J = (j : Int) := ⟨J.toNat, by omega⟩
    obtain ⟨B, hB, h⟩ := base_ex j
    refine fnT hB Tryz.func11 (ord := O0) (N := N11) okf11 ((F11_eq _ _ _ _ _ _ _ _).trans ?_)
    refine opt_step (h.c56 f L hb) (slc_step ?_)
    by_cases hl : L.length ≤ 30
    · rw [decide_eq_false (show ¬ (L.length : Int) > 30 by omega), ifK_false]
      refine opt_step (h.c57 _ L (by omega)) (int_step ?_)
      by_cases hz : ruE (j : Int) L = 0
      · rw [hz, show ((0 : Int) != 0) = false from rfl, ifK_false]
        exact mid15 h hz hl hm'
      · rw [show (ruE (j : Int) L != 0) = true by simpa using hz, ifK_true]
        exact opt_step h.c17 rfl
    · rw [decide_eq_true (show (L.length : Int) > 30 by omega), ifK_true]
      exact opt_step h.c17 rfl
  · obtain ⟨B, hB, e17, e56, e57, _⟩ := exF [one 17 [] (.bool true), one 56 [lD f L] (lD L.isEmpty L), ⟨57, {u : Unit // L.length ≤ 1000}, fun _ => [.int .i64 J, lD L.isEmpty L], fun _ => .int .i64 (ruE J L)⟩]
      ⟨one_good ok17 rfl, one_good (ok56 L hb) rfl, ⟨fun u => ok57 J L u.2, fun _ _ _ => rfl, fun _ => rfl⟩, trivial⟩ rfl
    refine fnT hB Tryz.func11 (ord := O0) (N := N11) okf11 ((F11_eq _ _ _ _ _ _ _ _).trans ?_)
    refine opt_step (x := lD L.isEmpty L) (e56 ()) (slc_step ?_)
    by_cases hl : L.length ≤ 30
    · rw [decide_eq_false (show ¬ (L.length : Int) > 30 by omega), ifK_false]
      refine opt_step (x := D.int .i64 (ruE J L)) (e57 ⟨(), by omega⟩) (int_step ?_)
      rw [show ruE J L = 3 by unfold ruE; rw [decide_eq_true (by omega)]; rfl, show ((3 : Int) != 0) = true from rfl, ifK_true]
      exact opt_step (x := D.bool true) (e17 ()) rfl
    · rw [decide_eq_true (show (L.length : Int) > 30 by omega), ifK_true]
      exact opt_step (x := D.bool true) (e17 ()) rfl
end Go.Pd
end
