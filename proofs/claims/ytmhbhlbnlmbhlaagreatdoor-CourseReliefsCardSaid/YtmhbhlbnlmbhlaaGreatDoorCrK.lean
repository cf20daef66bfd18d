/-
  Chapter 2: the check of a hole, and Locate, by the reference; they say the same.
  Chapter 2: the law of areas, as equations.
  CourseAreas: the plain side.
  CourseAreas: CheckHole, Locate and Length return the results or the errors of the reference.
  Chapter 2: holes as typed arguments.
  A law whose plain side asks for a bound on a slice of an argument that is a struct: the row's own reach gives it; globals are read.
-/
import Derived.Test.YtmhbhlbnlmbhlaaGreatDoorCrE
import Derived.Test.YtmhbhlbnlmbhlaaGreatDoorCrA
import Derived.KernelRfl
import Derived.Test.YtmhbhlbnlmbhlaaGreatDoorCrI
import Derived.Test.YtmhbhlbnlmbhlaaGreatDoorCrLaw
import Derived.Test.YtmhbhlbnlmbhlaaGreatDoorPdFf
import Derived.SizedLaws
section
namespace Go.Pd
open Go Go.Proofs Go.RowKit
set_option maxRecDepth 100000

theorem seqB_comm (a b : ByteArray) : seqB a b = seqB b a := Bool.beq_comm
theorem ok44 : OK2 44 [] (.slc true 6 (strsC kinds6)) := fnT none_ok Tryz.func44 (ord := O0) (N := N0) (by kernel_rfl) (F44_eq _ _ _)
theorem go29 {call : FuncId → List D → Option D} {f : Bool} {n : Nat} {v : ByteArray} : ∀ (r pre : List ByteArray) (fuel : Nat), (pre ++ r).length = n → n ≤ 1000 → r.length < fuel → F29_58 call LL C1 fuel v f n (strsC (pre ++ r)) (pre.length : Int) = some (.bool (r.any (seqB v))) := by
  intro r
  induction r with
  | nil =>
    intro pre fuel hn hB hf
    cases fuel with
    | zero => exact absurd hf (Nat.not_lt_zero _)
    | succ fuel =>
      subst hn
      rw [F29_58_eq, end_pre, ifK_false]
      rfl
  | cons x r ih =>
    intro pre fuel hn hB hf
    cases fuel with
    | zero => exact absurd hf (Nat.not_lt_zero _)
    | succ fuel =>
      have ih := ih (pre ++ [x]) fuel (by rw [app1]; exact hn) hB (by simp at hf; omega)
      rw [app1] at ih
      subst hn
      rw [F29_58_eq, lt_pre, ifK_true, in_pre, chkK_true, strs_at1, strK_str, step_pre pre x r (by omega), ih, List.any_cons, seqB_comm v x]
      show ifK (seqB x v) _ _ = _
      cases seqB x v <;> rfl
theorem ok29 (v : ByteArray) : OK2 29 [.str v] (.bool (kindB v)) := by
  obtain ⟨B, hb, e⟩ := one_call ok44 rfl
  refine fnT hb Tryz.func29 (ord := O0) (N := N29) (by kernel_rfl) ((F29_eq _ _ _ v).trans ?_)
  rw [e, optK_some, slcK_slc]
  exact go29 (f := true) (n := 6) kinds6 [] LL rfl (by omega) (by unfold LL; simp [kinds6])
def locR (h : Hl) (p : Pt) : ByteArray × Int := locV (hasR p) h.areas kinds6
theorem go25i {call : FuncId → List D → Option D} {h : Hl} {p : Pt} (h54 : ∀ a ∈ h.areas, call 54 [.slc a.2.1 a.2.2.length (ptsC a.2.2), ptD p] = some (.int .i64 (conR p (sdL a.2.2) false))) (hl : h.areas.length ≤ 1000) {kr kp : List ByteArray} {kind : ByteArray} (hk : kp ++ kind :: kr = kinds6) {n : Nat} :
    ∀ (r pre : List Ar) (fuel : Nat), pre ++ r = h.areas → r.length < fuel → F25_3730 call LL C1 n fuel true 6 (strsC kinds6) (kp.length : Int) h.name h.tee.1 h.tee.2 h.cup.1 h.cup.2 h.lf h.line.length (ptsC h.line) h.af h.areas.length (arsC h.areas) p.1 p.2 (pre.length : Int) =
      match locI (hasR p) kind r pre.length with
      | some i => some (locD (kind, (i : Int)))
      | none => F25_58 call LL C1 n h.name h.tee.1 h.tee.2 h.cup.1 h.cup.2 h.lf h.line.length (ptsC h.line) h.af h.areas.length (arsC h.areas) p.1 p.2 true 6 (strsC kinds6) ((kp.length + 1 : Nat) : Int) := by
  have hkl : kp.length < 6 := by
    have := congrArg List.length hk
    simp [kinds6] at this
    omega
  intro r
  induction r with
  | nil =>
    intro pre fuel hn hf
    cases fuel with
    | zero => exact absurd hf (Nat.not_lt_zero _)
    | succ fuel =>
      have hlen : pre.length = h.areas.length := by rw [← hn]; simp
      rw [F25_3730_eq, hlen, nlt_nat, ifK_false, show IntKind.wrap .i64 ((kp.length : Int) + 1) = ((kp.length + 1 : Nat) : Int) from wrap_add _ 1 (by omega)]
      rfl
  | cons x r ih =>
    intro pre fuel hn hf
    cases fuel with
    | zero => exact absurd hf (Nat.not_lt_zero _)
    | succ fuel =>
      have ih := ih (pre ++ [x]) fuel (by rw [app1]; exact hn) (by simp at hf; omega)
      rw [List.length_append, List.length_singleton] at ih
      have hlt : pre.length < h.areas.length := by rw [← hn]; simp
      have e : call 54 [.slc x.2.1 x.2.2.length (ptsC x.2.2), .agg [.int .i64 p.1, .int .i64 p.2]] = _ := h54 x (by rw [← hn]; simp)
      have c0 : ∀ k : D → Option D, cellK (arsC h.areas) (Int.toNat (pre.length : Int) * 2 + 0) k = k (.str x.1) := fun k => by rw [← hn]; exact a0 pre x r
      have c1' : ∀ k : D → Option D, cellK (arsC h.areas) (Int.toNat (pre.length : Int) * 2 + 1) k = k (.slc x.2.1 x.2.2.length (ptsC x.2.2)) := fun k => by rw [← hn]; exact a1 pre x r
      have ck : ∀ k : D → Option D, cellK (strsC kinds6) (Int.toNat (kp.length : Int) * 1) k = k (.str kind) := fun k => by rw [← hk]; exact strs_at1
      have dk : decide ((0 : Int) ≤ ((kp.length : Nat) : Int) ∧ ((kp.length : Nat) : Int) < ((6 : Nat) : Int)) = true := in_nat hkl
      rw [F25_3730_eq, lt_nat hlt, ifK_true, in_nat hlt, chkK_true, c0, strK_str, dk, chkK_true, ck, strK_str, chkK_true, c1', slcK_slc, e, optK_some, intK_int, chkK_true, ck, strK_str, show IntKind.wrap .i64 ((pre.length : Int) + 1) = ((pre.length + 1 : Nat) : Int) from wrap_add _ 1 (by omega), ih]
      rw [show locI (hasR p) kind (x :: r) pre.length = ifK (seqB x.1 kind) (ifK (hasR p x) (some pre.length) (locI (hasR p) kind r (pre.length + 1))) (locI (hasR p) kind r (pre.length + 1)) from rfl]
      show ifK (seqB x.1 kind) (ifK (hasR p x) _ _) _ = _
      cases seqB x.1 kind
      · rfl
      · cases hasR p x <;> rfl
theorem go25 {call : FuncId → List D → Option D} {h : Hl} {p : Pt} (h54 : ∀ a ∈ h.areas, call 54 [.slc a.2.1 a.2.2.length (ptsC a.2.2), ptD p] = some (.int .i64 (conR p (sdL a.2.2) false))) (hl : h.areas.length ≤ 1000) :
    ∀ (r pre : List ByteArray) (fuel : Nat), pre ++ r = kinds6 → r.length < fuel → F25_58 call LL C1 fuel h.name h.tee.1 h.tee.2 h.cup.1 h.cup.2 h.lf h.line.length (ptsC h.line) h.af h.areas.length (arsC h.areas) p.1 p.2 true 6 (strsC kinds6) (pre.length : Int) = some (locD (locV (hasR p) h.areas r)) := by
  intro r
  induction r with
  | nil =>
    intro pre fuel hn hf
    cases fuel with
    | zero => exact absurd hf (Nat.not_lt_zero _)
    | succ fuel =>
      have hlen : pre.length = 6 := by
        have := congrArg List.length hn
        simpa [kinds6] using this
      rw [F25_58_eq, hlen, nlt_nat, ifK_false]
      rfl
  | cons x r ih =>
    intro pre fuel hn hf
    cases fuel with
    | zero => exact absurd hf (Nat.not_lt_zero _)
    | succ fuel =>
      have ih := ih (pre ++ [x]) fuel (by rw [app1]; exact hn) (by simp at hf; omega)
      rw [List.length_append, List.length_singleton] at ih
      have hlt : pre.length < 6 := by
        have := congrArg List.length hn
        simp [kinds6] at this
        omega
      have hi := go25i h54 hl hn (n := fuel) h.areas [] LL rfl (by unfold LL; omega)
      rw [show (([] : List Ar).length : Int) = 0 from rfl, show ([] : List Ar).length = 0 from rfl, ih] at hi
      rw [F25_58_eq, lt_nat hlt, ifK_true, hi]
      rw [show locV (hasR p) h.areas (x :: r) = (match locI (hasR p) x h.areas 0 with | some i => (x, (i : Int)) | none => locV (hasR p) h.areas r) from rfl]
      cases locI (hasR p) x h.areas 0 <;> rfl
theorem ok25 (h : Hl) (hk : h.Ok) (p : Pt) : OK2 25 [holeD h, ptD p] (locD (locR h p)) := by
  obtain ⟨B, hb, e44, e54, _⟩ := exF [one 44 [] (.slc true 6 (strsC kinds6)), ⟨54, {a : Ar // a ∈ h.areas}, fun a => [.slc a.1.2.1 a.1.2.2.length (ptsC a.1.2.2), ptD p], fun a => .int .i64 (conR p (sdL a.1.2.2) false)⟩]
    ⟨one_good ok44 rfl, ⟨fun a => ok54 a.1.2.2 p (hk.c a.1 a.2), fun x y e => by
      have e : [D.slc x.1.2.1 x.1.2.2.length (ptsC x.1.2.2), ptD p] = [D.slc y.1.2.1 y.1.2.2.length (ptsC y.1.2.2), ptD p] := e
      simp only [List.cons.injEq, D.slc.injEq, and_true] at e
      show D.int .i64 (conR p (sdL x.1.2.2) false) = .int .i64 (conR p (sdL y.1.2.2) false)
      rw [ptsC_inj e.2.2], fun _ => rfl⟩, trivial⟩ rfl
  refine fnT hb Tryz.func25 (ord := O0) (N := N25) (by kernel_rfl) ((F25_eq _ _ _ h.name h.tee.1 h.tee.2 h.cup.1 h.cup.2 h.lf h.line.length (ptsC h.line) h.af h.areas.length (arsC h.areas) p.1 p.2).trans ?_)
  have f44 : callOf B 44 [] = some (.slc true 6 (strsC kinds6)) := e44 ()
  rw [f44, optK_some, slcK_slc]
  exact go25 (fun a ha => e54 ⟨a, ha⟩) hk.a kinds6 [] LL rfl (by unfold LL; simp [kinds6])

/-! ### The check -/
def arsR (t : Int) : List Ar → Int
  | [] => t
  | a :: r => ifK (!kindB a.1) 13 (ifK (refErr a.2.2 != 0) (refErr a.2.2) (arsR t r))
def refHole (h : Hl) : Int := ifK (!nameV h.name) 8 (ifK (outP h.tee) 3 (ifK (outP h.cup) 3 (ifK (decide ((h.line.length : Int) > 16)) 5 (ifK (h.line.any outP) 3 (ifK (decide ((h.areas.length : Int) > 32)) 5 (arsR (endE (locR h h.tee).1 (locR h h.cup).1) h.areas))))))
theorem go18a {call : FuncId → List D → Option D} {h : Hl} (hk : h.Ok) (h29 : ∀ v, call 29 [.str v] = some (.bool (kindB v))) (h49 : ∀ a ∈ h.areas, call 49 [.slc a.2.1 a.2.2.length (ptsC a.2.2)] = some (.int .i64 (refErr a.2.2)))
    (h25 : ∀ p, call 25 [holeD h, ptD p] = some (locD (locR h p))) :
    ∀ (r pre : List Ar) (fuel : Nat), pre ++ r = h.areas → r.length < fuel → F18_1018 call LL C1 fuel h.name h.tee.1 h.tee.2 h.cup.1 h.cup.2 h.lf h.line.length (ptsC h.line) h.af h.areas.length (arsC h.areas) (pre.length : Int) = some (.int .i64 (arsR (endE (locR h h.tee).1 (locR h h.cup).1) r)) := by
  intro r
  have hal := hk.a
  induction r with
  | nil =>
    intro pre fuel hn hf
    cases fuel with
    | zero => exact absurd hf (Nat.not_lt_zero _)
    | succ fuel =>
      have hlen : pre.length = h.areas.length := by rw [← hn]; simp
      have rd : ∀ (x : ByteArray × Int) (k : ByteArray → Int → Option D), (tupK (locD x) 2 fun c => cellK c 0 fun d => strK d fun s => cellK c 1 fun d' => intK .i64 d' fun y => k s y) = k x.1 x.2 := fun _ _ => rfl
      have ht : call 25 [holeD h, .agg [.int .i64 h.tee.1, .int .i64 h.tee.2]] = _ := h25 h.tee
      have hc : call 25 [holeD h, .agg [.int .i64 h.cup.1, .int .i64 h.cup.2]] = _ := h25 h.cup
      rw [F18_1018_eq, hlen, nlt_nat, ifK_false, ht, optK_some, rd, hc, optK_some, rd]
      rw [show arsR (endE (locR h h.tee).1 (locR h h.cup).1) [] = endE (locR h h.tee).1 (locR h h.cup).1 from rfl]
      unfold endE seqB waterS outS greenS
      generalize (ByteArray.toList (locR h h.tee).1 == ByteArray.toList (ByteArray.mk #[119, 97, 116, 101, 114])) = b1
      generalize (ByteArray.toList (locR h h.tee).1 == ByteArray.toList (ByteArray.mk #[111, 117, 116])) = b2
      generalize (ByteArray.toList (locR h h.cup).1 == ByteArray.toList (ByteArray.mk #[103, 114, 101, 101, 110])) = b3
      cases b1 <;> cases b2 <;> cases b3 <;> rfl
  | cons x r ih =>
    intro pre fuel hn hf
    cases fuel with
    | zero => exact absurd hf (Nat.not_lt_zero _)
    | succ fuel =>
      have ih := ih (pre ++ [x]) fuel (by rw [app1]; exact hn) (by simp at hf; omega)
      rw [List.length_append, List.length_singleton] at ih
      have hlt : pre.length < h.areas.length := by rw [← hn]; simp
      have c0 : ∀ k : D → Option D, cellK (arsC h.areas) (Int.toNat (pre.length : Int) * 2 + 0) k = k (.str x.1) := fun k => by rw [← hn]; exact a0 pre x r
      have c1' : ∀ k : D → Option D, cellK (arsC h.areas) (Int.toNat (pre.length : Int) * 2 + 1) k = k (.slc x.2.1 x.2.2.length (ptsC x.2.2)) := fun k => by rw [← hn]; exact a1 pre x r
      rw [F18_1018_eq, lt_nat hlt, ifK_true, in_nat hlt, chkK_true, c0, strK_str, h29, optK_some, boolK_bool, chkK_true, c1', slcK_slc, h49 x (by rw [← hn]; simp), optK_some, intK_int,
        show IntKind.wrap .i64 ((pre.length : Int) + 1) = ((pre.length + 1 : Nat) : Int) from wrap_add _ 1 (by omega), ih]
      rw [show arsR (endE (locR h h.tee).1 (locR h h.cup).1) (x :: r) = ifK (!kindB x.1) 13 (ifK (refErr x.2.2 != 0) (refErr x.2.2) (arsR (endE (locR h h.tee).1 (locR h h.cup).1) r)) from rfl]
      cases kindB x.1
      · rfl
      · cases refErr x.2.2 != 0 <;> rfl
theorem ne3 (b : Bool) : (ifK b (3 : Int) 0 != 0) = b := by cases b <;> rfl
theorem go18l {call : FuncId → List D → Option D} (h24 : ∀ p, call 24 [ptD p] = some (.int .i64 (ifK (outP p) 3 0))) {h : Hl} (hk : h.Ok) : ∀ (r pre : List Pt) (fuel : Nat), pre ++ r = h.line → r.length < fuel →
    F18_250 call LL C1 fuel h.name h.tee.1 h.tee.2 h.cup.1 h.cup.2 h.lf h.line.length (ptsC h.line) h.af h.areas.length (arsC h.areas) (pre.length : Int) = ifK (r.any outP) (some (.int .i64 3)) (ifK (decide ((h.areas.length : Int) > 32)) (some (.int .i64 5)) (F18_1018 call LL C1 LL h.name h.tee.1 h.tee.2 h.cup.1 h.cup.2 h.lf h.line.length (ptsC h.line) h.af h.areas.length (arsC h.areas) 0)) := by
  intro r
  have hal := hk.l
  induction r with
  | nil =>
    intro pre fuel hn hf
    cases fuel with
    | zero => exact absurd hf (Nat.not_lt_zero _)
    | succ fuel =>
      have hlen : pre.length = h.line.length := by rw [← hn]; simp
      rw [F18_250_eq, hlen, nlt_nat, ifK_false]
      rfl
  | cons x r ih =>
    intro pre fuel hn hf
    cases fuel with
    | zero => exact absurd hf (Nat.not_lt_zero _)
    | succ fuel =>
      have ih := ih (pre ++ [x]) fuel (by rw [app1]; exact hn) (by simp at hf; omega)
      rw [List.length_append, List.length_singleton] at ih
      have hlt : pre.length < h.line.length := by rw [← hn]; simp
      have e : call 24 [D.agg [.int .i64 x.1, .int .i64 x.2]] = _ := h24 x
      have c0 : ∀ k : D → Option D, cellK (ptsC h.line) (Int.toNat (pre.length : Int) * 2 + 0) k = k (.int .i64 x.1) := fun k => by rw [← hn]; exact q0 pre x r
      have c1' : ∀ k : D → Option D, cellK (ptsC h.line) (Int.toNat (pre.length : Int) * 2 + 1) k = k (.int .i64 x.2) := fun k => by rw [← hn]; exact q1 pre x r
      rw [F18_250_eq, lt_nat hlt, ifK_true, in_nat hlt, chkK_true, c0, intK_int, c1', intK_int, e, optK_some, intK_int, ne3, show IntKind.wrap .i64 ((pre.length : Int) + 1) = ((pre.length + 1 : Nat) : Int) from wrap_add _ 1 (by omega), ih, List.any_cons]
      cases outP x <;> rfl
theorem ok18 (h : Hl) (hk : h.Ok) : OK2 18 [holeD h] (.int .i64 (refHole h)) := by
  obtain ⟨B, hb, e75, e24, e29, e49, e25, _⟩ := exF [one 75 [.str h.name] (.bool (nameV h.name)), famP 24 fun p => .int .i64 (ifK (outP p) 3 0), ⟨29, ByteArray, fun v => [.str v], fun v => .bool (kindB v)⟩,
      ⟨49, {a : Ar // a ∈ h.areas}, fun a => [.slc a.1.2.1 a.1.2.2.length (ptsC a.1.2.2)], fun a => .int .i64 (refErr a.1.2.2)⟩, ⟨25, Pt, fun p => [holeD h, ptD p], fun p => locD (locR h p)⟩]
    ⟨one_good (ok75 h.name) rfl, famP_good ok24 (fun _ => rfl), ⟨fun v => ok29 v, fun (x y : ByteArray) e => by
        have e : [D.str x] = [D.str y] := e
        cases e
        rfl, fun _ => rfl⟩, ⟨fun a => ok49 a.1.2.2 (hk.c a.1 a.2), fun x y e => by
        have e : [D.slc x.1.2.1 x.1.2.2.length (ptsC x.1.2.2)] = [D.slc y.1.2.1 y.1.2.2.length (ptsC y.1.2.2)] := e
        simp only [List.cons.injEq, D.slc.injEq, and_true] at e
        show D.int .i64 (refErr x.1.2.2) = .int .i64 (refErr y.1.2.2)
        rw [ptsC_inj e.2.2], fun _ => rfl⟩, ⟨fun p => ok25 h hk p, fun x y e => by
        have e : [holeD h, ptD x] = [holeD h, ptD y] := e
        simp only [List.cons.injEq, true_and, and_true] at e
        show locD (locR h x) = locD (locR h y)
        rw [ptD_inj e], fun _ => rfl⟩, trivial⟩ rfl
  refine fnT hb Tryz.func18 (ord := O0) (N := N18) (by kernel_rfl) ((F18_eq _ _ _ h.name h.tee.1 h.tee.2 h.cup.1 h.cup.2 h.lf h.line.length (ptsC h.line) h.af h.areas.length (arsC h.areas)).trans ?_)
  have f75 : callOf B 75 [.str h.name] = some (.bool (nameV h.name)) := e75 ()
  have ft : callOf B 24 [.agg [.int .i64 h.tee.1, .int .i64 h.tee.2]] = some (.int .i64 (ifK (outP h.tee) 3 0)) := e24 h.tee
  have fc : callOf B 24 [.agg [.int .i64 h.cup.1, .int .i64 h.cup.2]] = some (.int .i64 (ifK (outP h.cup) 3 0)) := e24 h.cup
  have hl := go18l (call := callOf B) (fun p => e24 p) hk h.line [] LL rfl (by have := hk.l; unfold LL; omega)
  have ha := go18a (call := callOf B) hk (fun v => e29 v) (fun a ha => e49 ⟨a, ha⟩) (fun p => e25 p) h.areas [] LL rfl (by have := hk.a; unfold LL; omega)
  rw [show (([] : List Ar).length : Int) = 0 from rfl] at ha
  rw [show (([] : List Pt).length : Int) = 0 from rfl, ha] at hl
  rw [f75, optK_some, boolK_bool, ft, optK_some, intK_int, ne3, fc, optK_some, intK_int, ne3, F18_15_eq _ _ _ _ _ _ _ _ _ _ _ _ _ _ c1, hl]
  unfold refHole
  cases nameV h.name
  · rfl
  · cases outP h.tee
    · cases outP h.cup
      · cases decide ((h.line.length : Int) > 16)
        · cases h.line.any outP
          · cases decide ((h.areas.length : Int) > 32) <;> rfl
          · rfl
        · rfl
      · rfl
    · rfl

/-! ### The same -/
theorem loc_same {h : Hl} {p : Pt} (hp : outP p = false) (ha : ∀ a ∈ h.areas, a.2.2.any outP = false) : locP h p = locR h p :=
  locV_congr (fun a hm => by
    unfold hasA hasR
    rw [con_same (ha a hm) hp]) kinds6
theorem first_two (x y : Int) : firstZ [x, y] = ifK (x != 0) x (ifK (y != 0) y 0) := rfl
theorem arE_eq (a : Ar) : arE a = ifK (!kindB a.1) 13 (refErr a.2.2) := by
  unfold arE
  rw [first_two, poly_same]
  generalize refErr a.2.2 = z
  cases kindB a.1
  · rfl
  · cases hz : z != 0
    · have : z = 0 := by simpa using hz
      subst this
      rfl
    · rfl
theorem arsE_zero : ∀ {l : List Ar}, arsE l = 0 → ∀ a ∈ l, kindB a.1 = true ∧ polErr a.2.2 = 0
  | [], _, a, h => by cases h
  | x :: r, h, a, ha => by
    rw [show arsE (x :: r) = ifK (arE x != 0) (arE x) (arsE r) from rfl] at h
    cases hx : arE x != 0
    · have hx0 : arE x = 0 := by simpa using hx
      rw [hx, ifK_false] at h
      rcases List.mem_cons.1 ha with rfl | ha
      · rw [arE_eq] at hx0
        cases hk : kindB a.1
        · rw [hk] at hx0; cases hx0
        · rw [hk] at hx0
          exact ⟨rfl, by rw [poly_same]; exact hx0⟩
      · exact arsE_zero h a ha
    · rw [hx, ifK_true] at h
      rw [h] at hx
      cases hx
theorem arsR_eq (t : Int) : ∀ l : List Ar, arsR t l = ifK (arsE l != 0) (arsE l) t
  | [] => rfl
  | a :: r => by
    rw [show arsR t (a :: r) = ifK (!kindB a.1) 13 (ifK (refErr a.2.2 != 0) (refErr a.2.2) (arsR t r)) from rfl, show arsE (a :: r) = ifK (arE a != 0) (arE a) (arsE r) from rfl, arE_eq, arsR_eq t r]
    generalize refErr a.2.2 = z
    cases kindB a.1
    · rfl
    · show ifK (z != 0) z _ = ifK ((ifK (z != 0) z (arsE r)) != 0) (ifK (z != 0) z (arsE r)) t
      cases hz : z != 0
      · rfl
      · show z = ifK (z != 0) z t
        rw [hz]
        rfl
theorem hole_same (h : Hl) : holeE h = refHole h := by
  unfold holeE refHole
  rw [arsR_eq]
  have hpre : preE h = ifK (!nameV h.name) 8 (ifK (outP h.tee) 3 (ifK (outP h.cup) 3 (ifK (decide ((h.line.length : Int) > 16)) 5 (ifK (h.line.any outP) 3 (ifK (decide ((h.areas.length : Int) > 32)) 5 0))))) := by
    unfold preE
    rw [show [h.tee, h.cup].any outP = (outP h.tee || (outP h.cup || false)) by simp]
    cases nameV h.name <;> cases outP h.tee <;> cases outP h.cup <;> cases decide ((h.line.length : Int) > 16) <;> cases h.line.any outP <;> cases decide ((h.areas.length : Int) > 32) <;> rfl
  rw [hpre]
  cases nameV h.name
  · rfl
  · cases ht : outP h.tee
    · cases hc : outP h.cup
      · cases decide ((h.line.length : Int) > 16)
        · cases h.line.any outP
          · cases decide ((h.areas.length : Int) > 32)
            · show ifK (arsE h.areas != 0) (arsE h.areas) _ = ifK (arsE h.areas != 0) (arsE h.areas) _
              cases hz : arsE h.areas != 0
              · have h0 : arsE h.areas = 0 := by simpa using hz
                have hall : ∀ a ∈ h.areas, a.2.2.any outP = false := fun a ha => (polErr_zero (arsE_zero h0 a ha).2).2.2.1
                rw [ifK_false, ifK_false, loc_same ht hall, loc_same hc hall]
              · rfl
            · rfl
          · rfl
        · rfl
      · rfl
    · rfl
end Go.Pd
end

section
namespace Go.Pd
open Go Go.Proofs
set_option maxRecDepth 100000
def N15 : NTab := fun p => match p with
  | 58 => some { keep := [2, 3, 16, 17, 18], kl := [1, 5], ren := [(1, 1), (2, 2), (3, 3), (5, 5), (26, 26)] }
  | _ => none
noncomputable def F15_58 (call : FuncId → List D → Option D) (L : Nat) (C : Nat → Nat) (n : Nat) (vh6_f : Bool) (vh6_n : Nat) (vh6_c : List D) (vh0 : ByteArray) (vh1 : Int) (vh2 : Int) (vh3 : Int) (vh4 : Int) (vh5_f : Bool) (vh5_n : Nat) (vh5_c : List D) (t17 : Int) (t18 : Int) (vout6 : Ow) : Option D :=
  loopAt (TEf call L C) O0 N15 FinM.canon Tryz.f15 [true, true, false, true, false] []  n (St.mk [J, J, D.loc 2 0 0, D.loc 3 0 0, J, J, J, J, J, J, J, J, J, J, J, J, D.slc vh6_f vh6_n vh6_c, D.int IntKind.i64 t17, D.int IntKind.i64 t18, J, J, J, J, J, J, J, J, J, J, J] [Z, Z, (1, some (Ob.box [D.str (ByteArray.mk #[]), D.int IntKind.i64 0, D.int IntKind.i64 0, D.int IntKind.i64 0, D.int IntKind.i64 0, D.nils, D.nils] false)), (1, some (Ob.box [D.str vh0, D.int IntKind.i64 vh1, D.int IntKind.i64 vh2, D.int IntKind.i64 vh3, D.int IntKind.i64 vh4, D.slc vh5_f vh5_n vh5_c, ownD 26 vout6] false)), Z, Z, Z, Z, Z, Z, Z, Z, Z, Z, Z, Z, Z, Z, Z, Z, Z, Z, Z, Z, Z, Z, ownO 133 2 vout6, Z, Z, Z])
theorem F15_58_eqn (call : FuncId → List D → Option D) (L : Nat) (C : Nat → Nat) (n : Nat) (vh6_f : Bool) (vh6_n : Nat) (vh6_c : List D) (vh0 : ByteArray) (vh1 : Int) (vh2 : Int) (vh3 : Int) (vh4 : Int) (vh5_f : Bool) (vh5_n : Nat) (vh5_c : List D) (t17 : Int) (t18 : Int) : F15_58 call L C  (n + 1) vh6_f vh6_n vh6_c vh0 vh1 vh2 vh3 vh4 vh5_f vh5_n vh5_c (t17) (t18) (Ow.nil) =
  (ifK (decide (t18 < t17))
    (chkK (decide (0 ≤ t18 ∧ t18 < (vh6_n : Int)))
      (cellK (vh6_c) (Int.toNat t18 * 2 + 0) fun d =>
      (strK (d) fun s =>
      (cellK (vh6_c) (Int.toNat t18 * 2 + 1) fun d_1 =>
      (slcK (d_1) fun f n_1 c =>
      (F15_58 call L C n vh6_f vh6_n vh6_c vh0 vh1 vh2 vh3 vh4 vh5_f vh5_n vh5_c (t17) (IntKind.wrap IntKind.i64 (t18 + 1)) (Ow.own 1 [D.str s, D.slc f n_1 c])))))))
    (some (D.agg [D.str vh0, D.int IntKind.i64 vh1, D.int IntKind.i64 vh2, D.int IntKind.i64 vh3, D.int IntKind.i64 vh4, D.slc vh5_f vh5_n vh5_c, D.slc true 0 []]))) := by kernel_rfl
theorem F15_58_eqo (call : FuncId → List D → Option D) (L : Nat) (C : Nat → Nat) (n : Nat) (vh6_f : Bool) (vh6_n : Nat) (vh6_c : List D) (vh0 : ByteArray) (vh1 : Int) (vh2 : Int) (vh3 : Int) (vh4 : Int) (vh5_f : Bool) (vh5_n : Nat) (vh5_c : List D) (t17 : Int) (t18 : Int) (vout6_n : Nat) (vout6_c : List D) : F15_58 call L C  (n + 1) vh6_f vh6_n vh6_c vh0 vh1 vh2 vh3 vh4 vh5_f vh5_n vh5_c (t17) (t18) (Ow.own vout6_n vout6_c) =
  (ifK (decide (t18 < t17))
    (chkK (decide (0 ≤ t18 ∧ t18 < (vh6_n : Int)))
      (cellK (vh6_c) (Int.toNat t18 * 2 + 0) fun d_2 =>
      (strK (d_2) fun s_1 =>
      (cellK (vh6_c) (Int.toNat t18 * 2 + 1) fun d_3 =>
      (slcK (d_3) fun f_1 n_2 c_1 =>
      (chkK (decide ((vout6_n + 1) * 40 ≤ limit ∧ vout6_n + 1 ≤ 9223372036854775807))
        (F15_58 call L C n vh6_f vh6_n vh6_c vh0 vh1 vh2 vh3 vh4 vh5_f vh5_n vh5_c (t17) (IntKind.wrap IntKind.i64 (t18 + 1)) (Ow.own (vout6_n + 1) (vout6_c ++ [D.str s_1, D.slc f_1 n_2 c_1])))))))))
    (some (D.agg [D.str vh0, D.int IntKind.i64 vh1, D.int IntKind.i64 vh2, D.int IntKind.i64 vh3, D.int IntKind.i64 vh4, D.slc vh5_f vh5_n vh5_c, D.slc false vout6_n vout6_c]))) := by kernel_rfl
theorem F15_eq (call : FuncId → List D → Option D) (L : Nat) (C : Nat → Nat) (vh0 : ByteArray) (vh1 : Int) (vh2 : Int) (vh3 : Int) (vh4 : Int) (vh5_f : Bool) (vh5_n : Nat) (vh5_c : List D) (vh6_f : Bool) (vh6_n : Nat) (vh6_c : List D) : evFnT (TEf call L C) O0 N15 FinM.canon Tryz.f15 [D.agg [D.str vh0, D.int IntKind.i64 vh1, D.int IntKind.i64 vh2, D.int IntKind.i64 vh3, D.int IntKind.i64 vh4, D.slc vh5_f vh5_n vh5_c, D.slc vh6_f vh6_n vh6_c]] =
  (F15_58 call L C L vh6_f vh6_n vh6_c vh0 vh1 vh2 vh3 vh4 vh5_f vh5_n vh5_c ((vh6_n : Int)) (0) (Ow.nil)) := by kernel_rfl

def N16 : NTab := fun p => match p with
  | 7 => some { keep := [2, 3], kl := [], ren := [(3, 3)] }
  | 58 => some { keep := [2, 3, 7], kl := [], ren := [(3, 3)] }
  | _ => none
noncomputable def F16_58 (call : FuncId → List D → Option D) (L : Nat) (C : Nat → Nat) (n_1 : Nat) (vcorners : Int) (vh0 : ByteArray) (vh1 : Int) (vh2 : Int) (vh3 : Int) (vh4 : Int) (vh5_f : Bool) (vh5_n : Nat) (vh5_c : List D) (vh6_f : Bool) (vh6_n : Nat) (vh6_c : List D) (vi : Int) : Option D :=
  loopAt (TEf call L C) O0 N16 FinM.canon Tryz.f16 [true, true, false, true, false] []  n_1 (St.mk [J, J, D.int IntKind.i64 vcorners, D.loc 3 0 0, J, J, J, D.int IntKind.i64 vi, J, J, J, J, J, J, J, J, J, J, J, J, J, J, J, J, J, J, J, J, J, J, J, J, J, J, J, J, J, J, J, J, J, J, J, J, J, J, J, J, J, J, J, J, J, J, J, J, J, J, J, J, J, J, J, J, J, J, J, J, J, J, J, J, J] [Z, Z, Z, (1, some (Ob.box [D.str vh0, D.int IntKind.i64 vh1, D.int IntKind.i64 vh2, D.int IntKind.i64 vh3, D.int IntKind.i64 vh4, D.slc vh5_f vh5_n vh5_c, D.slc vh6_f vh6_n vh6_c] false)), Z, Z, Z, Z, Z, Z, Z, Z, Z, Z, Z, Z, Z, Z, Z, Z, Z, Z, Z, Z, Z, Z, Z, Z, Z, Z, Z, Z, Z, Z, Z, Z, Z, Z, Z, Z, Z, Z, Z, Z, Z, Z, Z, Z, Z, Z, Z, Z, Z, Z, Z, Z, Z, Z, Z, Z, Z, Z, Z, Z, Z, Z, Z, Z, Z, Z, Z, Z, Z])
noncomputable def F16_7 (call : FuncId → List D → Option D) (L : Nat) (C : Nat → Nat) (vcorners : Int) (vh0 : ByteArray) (vh1 : Int) (vh2 : Int) (vh3 : Int) (vh4 : Int) (vh5_f : Bool) (vh5_n : Nat) (vh5_c : List D) (vh6_f : Bool) (vh6_n : Nat) (vh6_c : List D) : Option D :=
  cutAt (TEf call L C) O0 N16 FinM.canon Tryz.f16 [true, true] []  (C 7) (St.mk [J, J, D.int IntKind.i64 vcorners, D.loc 3 0 0, J, J, J, J, J, J, J, J, J, J, J, J, J, J, J, J, J, J, J, J, J, J, J, J, J, J, J, J, J, J, J, J, J, J, J, J, J, J, J, J, J, J, J, J, J, J, J, J, J, J, J, J, J, J, J, J, J, J, J, J, J, J, J, J, J, J, J, J, J] [Z, Z, Z, (1, some (Ob.box [D.str vh0, D.int IntKind.i64 vh1, D.int IntKind.i64 vh2, D.int IntKind.i64 vh3, D.int IntKind.i64 vh4, D.slc vh5_f vh5_n vh5_c, D.slc vh6_f vh6_n vh6_c] false)), Z, Z, Z, Z, Z, Z, Z, Z, Z, Z, Z, Z, Z, Z, Z, Z, Z, Z, Z, Z, Z, Z, Z, Z, Z, Z, Z, Z, Z, Z, Z, Z, Z, Z, Z, Z, Z, Z, Z, Z, Z, Z, Z, Z, Z, Z, Z, Z, Z, Z, Z, Z, Z, Z, Z, Z, Z, Z, Z, Z, Z, Z, Z, Z, Z, Z, Z, Z, Z])
theorem F16_58_eq (call : FuncId → List D → Option D) (L : Nat) (C : Nat → Nat) (n_1 : Nat) (vcorners : Int) (vh0 : ByteArray) (vh1 : Int) (vh2 : Int) (vh3 : Int) (vh4 : Int) (vh5_f : Bool) (vh5_n : Nat) (vh5_c : List D) (vh6_f : Bool) (vh6_n : Nat) (vh6_c : List D) (vi : Int) : F16_58 call L C  (n_1 + 1) vcorners vh0 vh1 vh2 vh3 vh4 vh5_f vh5_n vh5_c vh6_f vh6_n vh6_c (vi) =
  (ifK (decide (vi < (vh6_n : Int)))
    (chkK (decide (0 ≤ vi ∧ vi < (vh6_n : Int)))
      (cellK (vh6_c) (Int.toNat vi * 2 + 1) fun d =>
      (slcK (d) fun _f n_2 _c =>
      (chkK (decide (0 ≤ vi ∧ vi < (vh6_n : Int)))
        (cellK (vh6_c) (Int.toNat vi * 2 + 0) fun d_1 =>
        (strK (d_1) fun s =>
        (ifK (decide (((ByteArray.size s) : Int) > 60))
          (some (D.bool false))
          (ifK (decide ((n_2 : Int) > vcorners))
            (ifK (decide ((n_2 : Int) ≤ 64))
              (some (D.bool false))
              (ifK (decide ((n_2 : Int) > 67))
                (some (D.bool false))
                (F16_58 call L C n_1 vcorners vh0 vh1 vh2 vh3 vh4 vh5_f vh5_n vh5_c vh6_f vh6_n vh6_c (IntKind.wrap IntKind.i64 (vi + 1)))))
            (ifK (decide ((n_2 : Int) > 67))
              (some (D.bool false))
              (F16_58 call L C n_1 vcorners vh0 vh1 vh2 vh3 vh4 vh5_f vh5_n vh5_c vh6_f vh6_n vh6_c (IntKind.wrap IntKind.i64 (vi + 1))))))))))))
    (some (D.bool true))) := by kernel_rfl
theorem F16_7_eq (call : FuncId → List D → Option D) (L : Nat) (C : Nat → Nat) (vcorners : Int) (vh0 : ByteArray) (vh1 : Int) (vh2 : Int) (vh3 : Int) (vh4 : Int) (vh5_f : Bool) (vh5_n : Nat) (vh5_c : List D) (vh6_f : Bool) (vh6_n : Nat) (vh6_c : List D) (hC : ∀ t, C t = 1) : F16_7 call L C  vcorners vh0 vh1 vh2 vh3 vh4 vh5_f vh5_n vh5_c vh6_f vh6_n vh6_c  =
  (F16_58 call L C L vcorners vh0 vh1 vh2 vh3 vh4 vh5_f vh5_n vh5_c vh6_f vh6_n vh6_c (0)) := by
  unfold F16_7
  rw [hC]
  kernel_rfl
theorem F16_eq (call : FuncId → List D → Option D) (L : Nat) (C : Nat → Nat) (vh0 : ByteArray) (vh1 : Int) (vh2 : Int) (vh3 : Int) (vh4 : Int) (vh5_f : Bool) (vh5_n : Nat) (vh5_c : List D) (vh6_f : Bool) (vh6_n : Nat) (vh6_c : List D) (vareas : Int) (vcorners : Int) : evFnT (TEf call L C) O0 N16 FinM.canon Tryz.f16 [D.agg [D.str vh0, D.int IntKind.i64 vh1, D.int IntKind.i64 vh2, D.int IntKind.i64 vh3, D.int IntKind.i64 vh4, D.slc vh5_f vh5_n vh5_c, D.slc vh6_f vh6_n vh6_c], D.int IntKind.i64 vareas, D.int IntKind.i64 vcorners] =
  (ifK (decide (((ByteArray.size vh0) : Int) > 60))
    (some (D.bool false))
    (ifK (decide ((vh5_n : Int) > 19))
      (some (D.bool false))
      (ifK (decide ((vh6_n : Int) > vareas))
        (ifK (decide ((vh6_n : Int) ≤ 32))
          (some (D.bool false))
          (ifK (decide ((vh6_n : Int) > 35))
            (some (D.bool false))
            (F16_7 call L C vcorners vh0 vh1 vh2 vh3 vh4 vh5_f vh5_n vh5_c vh6_f vh6_n vh6_c)))
        (ifK (decide ((vh6_n : Int) > 35))
          (some (D.bool false))
          (F16_7 call L C vcorners vh0 vh1 vh2 vh3 vh4 vh5_f vh5_n vh5_c vh6_f vh6_n vh6_c))))) := by kernel_rfl

def N3 : NTab := fun p => match p with
  | 255 => some { keep := [3, 5, 6, 7, 8, 9, 10], kl := [2], ren := [(2, 2), (3, 3), (5, 5)] }
  | 1023 => some { keep := [3, 5, 6, 7, 8, 9, 10, 12], kl := [2], ren := [(2, 2), (3, 3), (5, 5)] }
  | _ => none
noncomputable def F3_1023 (call : FuncId → List D → Option D) (L : Nat) (C : Nat → Nat) (vbad : Int) (vk : ByteArray) (vn : Int) (ve1 : Int) (vl : Int) (vp0 : Int) (vp1 : Int) (vx : ByteArray) (vx1 : Int) (vx2 : Int) (vx3 : Int) (vx4 : Int) (vx5_f : Bool) (vx5_n : Nat) (vx5_c : List D) (vx6_f : Bool) (vx6_n : Nat) (vx6_c : List D) (vlength : Int) : Option D :=
  cutAt (TEf call L C) O0 N3 FinM.canon Tryz.f3 [true, true, true, true, true, true, true, true, true] []  (C 1023) (St.mk [J, J, J, D.loc 3 0 0, J, D.loc 5 0 0, D.int IntKind.i64 vbad, D.str vk, D.int IntKind.i64 vn, D.int IntKind.i64 ve1, D.int IntKind.i64 vl, J, D.int IntKind.i64 vlength, J, J, J, J, J, J, J, J, J, J, J, J, J, J, J, J, J, J, J, J, J, J, J, J, J, J, J, J, J, J, J, J, J, J, J, J, J, J, J, J, J, J, J, J, J, J, J, J, J, J, J, J, J, J, J, J, J, J, J, J, J, J, J, J, J, J, J, J, J] [Z, Z, Z, (1, some (Ob.box [D.int IntKind.i64 vp0, D.int IntKind.i64 vp1] false)), Z, (1, some (Ob.box [D.str vx, D.int IntKind.i64 vx1, D.int IntKind.i64 vx2, D.int IntKind.i64 vx3, D.int IntKind.i64 vx4, D.slc vx5_f vx5_n vx5_c, D.slc vx6_f vx6_n vx6_c] false)), Z, Z, Z, Z, Z, Z, Z, Z, Z, Z, Z, Z, Z, Z, Z, Z, Z, Z, Z, Z, Z, Z, Z, Z, Z, Z, Z, Z, Z, Z, Z, Z, Z, Z, Z, Z, Z, Z, Z, Z, Z, Z, Z, Z, Z, Z, Z, Z, Z, Z, Z, Z, Z, Z, Z, Z, Z, Z, Z, Z, Z, Z, Z, Z, Z, Z, Z, Z, Z, Z, Z, Z, Z, Z, Z, Z])
noncomputable def F3_255 (call : FuncId → List D → Option D) (L : Nat) (C : Nat → Nat) (vp0 : Int) (vp1 : Int) (vbad : Int) (vk : ByteArray) (vn : Int) (ve1 : Int) (vl : Int) (vx : ByteArray) (vx1 : Int) (vx2 : Int) (vx3 : Int) (vx4 : Int) (vx5_f : Bool) (vx5_n : Nat) (vx5_c : List D) (vx6_f : Bool) (vx6_n : Nat) (vx6_c : List D) : Option D :=
  cutAt (TEf call L C) O0 N3 FinM.canon Tryz.f3 [true, true, true, true, true, true, true] []  (C 255) (St.mk [J, J, J, D.loc 3 0 0, J, D.loc 5 0 0, D.int IntKind.i64 vbad, D.str vk, D.int IntKind.i64 vn, D.int IntKind.i64 ve1, D.int IntKind.i64 vl, J, J, J, J, J, J, J, J, J, J, J, J, J, J, J, J, J, J, J, J, J, J, J, J, J, J, J, J, J, J, J, J, J, J, J, J, J, J, J, J, J, J, J, J, J, J, J, J, J, J, J, J, J, J, J, J, J, J, J, J, J, J, J, J, J, J, J, J, J, J, J] [Z, Z, Z, (1, some (Ob.box [D.int IntKind.i64 vp0, D.int IntKind.i64 vp1] false)), Z, (1, some (Ob.box [D.str vx, D.int IntKind.i64 vx1, D.int IntKind.i64 vx2, D.int IntKind.i64 vx3, D.int IntKind.i64 vx4, D.slc vx5_f vx5_n vx5_c, D.slc vx6_f vx6_n vx6_c] false)), Z, Z, Z, Z, Z, Z, Z, Z, Z, Z, Z, Z, Z, Z, Z, Z, Z, Z, Z, Z, Z, Z, Z, Z, Z, Z, Z, Z, Z, Z, Z, Z, Z, Z, Z, Z, Z, Z, Z, Z, Z, Z, Z, Z, Z, Z, Z, Z, Z, Z, Z, Z, Z, Z, Z, Z, Z, Z, Z, Z, Z, Z, Z, Z, Z, Z, Z, Z, Z, Z, Z, Z, Z, Z, Z, Z])
theorem F3_1023_eq (call : FuncId → List D → Option D) (L : Nat) (C : Nat → Nat) (vbad : Int) (vk : ByteArray) (vn : Int) (ve1 : Int) (vl : Int) (vp0 : Int) (vp1 : Int) (vx : ByteArray) (vx1 : Int) (vx2 : Int) (vx3 : Int) (vx4 : Int) (vx5_f : Bool) (vx5_n : Nat) (vx5_c : List D) (vx6_f : Bool) (vx6_n : Nat) (vx6_c : List D) (vlength : Int) (hC : ∀ t, C t = 1) : F3_1023 call L C  vbad vk vn ve1 vl vp0 vp1 vx vx1 vx2 vx3 vx4 vx5_f vx5_n vx5_c vx6_f vx6_n vx6_c (vlength) =
  (optK (call 24 [D.agg [D.int IntKind.i64 vp0, D.int IntKind.i64 vp1]]) fun r_8 =>
    (intK IntKind.i64 (r_8) fun x_11 =>
    (optK (call 23 [D.slc true 2 [D.int IntKind.i64 vbad, D.int IntKind.i64 x_11]]) fun r_9 =>
      (intK IntKind.i64 (r_9) fun x_12 =>
      (ifK (x_12 == 0)
        (optK (call 25 [D.agg [D.str vx, D.int IntKind.i64 vx1, D.int IntKind.i64 vx2, D.int IntKind.i64 vx3, D.int IntKind.i64 vx4, D.slc vx5_f vx5_n vx5_c, D.slc vx6_f vx6_n vx6_c], D.agg [D.int IntKind.i64 vp0, D.int IntKind.i64 vp1]]) fun r_10 =>
          (tupK (r_10) 2 fun c_5 =>
          (cellK (c_5) (0) fun d_12 =>
          (strK (d_12) fun s_2 =>
          (cellK (c_5) (1) fun d_13 =>
          (intK IntKind.i64 (d_13) fun x_13 =>
          (ifK (vl == vlength)
            (ifK (ve1 == x_12)
              (ifK (ByteArray.toList vk == ByteArray.toList s_2)
                (ifK (vn == x_13)
                  (optK (call 17 []) fun r_11 =>
                    (boolK (r_11) fun b_2 =>
                    (some (D.bool b_2))))
                  (some (D.bool false)))
                (some (D.bool false)))
              (some (D.bool false)))
            (some (D.bool false)))))))))
        (ifK (vl == vlength)
          (ifK (ve1 == x_12)
            (ifK (ByteArray.toList vk == ByteArray.toList (ByteArray.mk #[]))
              (ifK (vn == 0)
                (optK (call 17 []) fun r_12 =>
                  (boolK (r_12) fun b_3 =>
                  (some (D.bool b_3))))
                (some (D.bool false)))
              (some (D.bool false)))
            (some (D.bool false)))
          (some (D.bool false)))))))) := by
  unfold F3_1023
  rw [hC]
  kernel_rfl
theorem F3_255_eq (call : FuncId → List D → Option D) (L : Nat) (C : Nat → Nat) (vp0 : Int) (vp1 : Int) (vbad : Int) (vk : ByteArray) (vn : Int) (ve1 : Int) (vl : Int) (vx : ByteArray) (vx1 : Int) (vx2 : Int) (vx3 : Int) (vx4 : Int) (vx5_f : Bool) (vx5_n : Nat) (vx5_c : List D) (vx6_f : Bool) (vx6_n : Nat) (vx6_c : List D) (hC : ∀ t, C t = 1) : F3_255 call L C  vp0 vp1 (vbad) (vk) (vn) (ve1) (vl) (vx) (vx1) (vx2) (vx3) (vx4) (vx5_f) (vx5_n) (vx5_c) (vx6_f) (vx6_n) (vx6_c) =
  (ifK (vbad == 0)
    (optK (call 22 [D.agg [D.str vx, D.int IntKind.i64 vx1, D.int IntKind.i64 vx2, D.int IntKind.i64 vx3, D.int IntKind.i64 vx4, D.slc vx5_f vx5_n vx5_c, D.slc vx6_f vx6_n vx6_c]]) fun r_7 =>
      (intK IntKind.i64 (r_7) fun x_10 =>
      (F3_1023 call L C vbad vk vn ve1 vl vp0 vp1 vx vx1 vx2 vx3 vx4 vx5_f vx5_n vx5_c vx6_f vx6_n vx6_c (x_10))))
    (F3_1023 call L C vbad vk vn ve1 vl vp0 vp1 vx vx1 vx2 vx3 vx4 vx5_f vx5_n vx5_c vx6_f vx6_n vx6_c (0))) := by
  unfold F3_255
  rw [hC]
  kernel_rfl
theorem F3_eq (call : FuncId → List D → Option D) (L : Nat) (C : Nat → Nat) (vh0 : ByteArray) (vh1 : Int) (vh2 : Int) (vh3 : Int) (vh4 : Int) (vh5_f : Bool) (vh5_n : Nat) (vh5_c : List D) (vh6_f : Bool) (vh6_n : Nat) (vh6_c : List D) (vp0 : Int) (vp1 : Int) : evFnT (TEf call L C) O0 N3 FinM.canon Tryz.f3 [D.agg [D.str vh0, D.int IntKind.i64 vh1, D.int IntKind.i64 vh2, D.int IntKind.i64 vh3, D.int IntKind.i64 vh4, D.slc vh5_f vh5_n vh5_c, D.slc vh6_f vh6_n vh6_c], D.agg [D.int IntKind.i64 vp0, D.int IntKind.i64 vp1]] =
  (optK (call 15 [D.agg [D.str vh0, D.int IntKind.i64 vh1, D.int IntKind.i64 vh2, D.int IntKind.i64 vh3, D.int IntKind.i64 vh4, D.slc vh5_f vh5_n vh5_c, D.slc vh6_f vh6_n vh6_c]]) fun r =>
    (aggK (r) 7 fun c =>
    (cellK (c) (0) fun d =>
    (strK (d) fun s =>
    (cellK (c) (1) fun d_1 =>
    (intK IntKind.i64 (d_1) fun x =>
    (cellK (c) (2) fun d_2 =>
    (intK IntKind.i64 (d_2) fun x_1 =>
    (cellK (c) (3) fun d_3 =>
    (intK IntKind.i64 (d_3) fun x_2 =>
    (cellK (c) (4) fun d_4 =>
    (intK IntKind.i64 (d_4) fun x_3 =>
    (cellK (c) (5) fun d_5 =>
    (slcK (d_5) fun f n c_1 =>
    (cellK (c) (6) fun d_6 =>
    (slcK (d_6) fun f_1 n_1 c_2 =>
    (optK (call 16 [D.agg [D.str s, D.int IntKind.i64 x, D.int IntKind.i64 x_1, D.int IntKind.i64 x_2, D.int IntKind.i64 x_3, D.slc f n c_1, D.slc f_1 n_1 c_2], D.int IntKind.i64 6, D.int IntKind.i64 8]) fun r_1 =>
      (boolK (r_1) fun b =>
      (ifK (!b)
        (optK (call 17 []) fun r_2 =>
          (boolK (r_2) fun b_1 =>
          (some (D.bool b_1))))
        (optK (call 18 [D.agg [D.str s, D.int IntKind.i64 x, D.int IntKind.i64 x_1, D.int IntKind.i64 x_2, D.int IntKind.i64 x_3, D.slc f n c_1, D.slc f_1 n_1 c_2]]) fun r_3 =>
          (intK IntKind.i64 (r_3) fun x_4 =>
          (optK (call 19 [D.agg [D.str vh0, D.int IntKind.i64 vh1, D.int IntKind.i64 vh2, D.int IntKind.i64 vh3, D.int IntKind.i64 vh4, D.slc vh5_f vh5_n vh5_c, D.slc vh6_f vh6_n vh6_c], D.agg [D.int IntKind.i64 vp0, D.int IntKind.i64 vp1]]) fun r_4 =>
            (tupK (r_4) 3 fun c_3 =>
            (cellK (c_3) (0) fun d_7 =>
            (strK (d_7) fun s_1 =>
            (cellK (c_3) (1) fun d_8 =>
            (intK IntKind.i64 (d_8) fun x_5 =>
            (cellK (c_3) (2) fun d_9 =>
            (intK IntKind.i64 (d_9) fun x_6 =>
            (optK (call 20 [D.agg [D.str vh0, D.int IntKind.i64 vh1, D.int IntKind.i64 vh2, D.int IntKind.i64 vh3, D.int IntKind.i64 vh4, D.slc vh5_f vh5_n vh5_c, D.slc vh6_f vh6_n vh6_c]]) fun r_5 =>
              (tupK (r_5) 2 fun c_4 =>
              (cellK (c_4) (0) fun d_10 =>
              (intK IntKind.i64 (d_10) fun x_7 =>
              (cellK (c_4) (1) fun d_11 =>
              (intK IntKind.i64 (d_11) fun x_8 =>
              (optK (call 21 [D.agg [D.str vh0, D.int IntKind.i64 vh1, D.int IntKind.i64 vh2, D.int IntKind.i64 vh3, D.int IntKind.i64 vh4, D.slc vh5_f vh5_n vh5_c, D.slc vh6_f vh6_n vh6_c]]) fun r_6 =>
                (intK IntKind.i64 (r_6) fun x_9 =>
                (ifK (x_9 != x_4)
                  (some (D.bool false))
                  (ifK (x_8 != x_4)
                    (some (D.bool false))
                    (F3_255 call L C vp0 vp1 (x_4) (s_1) (x_5) (x_6) (x_7) (s) (x) (x_1) (x_2) (x_3) (f) (n) (c_1) (f_1) (n_1) (c_2))))))))))))))))))))))))))))))))))))))))) := by kernel_rfl

end Go.Pd
end

section
namespace Go.Pd
open Go Go.Proofs Go.RowKit
set_option maxRecDepth 100000

/-! ### A hole as one of the reference -/
def ownH (h : Hl) : Hl := { h with af := h.areas.isEmpty }
def ownOw (pre : List Ar) : Ow := match pre with
  | [] => .nil
  | _ => .own pre.length (arsC pre)
theorem arsC_app (a b : List Ar) : arsC (a ++ b) = arsC a ++ arsC b := by simp [arsC]
theorem go15 {call : FuncId → List D → Option D} {h : Hl} (hb : h.areas.length * 40 ≤ 140737488355328) : ∀ (r pre : List Ar) (fuel : Nat), pre ++ r = h.areas → r.length < fuel →
    F15_58 call LL C1 fuel h.af h.areas.length (arsC h.areas) h.name h.tee.1 h.tee.2 h.cup.1 h.cup.2 h.lf h.line.length (ptsC h.line) (h.areas.length : Int) (pre.length : Int) (ownOw pre) = some (holeD (ownH h)) := by
  intro r
  induction r with
  | nil =>
    intro pre fuel hp hf
    obtain ⟨fuel, rfl⟩ : ∃ n, fuel = n + 1 := ⟨fuel - 1, by omega⟩
    rw [List.append_nil] at hp
    subst hp
    have e1 : decide (((h.areas.length : Nat) : Int) < (h.areas.length : Int)) = false := by simp
    cases ha : h.areas with
    | nil =>
      have e1 : decide (((0 : Nat) : Int) < ((0 : Nat) : Int)) = false := rfl
      show F15_58 call LL C1 (fuel + 1) h.af 0 [] h.name h.tee.1 h.tee.2 h.cup.1 h.cup.2 h.lf h.line.length (ptsC h.line) ((0 : Nat) : Int) ((0 : Nat) : Int) .nil = _
      rw [F15_58_eqn, e1, ifK_false]
      unfold ownH
      rw [ha]
      rfl
    | cons x l =>
      rw [ha] at e1
      show F15_58 call LL C1 (fuel + 1) h.af (x :: l).length (arsC (x :: l)) h.name h.tee.1 h.tee.2 h.cup.1 h.cup.2 h.lf h.line.length (ptsC h.line) ((x :: l).length : Int) ((x :: l).length : Int) (.own (x :: l).length (arsC (x :: l))) = _
      rw [F15_58_eqo, e1, ifK_false]
      unfold ownH
      rw [ha]
      rfl
  | cons x r ih =>
    intro pre fuel hp hf
    obtain ⟨fuel, rfl⟩ : ∃ n, fuel = n + 1 := ⟨fuel - 1, by omega⟩
    have ih := ih (pre ++ [x]) fuel (by rw [← hp]; simp) (by simp at hf; omega)
    have hlen : pre.length < h.areas.length := by rw [← hp]; simp
    have e1 : decide ((pre.length : Int) < (h.areas.length : Int)) = true := by simp; omega
    have e2 : decide ((0 : Int) ≤ (pre.length : Int) ∧ (pre.length : Int) < (h.areas.length : Int)) = true := decide_eq_true ⟨by omega, by omega⟩
    have e3 : IntKind.wrap .i64 ((pre.length : Int) + 1) = ((pre ++ [x]).length : Int) := (wrap_in (by omega)).trans (by simp)
    have q0 : ∀ {γ : Type} (k : D → Option γ), cellK (arsC h.areas) (Int.toNat (pre.length : Int) * 2 + 0) k = k (.str x.1) := fun k => by rw [← hp]; exact a0 pre x r
    have q1 : ∀ {γ : Type} (k : D → Option γ), cellK (arsC h.areas) (Int.toNat (pre.length : Int) * 2 + 1) k = k (.slc x.2.1 x.2.2.length (ptsC x.2.2)) := fun k => by rw [← hp]; exact a1 pre x r
    cases pre with
    | nil =>
      show F15_58 call LL C1 (fuel + 1) h.af h.areas.length (arsC h.areas) h.name h.tee.1 h.tee.2 h.cup.1 h.cup.2 h.lf h.line.length (ptsC h.line) (h.areas.length : Int) (([] : List Ar).length : Int) .nil = _
      rw [F15_58_eqn, e1, ifK_true, e2, chkK_true, q0, strK_str, q1, slcK_slc, e3]
      exact ih
    | cons y pre =>
      show F15_58 call LL C1 (fuel + 1) h.af h.areas.length (arsC h.areas) h.name h.tee.1 h.tee.2 h.cup.1 h.cup.2 h.lf h.line.length (ptsC h.line) (h.areas.length : Int) ((y :: pre).length : Int) (.own (y :: pre).length (arsC (y :: pre))) = _
      rw [F15_58_eqo, e1, ifK_true, e2, chkK_true, q0, strK_str, q1, slcK_slc, e3, show decide (((y :: pre).length + 1) * 40 ≤ Go.Pd.limit ∧ (y :: pre).length + 1 ≤ 9223372036854775807) = true from decide_eq_true ⟨by unfold Go.Pd.limit; omega, by omega⟩, chkK_true]
      have e4 : arsC (y :: pre) ++ [D.str x.1, D.slc x.2.1 x.2.2.length (ptsC x.2.2)] = arsC (y :: pre ++ [x]) := by rw [arsC_app]; rfl
      rw [e4]
      have e5 : ownOw (y :: pre ++ [x]) = .own ((y :: pre).length + 1) (arsC (y :: pre ++ [x])) := by
        show Ow.own _ _ = _
        rw [show (y :: pre ++ [x]).length = (y :: pre).length + 1 by simp]
      rw [e5] at ih
      exact ih
theorem ok15 (h : Hl) (hb : h.areas.length * 40 ≤ 140737488355328) : OK2 15 [holeD h] (holeD (ownH h)) :=
  fnT none_ok Tryz.func15 (ord := O0) (N := N15) (by kernel_rfl) ((F15_eq _ _ _ h.name h.tee.1 h.tee.2 h.cup.1 h.cup.2 h.lf h.line.length (ptsC h.line) h.af h.areas.length (arsC h.areas)).trans (go15 hb h.areas [] LL rfl (by unfold LL; omega)))

/-! ### Few and short -/
def shA (corners : Int) (a : Ar) : Bool := ifK (decide ((a.1.size : Int) > 60)) false (ifK (decide ((a.2.2.length : Int) > corners)) (ifK (decide ((a.2.2.length : Int) ≤ 64)) false (ifK (decide ((a.2.2.length : Int) > 67)) false true)) (ifK (decide ((a.2.2.length : Int) > 67)) false true))
def shH (h : Hl) (areas corners : Int) : Bool := ifK (decide ((h.name.size : Int) > 60)) false (ifK (decide ((h.line.length : Int) > 19)) false
  (ifK (decide ((h.areas.length : Int) > areas)) (ifK (decide ((h.areas.length : Int) ≤ 32)) false (ifK (decide ((h.areas.length : Int) > 35)) false (h.areas.all (shA corners)))) (ifK (decide ((h.areas.length : Int) > 35)) false (h.areas.all (shA corners)))))
theorem go16 {call : FuncId → List D → Option D} {h : Hl} {corners : Int} (hl : h.areas.length ≤ 1000) : ∀ (r pre : List Ar) (fuel : Nat), pre ++ r = h.areas → r.length < fuel →
    F16_58 call LL C1 fuel corners h.name h.tee.1 h.tee.2 h.cup.1 h.cup.2 h.lf h.line.length (ptsC h.line) h.af h.areas.length (arsC h.areas) (pre.length : Int) = some (.bool (r.all (shA corners))) := by
  intro r
  induction r with
  | nil =>
    intro pre fuel hp hf
    obtain ⟨fuel, rfl⟩ : ∃ n, fuel = n + 1 := ⟨fuel - 1, by omega⟩
    rw [List.append_nil] at hp
    have e1 : decide ((pre.length : Int) < (h.areas.length : Int)) = false := by rw [hp]; simp
    rw [F16_58_eq, e1, ifK_false]
    rfl
  | cons x r ih =>
    intro pre fuel hp hf
    obtain ⟨fuel, rfl⟩ : ∃ n, fuel = n + 1 := ⟨fuel - 1, by omega⟩
    have ih := ih (pre ++ [x]) fuel (by rw [← hp]; simp) (by simp at hf; omega)
    have hlen : pre.length < h.areas.length := by rw [← hp]; simp
    have e1 : decide ((pre.length : Int) < (h.areas.length : Int)) = true := by simp; omega
    have e2 : decide ((0 : Int) ≤ (pre.length : Int) ∧ (pre.length : Int) < (h.areas.length : Int)) = true := decide_eq_true ⟨by omega, by omega⟩
    have e3 : IntKind.wrap .i64 ((pre.length : Int) + 1) = ((pre ++ [x]).length : Int) := (wrap_in (by omega)).trans (by simp)
    have q0 : ∀ {γ : Type} (k : D → Option γ), cellK (arsC h.areas) (Int.toNat (pre.length : Int) * 2 + 0) k = k (.str x.1) := fun k => by rw [← hp]; exact a0 pre x r
    have q1 : ∀ {γ : Type} (k : D → Option γ), cellK (arsC h.areas) (Int.toNat (pre.length : Int) * 2 + 1) k = k (.slc x.2.1 x.2.2.length (ptsC x.2.2)) := fun k => by rw [← hp]; exact a1 pre x r
    rw [F16_58_eq, e1, ifK_true, e2, chkK_true, q1, slcK_slc, chkK_true, q0, strK_str, e3, ih, List.all_cons]
    unfold shA
    cases decide ((x.1.size : Int) > 60) <;> cases decide ((x.2.2.length : Int) > corners) <;> cases decide ((x.2.2.length : Int) ≤ 64) <;> cases decide ((x.2.2.length : Int) > 67) <;> rfl
theorem ok16 (h : Hl) (areas corners : Int) : OK2 16 [holeD h, .int .i64 areas, .int .i64 corners] (.bool (shH h areas corners)) := by
  refine fnT none_ok Tryz.func16 (ord := O0) (N := N16) (by kernel_rfl) ((F16_eq _ _ _ h.name h.tee.1 h.tee.2 h.cup.1 h.cup.2 h.lf h.line.length (ptsC h.line) h.af h.areas.length (arsC h.areas) areas corners).trans ?_)
  have key : decide ((h.areas.length : Int) > 35) = false → F16_7 (callOf fun _ _ => none) LL C1 corners h.name h.tee.1 h.tee.2 h.cup.1 h.cup.2 h.lf h.line.length (ptsC h.line) h.af h.areas.length (arsC h.areas) = some (.bool (h.areas.all (shA corners))) := fun hd => by
    rw [F16_7_eq (C := C1) (hC := fun _ => rfl)]
    have : h.areas.length ≤ 35 := by simp at hd; omega
    exact go16 (by omega) h.areas [] LL rfl (by unfold LL; omega)
  unfold shH
  cases hd : decide ((h.areas.length : Int) > 35)
  · rw [key hd]
    cases decide ((h.name.size : Int) > 60) <;> cases decide ((h.line.length : Int) > 19) <;> cases decide ((h.areas.length : Int) > areas) <;> cases decide ((h.areas.length : Int) ≤ 32) <;> rfl
  · cases decide ((h.name.size : Int) > 60) <;> cases decide ((h.line.length : Int) > 19) <;> cases decide ((h.areas.length : Int) > areas) <;> cases decide ((h.areas.length : Int) ≤ 32) <;> rfl
end Go.Pd
end

section
namespace Go.Pd
open Go Go.Proofs Go.RowKit
set_option maxRecDepth 100000

theorem rd_hole {γ : Type} (h : Hl) (k : ByteArray → Int → Int → Int → Int → Bool → Nat → List D → Bool → Nat → List D → Option γ) :
    (aggK (holeD h) 7 fun c => cellK c 0 fun d => strK d fun s => cellK c 1 fun d1 => intK .i64 d1 fun x => cellK c 2 fun d2 => intK .i64 d2 fun x1 => cellK c 3 fun d3 => intK .i64 d3 fun x2 => cellK c 4 fun d4 => intK .i64 d4 fun x3 => cellK c 5 fun d5 => slcK d5 fun f n c1 => cellK c 6 fun d6 => slcK d6 fun f1 n1 c2 => k s x x1 x2 x3 f n c1 f1 n1 c2) =
      k h.name h.tee.1 h.tee.2 h.cup.1 h.cup.2 h.lf h.line.length (ptsC h.line) h.af h.areas.length (arsC h.areas) := rfl
theorem rd_errLoc {γ : Type} (e : Int) (x : ByteArray × Int) (k : ByteArray → Int → Int → Option γ) :
    (tupK (errLoc e x) 3 fun c => cellK c 0 fun d => strK d fun s => cellK c 1 fun d' => intK .i64 d' fun y => cellK c 2 fun d'' => intK .i64 d'' fun z => k s y z) = k (ifK (e != 0) (ByteArray.mk #[]) x.1) (ifK (e != 0) 0 x.2) e := by
  unfold errLoc
  by_cases he : e = 0
  · subst he
    rfl
  · rw [show (e != 0) = true by simpa using he]
    rfl
theorem rd_errOr {α : Type} (e x : Int) (k : Int → Int → Option α) : (tupK (errOr e x) 2 fun c => cellK c 0 fun d => intK .i64 d fun a => cellK c 1 fun d' => intK .i64 d' fun b => k a b) = k (ifK (e != 0) 0 x) e := rfl
theorem shH_ok {h : Hl} {areas corners : Int} (hs : shH h areas corners = true) : h.Ok := by
  have hall : (ifK (decide ((h.areas.length : Int) > 35)) false (h.areas.all (shA corners))) = true ∧ decide ((h.name.size : Int) > 60) = false ∧ decide ((h.line.length : Int) > 19) = false := by
    unfold shH at hs
    cases h1 : decide ((h.name.size : Int) > 60)
    · cases h2 : decide ((h.line.length : Int) > 19)
      · rw [h1, h2, ifK_false, ifK_false] at hs
        refine ⟨?_, rfl, rfl⟩
        cases h3 : decide ((h.areas.length : Int) > areas)
        · rw [h3, ifK_false] at hs; exact hs
        · rw [h3, ifK_true] at hs
          cases h4 : decide ((h.areas.length : Int) ≤ 32)
          · rw [h4, ifK_false] at hs; exact hs
          · rw [h4, ifK_true] at hs; cases hs
      · rw [h1, h2, ifK_false, ifK_true] at hs; cases hs
    · rw [h1, ifK_true] at hs; cases hs
  obtain ⟨h1, h2, h3⟩ := hall
  cases h4 : decide ((h.areas.length : Int) > 35)
  · rw [h4, ifK_false] at h1
    simp only [decide_eq_false_iff_not] at h2 h3 h4
    refine ⟨by omega, by omega, by omega, fun a ha => ?_⟩
    have h5 := List.all_eq_true.1 h1 a ha
    unfold shA at h5
    cases h6 : decide ((a.2.2.length : Int) > 67)
    · simp only [decide_eq_false_iff_not] at h6; omega
    · rw [h6] at h5
      revert h5
      cases decide ((a.1.size : Int) > 60) <;> cases decide ((a.2.2.length : Int) > corners) <;> cases decide ((a.2.2.length : Int) ≤ 64) <;> (intro h5; cases h5)
  · rw [h4, ifK_true] at h1; cases h1
theorem areas_in {h : Hl} (hz : holeE h = 0) : ∀ a ∈ h.areas, a.2.2.any outP = false := by
  unfold holeE at hz
  by_cases hp : preE h = 0
  · rw [show (preE h != 0) = false by simpa using hp, ifK_false] at hz
    by_cases ha : arsE h.areas = 0
    · exact fun a hm => (polErr_zero (arsE_zero ha a hm).2).2.2.1
    · rw [show (arsE h.areas != 0) = true by simpa using ha, ifK_true] at hz
      exact absurd hz ha
  · rw [show (preE h != 0) = true by simpa using hp, ifK_true] at hz
    exact absurd hz hp
theorem ownH_ok {h : Hl} (hk : h.Ok) : (ownH h).Ok := ⟨hk.n, hk.l, hk.a, hk.c⟩
theorem okf3 : okFn Tryz.prog O0 Tryz.f3 = true := by kernel_rfl
theorem ok3 (h : Hl) (hb : h.areas.length * 40 ≤ 140737488355328) (p : Pt) : OK2 3 [holeD h, ptD p] (.bool true) := by
  cases hs : shH (ownH h) 6 8
  · obtain ⟨B, hB, e15, e16, e17, _⟩ := exF [one 15 [holeD h] (holeD (ownH h)), one 16 [holeD (ownH h), .int .i64 6, .int .i64 8] (.bool (shH (ownH h) 6 8)), one 17 [] (.bool true)]
      ⟨one_good (ok15 h hb) rfl, one_good (ok16 _ 6 8) rfl, one_good ok17 rfl, trivial⟩ rfl
    refine fnT hB Tryz.func3 (ord := O0) (N := N3) okf3 ((F3_eq _ _ _ h.name h.tee.1 h.tee.2 h.cup.1 h.cup.2 h.lf h.line.length (ptsC h.line) h.af h.areas.length (arsC h.areas) p.1 p.2).trans ?_)
    have f15 : callOf B 15 [holeD h] = some (holeD (ownH h)) := e15 ()
    have f16 : callOf B 16 [holeD (ownH h), .int .i64 6, .int .i64 8] = some (.bool (shH (ownH h) 6 8)) := e16 ()
    have f17 : callOf B 17 [] = some (.bool true) := e17 ()
    rw [f15, optK_some, rd_hole, f16, optK_some, boolK_bool, hs, Bool.not_false, ifK_true, f17, optK_some, boolK_bool]
  · have hk : h.Ok := by
      have := shH_ok hs
      exact ⟨this.n, this.l, this.a, this.c⟩
    have hk' := ownH_ok hk
    obtain ⟨B, hB, e15, e16, e17, e18, e19, e20, e21, e22, e24, e23, e25, _⟩ := exF [one 15 [holeD h] (holeD (ownH h)), one 16 [holeD (ownH h), .int .i64 6, .int .i64 8] (.bool (shH (ownH h) 6 8)), one 17 [] (.bool true), one 18 [holeD (ownH h)] (.int .i64 (refHole h)),
        one 19 [holeD h, ptD p] (errLoc (firstZ [holeE h, ifK (outP p) 3 0]) (locP h p)), one 20 [holeD h] (errOr (holeE h) ((lenN h.cup h.tee h.line : Nat) : Int)), one 21 [holeD h] (.int .i64 (holeE h)),
        ⟨22, {u : Unit // holeE h = 0}, fun _ => [holeD (ownH h)], fun _ => .int .i64 ((lenN h.cup h.tee h.line : Nat) : Int)⟩, one 24 [ptD p] (.int .i64 (ifK (outP p) 3 0)), famFi 23, one 25 [holeD (ownH h), ptD p] (locD (locR h p))]
      ⟨one_good (ok15 h hb) rfl, one_good (ok16 _ 6 8) rfl, one_good ok17 rfl, one_good (ok18 (ownH h) hk') rfl, one_good (ok19 h hk p) rfl, one_good (ok20 h hk) rfl, one_good (ok21 h hk) rfl,
        ⟨fun u => by
          obtain ⟨i1, i2, i3, _⟩ := hole_in u.2
          exact ok22 (ownH h) hk.l (inP_of i1) (inP_of i2) fun q hq => inP_of (by simpa using List.any_eq_false.1 i3 q hq), fun _ _ _ => rfl, fun _ => rfl⟩, one_good (ok24 p) rfl, famFi_good (fun l hl => ok23 l hl) (fun _ _ => rfl), one_good (ok25 (ownH h) hk' p) rfl, trivial⟩ rfl
    refine fnT hB Tryz.func3 (ord := O0) (N := N3) okf3 ((F3_eq _ _ _ h.name h.tee.1 h.tee.2 h.cup.1 h.cup.2 h.lf h.line.length (ptsC h.line) h.af h.areas.length (arsC h.areas) p.1 p.2).trans ?_)
    have f15 : callOf B 15 [holeD h] = some (holeD (ownH h)) := e15 ()
    have f16 : callOf B 16 [holeD (ownH h), .int .i64 6, .int .i64 8] = some (.bool (shH (ownH h) 6 8)) := e16 ()
    have f17 : callOf B 17 [] = some (.bool true) := e17 ()
    have f18 : callOf B 18 [holeD (ownH h)] = some (.int .i64 (refHole h)) := e18 ()
    have f19 : callOf B 19 [holeD h, ptD p] = some (errLoc (firstZ [holeE h, ifK (outP p) 3 0]) (locP h p)) := e19 ()
    have f20 : callOf B 20 [holeD h] = some (errOr (holeE h) ((lenN h.cup h.tee h.line : Nat) : Int)) := e20 ()
    have f21 : callOf B 21 [holeD h] = some (.int .i64 (holeE h)) := e21 ()
    have f24 : callOf B 24 [ptD p] = some (.int .i64 (ifK (outP p) 3 0)) := e24 ()
    have f25 : callOf B 25 [holeD (ownH h), ptD p] = some (locD (locR h p)) := e25 ()
    have f23 : callOf B 23 [.slc true 2 [.int .i64 (holeE h), .int .i64 (ifK (outP p) 3 0)]] = some (.int .i64 (firstZ [holeE h, ifK (outP p) 3 0])) := e23 ⟨[holeE h, ifK (outP p) 3 0], by simp⟩
    have rd2 : ∀ (x : ByteArray × Int) (k : ByteArray → Int → Option D), (tupK (locD x) 2 fun c => cellK c 0 fun d => strK d fun s => cellK c 1 fun d' => intK .i64 d' fun y => k s y) = k x.1 x.2 := fun _ _ => rfl
    have hrs : refHole h = holeE h := (hole_same h).symm
    -- the end
    have fin : ∀ len : Int, F3_1023 (callOf B) LL C1 (holeE h) (ifK (firstZ [holeE h, ifK (outP p) 3 0] != 0) (ByteArray.mk #[]) (locP h p).1) (ifK (firstZ [holeE h, ifK (outP p) 3 0] != 0) 0 (locP h p).2) (firstZ [holeE h, ifK (outP p) 3 0]) len p.1 p.2 h.name h.tee.1 h.tee.2 h.cup.1 h.cup.2 h.lf h.line.length (ptsC h.line) (ownH h).af h.areas.length (arsC h.areas) len = some (.bool true) := fun len => by
      rw [F3_1023_eq (C := C1) (hC := fun _ => rfl), f24, optK_some, intK_int, f23, optK_some, intK_int]
      by_cases hz : firstZ [holeE h, ifK (outP p) 3 0] = 0
      · have h0 := firstZ_zero hz
        have hE0 : holeE h = 0 := h0 _ (by simp)
        have hP0 : outP p = false := ifK_zero (h0 (ifK (outP p) 3 0) (by simp))
        have hlo : locR h p = locP h p := (loc_same hP0 (areas_in hE0)).symm
        rw [hlo] at f25
        rw [hz, show ((0 : Int) == 0) = true from rfl, show ((0 : Int) != 0) = false from rfl, ifK_true, ifK_false, ifK_false]
        refine (congrArg (fun o => optK o _) f25).trans ?_
        rw [optK_some, rd2]
        simp only [beq_self_eq_true, ifK_true]
        rw [f17, optK_some, boolK_bool]
      · rw [show (firstZ [holeE h, ifK (outP p) 3 0] == 0) = false by simpa using hz, show (firstZ [holeE h, ifK (outP p) 3 0] != 0) = true by simpa using hz, ifK_false, ifK_true, ifK_true]
        simp only [beq_self_eq_true, ifK_true]
        rw [f17, optK_some, boolK_bool]
    rw [f15, optK_some, rd_hole, f16, optK_some, boolK_bool, hs, Bool.not_true, ifK_false]
    refine (congrArg (fun o => optK o _) f18).trans ?_
    rw [optK_some, intK_int, f19, optK_some, rd_errLoc, f20, optK_some, rd_errOr, f21, optK_some, intK_int, hrs, show (holeE h != holeE h) = false by simp, ifK_false, ifK_false, F3_255_eq (C := C1) (hC := fun _ => rfl)]
    by_cases hz : holeE h = 0
    · have f22 : callOf B 22 [holeD (ownH h)] = some (.int .i64 ((lenN h.cup h.tee h.line : Nat) : Int)) := e22 ⟨(), hz⟩
      rw [show (holeE h == 0) = true by simpa using hz, show (holeE h != 0) = false by simpa using hz, ifK_true, ifK_false]
      refine (congrArg (fun o => optK o _) f22).trans ?_
      rw [optK_some, intK_int]
      exact fin _
    · rw [show (holeE h == 0) = false by simpa using hz, show (holeE h != 0) = true by simpa using hz, ifK_false, ifK_true]
      exact fin 0
end Go.Pd
end

section
namespace Go.Pd
open Go Go.Proofs Go.RowKit
set_option maxRecDepth 100000
theorem ty_struct5 {P : Program} {n : Nat} {t : TypeId} {ds : List D} {fs : Array Field} {f1 f2 f3 f4 f5 : Field} (hu : P.underlying t = some (.struct fs)) (hfs : fs.toList = [f1, f2, f3, f4, f5]) (h : Ty P (n + 1) t ds) :
    ∃ g1 g2 g3 g4 g5, ds = g1 ++ g2 ++ g3 ++ g4 ++ g5 ∧ Ty P n f1.type g1 ∧ Ty P n f2.type g2 ∧ Ty P n f3.type g3 ∧ Ty P n f4.type g4 ∧ Ty P n f5.type g5 := by
  unfold Ty at h; rw [hu] at h
  obtain ⟨gs, h1, h2, h3⟩ := h
  have hl : gs.length = 5 := by rw [h2, ← Array.length_toList, hfs]; rfl
  match gs, hl with
  | [g1, g2, g3, g4, g5], _ => exact ⟨g1, g2, g3, g4, g5, by rw [h1]; simp, h3 0 f1 g1 (by rw [hfs]; rfl) rfl, h3 1 f2 g2 (by rw [hfs]; rfl) rfl, h3 2 f3 g3 (by rw [hfs]; rfl) rfl, h3 3 f4 g4 (by rw [hfs]; rfl) rfl, h3 4 f5 g5 (by rw [hfs]; rfl) rfl⟩
theorem ty_area {n : Nat} {c : List D} (h : Ty Tryz.prog (n + 4) 84 c) : ∃ a : Ar, c = arC a := by
  obtain ⟨g1, g2, rfl, h1, h2⟩ := ty_struct2 Tryz.underlying84 rfl h
  obtain ⟨s, rfl, _⟩ := ty_str Tryz.underlying9 h1
  obtain ⟨l, rfl⟩ := ty_pts h2
  exact ⟨(s, false, l), rfl⟩
theorem ty_hole {n : Nat} {c : List D} (h : Ty Tryz.prog (n + 6) 27 c) : ∃ h : Hl, c = h.cells := by
  obtain ⟨g1, g2, g3, g4, g5, rfl, h1, h2, h3, h4, h5⟩ := ty_struct5 Tryz.underlying27 rfl h
  obtain ⟨s, rfl, _⟩ := ty_str Tryz.underlying9 h1
  obtain ⟨p, rfl⟩ := ty_pt h2
  obtain ⟨q, rfl⟩ := ty_pt h3
  obtain ⟨l, rfl⟩ := ty_pts h4
  obtain ⟨gs, rfl, _, h6⟩ := ty_slice Tryz.underlying25 h5
  obtain ⟨ars, h7, h8⟩ := rows_of arC (p := Ty Tryz.prog (n + 4) 84) (fun d hd => ty_area hd) gs h6
  refine ⟨⟨s, p, q, false, l, false, ars⟩, ?_⟩
  rw [← h7, h8]
  rfl
end Go.Pd
end

section
namespace Go.Pd
open Go.RowKit Go.ChangeShapes Go.WideShapes

theorem len_boundJ {I : Nat → Prop} {w : World} {P : Program} {H : Type} {enc : TypeId × Value → H} {base : Nat} {spare : Nat → Bool} {held : Bool} {t e : TypeId} {fs : Array Field} {j : Nat} {f : Field} {v : Value} {dd : DataW H} {ps : List MemPlace}
    (hu : P.underlying t = some (.struct fs)) (hf : fs[j]? = some f) (hu2 : P.underlying f.type = some (.slice e)) (hc : P.cellsOf f.type = 1)
    (h : DataW.Trod enc P w base spare held t v dd ps) (hw : ∀ k ∈ dd.weights P t, k ≤ reachBytes) {cs : List D} {g : Bool} {m : Nat} {c : List D} (hr : RelC I w (.agg cs) v) (hcs : cs[f.offset]? = some (.slc g m c)) : m * P.bytesOf e ≤ reachBytes := by
  obtain ⟨fuel, hm⟩ := h
  obtain ⟨xs, n', _, hx, _, hxl, hget⟩ := DataW.trod_struct hu hm
  have hjlt : j < fs.size := (Array.getElem?_eq_some_iff.1 hf).1
  have h1 := hget j f hf
  cases hr with
  | agg _ vs hl hrr =>
    have hlt : f.offset < vs.size := by
      have := (List.getElem?_eq_some_iff.1 hcs).1
      omega
    have hv1 : (((Value.agg vs).cells).toList.drop f.offset).take (P.cellsOf f.type) = [vs[f.offset]] := by
      rw [hc]
      show (vs.toList.drop f.offset).take 1 = _
      rw [List.drop_eq_getElem_cons (by simpa using hlt)]
      simp
    rw [hv1, List.getElem?_eq_getElem (by omega)] at h1
    have hrel : RelC I w (.slc g m c) vs[f.offset] := hrr f.offset _ _ hcs (Array.getElem?_eq_getElem hlt)
    rcases Deep.open_slice hu2 h1 with ⟨hcs, _⟩ | ⟨a, len, cap, m', n, Dd, Pl, hcs, _, _, _, _, hxx, _⟩
    · simp only [List.cons.injEq, and_true] at hcs
      rw [hcs] at hrel
      cases hrel
      rw [Nat.zero_mul]
      exact Nat.zero_le _
    · simp only [List.cons.injEq, and_true] at hcs
      rw [hcs] at hrel
      cases hrel
      have hdd : dd = .agg (xs.map (·.1)) := (Prod.mk.inj hx).1
      have hmem : ((((List.range m).map Dd).length + ((List.range (m' - m)).map fun j => Dd (m + j)).length) * P.bytesOf e) ∈ dd.weights P t := by
        rw [hdd]
        simp only [DataW.weights, hu]
        refine DataW.weights_mem_each (j := j) (t := f.type) (d := .slice ((List.range m).map Dd) ((List.range (m' - m)).map fun j => Dd (m + j))) (by rw [List.getElem?_map, Array.getElem?_toList, hf]; rfl) ?_ _ (by simp [DataW.weights, hu2])
        rw [List.getElem?_map, List.getElem?_eq_getElem (by omega)]
        show some (xs[j]).1 = _
        rw [hxx]
      have := hw _ hmem
      rw [List.length_map, List.length_map, List.length_range, List.length_range] at this
      exact Nat.le_trans (Nat.mul_le_mul_right _ (Nat.le_add_right _ _)) this
theorem law_callWG {P : Program} {gl : Nat → Option D} (hl : laidOutB P = true) {f : FuncId} {fn : Func} {tb : TypeId} (hbool : P.underlying tb = some .bool) (hres : fn.resultTypes = #[tb])
    (hc : ∀ t ∈ fn.params.toList, carryB P t = true) {H : Type} (enc : TypeId × Value → H) {s : ChangeSpec} (hvars : s.vars = []) (hfn : ∀ ds : List (DataW H), ds.length = fn.params.toList.length → s.fn H (ds ++ []) = { results := [.lit (.bool true)], args := ds })
    (W : World) (args : Array Value) (ds gs : List (DataW H)) (before : List MemPlace) (hval : ∀ (j : Nat) t v, fn.params[j]? = some t → args[j]? = some v → Value.okWide P W .any 0 t v)
    (hW : DataW.Whole enc P fn.params.toList s.vars false W args.toList ds gs before)
    (hgl : Gl gl (fun b => b < W.heap.size) W) (hplain : ∀ cs, AllTy P 12 fn.params.toList cs → (∃ p, DataW.TrodAll enc P W 0 (fun _ => true) true fn.params.toList args.toList ds p) → (∀ (j : Nat) (d : D) (v : Value), (argsOf P fn.params.toList cs)[j]? = some d → args.toList[j]? = some v → RelC (fun b => b < W.heap.size) W d v) →
      CallOK P gl f (argsOf P fn.params.toList cs) (.bool true)) :
    Calls P f args W fun e W' => ∃ v, e = .returned v ∧ s.post enc P fn false true false false W args v W' := by
  have hW0 := hW
  obtain ⟨p, q, hA, hV, rfl, hfz, hnd⟩ := hW
  rw [hvars] at hV
  have hq : gs = [] ∧ q = [] := by
    cases gs with
    | nil => exact ⟨rfl, hV⟩
    | cons => exact hV.elim
  obtain ⟨rfl, rfl⟩ := hq
  have hf12 : ∀ t ∈ fn.params.toList, flatB P 12 t = true := fun t ht => by
    have := hc t ht
    simp only [carryB, Bool.and_eq_true] at this
    exact this.2
  obtain ⟨cs, c1, c2, c3⟩ := args_ty (I := fun b => b < W.heap.size) (w := W) (fun b hb => hb) _ _ _ _ hf12 (fun j t v ht hv => hval j t v (by simpa using ht) (by simpa using hv)) hA
  have hlen : ds.length = fn.params.toList.length := by
    clear hW0 hplain c1 c2 c3 hval hfz hnd
    have key : ∀ (ts : List TypeId) (vs : List Value) (ds : List (DataW H)) (ps : List MemPlace), DataW.TrodAll enc P W 0 (fun _ => true) true ts vs ds ps → ds.length = ts.length := by
      intro ts
      induction ts with
      | nil => intro vs ds ps h; obtain ⟨_, rfl, _⟩ := trodAll_nil h; rfl
      | cons t ts ih =>
        intro vs ds ps h
        obtain ⟨v, vs1, d, ds1, a, b, rfl, rfl, rfl, h1, h2⟩ := trodAll_cons h
        simp [ih _ _ _ h2]
    exact key _ _ _ _ hA
  have hcall := hplain cs c1 ⟨p, hA⟩ c3
  have hF := hcall.2 (fun b => b < W.heap.size) W args (fun b hb => hb) hgl (by simpa using c2) (fun j d v hd hv => c3 j d v hd (by simpa using hv))
  refine hF.mono fun e W' ⟨v, he, hr, hb⟩ => ?_
  have hvt : v = .bool true := (RelV.clo (A := fun _ _ => none) (G := fun _ => 0) hr).bool_inv
  subst hvt
  have hold : ∀ x ∈ p ++ [], x.block < W.heap.size := fun x hx => by simpa using hW0.lt x hx
  have hs := hfn ds hlen
  refine ⟨_, he, ds, [], p ++ [], [], p, [], hW0, ?_, ?_, ?_, hb.frame _, fun h => by cases h⟩
  · rw [hs, hres]
    exact trodAll_cons_mk (shut_bool hbool _) trodAll_mk0
  · rw [hs]
    exact trodAll_carry hl hb _ _ _ _ hc hA fun x hx => hold x (by simpa using hx)
  · rw [hs, hvars]
    rfl
end Go.Pd
end
