/-
  Chapter 2: the check of a hole, and Locate, by the reference; they say the same.
  Chapter 2: the law of areas, as equations.
  CourseAreas: the plain side.
  CourseAreas: CheckHole, Locate and Length return the results or the errors of the reference.
  Chapter 2: holes as typed arguments.
  A law whose plain side asks for a bound on a slice of an argument that is a struct: the row's own reach gives it; globals are read.
-/
import Derived.Test.YtmhbhlbnlmbhlaaGreatDoorCrE
import Derived.Test.YtmhbhlbnlmbhlaaGreatDoorCrA
import Derived.KernelRfl
import Derived.Test.YtmhbhlbnlmbhlaaGreatDoorCrI
import Derived.Test.YtmhbhlbnlmbhlaaGreatDoorCrLaw
import Derived.Test.YtmhbhlbnlmbhlaaGreatDoorPdFf
import Derived.SizedLaws
section
namespace Go.Pd
open Go Go.Proofs Go.RowKit
set_option maxRecDepth 100000
theorem seqB_comm (a b : ByteArray) : seqB a b = seqB b a := Bool.beq_comm
theorem ok44 : OK2 44 [] (.slc true 6 (strsC kinds6)) := fnT none_ok Tryz.func44 (ord := O0) (N := N0) (by kernel_rfl) (F44_eq _ _ _)
theorem go29 {call : CL} {f : Bool} {n : Nat} {v : ByteArray} : ∀ (r pre : List ByteArray) (fuel : Nat), (pre ++ r).length = n → n ≤ 1000 → r.length < fuel → F29_58 call LL C1 fuel v f n (strsC (pre ++ r)) (pre.length : Int) = some (.bool (r.any (seqB v))) := by
  intro r
  induction r with
  | nil =>
    intro pre fuel hn hB hf
    cases fuel with
    | zero => exact absurd hf (Nat.not_lt_zero _)
    | succ fuel =>
      subst hn
      rw [F29_58_eq, end_pre, ifK_false]
      rfl
  | cons x r ih =>
    intro pre fuel hn hB hf
    cases fuel with
    | zero => exact absurd hf (Nat.not_lt_zero _)
    | succ fuel =>
      have ih := ih (pre ++ [x]) fuel (by rw [app1]; exact hn) hB (by simp at hf; omega)
      rw [app1] at ih
      subst hn
      rw [F29_58_eq, lt_pre, ifK_true, in_pre, chkK_true, strs_at1, strK_str, step_pre pre x r (by omega), ih, List.any_cons, seqB_comm v x]
      show ifK (seqB x v) _ _ = _
      cases seqB x v <;> rfl
theorem ok29 (v : ByteArray) : OK2 29 [.str v] (.bool (kindB v)) := by
  obtain ⟨B, hb, e⟩ := one_call ok44 rfl
  refine fnT hb Tryz.func29 (ord := O0) (N := N29) (by kernel_rfl) ((F29_eq _ _ _ v).trans ?_)
  rw [e, optK_some, slcK_slc]
  exact go29 (f := true) (n := 6) kinds6 [] LL rfl (by omega) (by unfold LL; simp [kinds6])
def locR (h : Hl) (p : Pt) : ByteArray × Int := locV (hasR p) h.areas kinds6
theorem go25i {call : CL} {h : Hl} {p : Pt} (h54 : ∀ a ∈ h.areas, call 54 [.slc a.2.1 a.2.2.length (ptsC a.2.2), ptD p] = some (.int .i64 (conR p (sdL a.2.2) false))) (hl : h.areas.length ≤ 1000) {kr kp : List ByteArray} {kind : ByteArray} (hk : kp ++ kind :: kr = kinds6) {n : Nat} :
    ∀ (r pre : List Ar) (fuel : Nat), pre ++ r = h.areas → r.length < fuel → F25_3730 call LL C1 n fuel true 6 (strsC kinds6) (kp.length : Int) h.name h.tee.1 h.tee.2 h.cup.1 h.cup.2 h.lf h.line.length (ptsC h.line) h.af h.areas.length (arsC h.areas) p.1 p.2 (pre.length : Int) =
      match locI (hasR p) kind r pre.length with
      | some i => some (locD (kind, (i : Int)))
      | none => F25_58 call LL C1 n h.name h.tee.1 h.tee.2 h.cup.1 h.cup.2 h.lf h.line.length (ptsC h.line) h.af h.areas.length (arsC h.areas) p.1 p.2 true 6 (strsC kinds6) ((kp.length + 1 : Nat) : Int) := by
  have hkl : kp.length < 6 := by
    have := congrArg List.length hk
    simp [kinds6] at this
    omega
  intro r
  induction r with
  | nil =>
    intro pre fuel hn hf
    cases fuel with
    | zero => exact absurd hf (Nat.not_lt_zero _)
    | succ fuel =>
      have hlen : pre.length = h.areas.length := by rw [← hn]; simp
      rw [F25_3730_eq, hlen, nlt_nat, ifK_false, show IntKind.wrap .i64 ((kp.length : Int) + 1) = ((kp.length + 1 : Nat) : Int) from wrap_add _ 1 (by omega)]
      rfl
  | cons x r ih =>
    intro pre fuel hn hf
    cases fuel with
    | zero => exact absurd hf (Nat.not_lt_zero _)
    | succ fuel =>
      have ih := ih (pre ++ [x]) fuel (by rw [app1]; exact hn) (by simp at hf; omega)
      rw [List.length_append, List.length_singleton] at ih
      have hlt : pre.length < h.areas.length := by rw [← hn]; simp
      have e : call 54 [.slc x.2.1 x.2.2.length (ptsC x.2.2), .agg [.int .i64 p.1, .int .i64 p.2]] = _ := h54 x (by rw [← hn]; simp)
      have c0 : ∀ k : D → Option D, cellK (arsC h.areas) (Int.toNat (pre.length : Int) * 2 + 0) k = k (.str x.1) := fun k => by rw [← hn]; exact a0 pre x r
      have c1' : ∀ k : D → Option D, cellK (arsC h.areas) (Int.toNat (pre.length : Int) * 2 + 1) k = k (.slc x.2.1 x.2.2.length (ptsC x.2.2)) := fun k => by rw [← hn]; exact a1 pre x r
      have ck : ∀ k : D → Option D, cellK (strsC kinds6) (Int.toNat (kp.length : Int) * 1) k = k (.str kind) := fun k => by rw [← hk]; exact strs_at1
      have dk : decide ((0 : Int) ≤ ((kp.length : Nat) : Int) ∧ ((kp.length : Nat) : Int) < ((6 : Nat) : Int)) = true := in_nat hkl
      rw [F25_3730_eq, lt_nat hlt, ifK_true, in_nat hlt, chkK_true, c0, strK_str, dk, chkK_true, ck, strK_str, chkK_true, c1', slcK_slc, e, optK_some, intK_int, chkK_true, ck, strK_str, show IntKind.wrap .i64 ((pre.length : Int) + 1) = ((pre.length + 1 : Nat) : Int) from wrap_add _ 1 (by omega), ih]
      rw [show locI (hasR p) kind (x :: r) pre.length = ifK (seqB x.1 kind) (ifK (hasR p x) (some pre.length) (locI (hasR p) kind r (pre.length + 1))) (locI (hasR p) kind r (pre.length + 1)) from rfl]
      show ifK (seqB x.1 kind) (ifK (hasR p x) _ _) _ = _
      cases seqB x.1 kind
      · rfl
      · cases hasR p x <;> rfl
theorem go25 {call : CL} {h : Hl} {p : Pt} (h54 : ∀ a ∈ h.areas, call 54 [.slc a.2.1 a.2.2.length (ptsC a.2.2), ptD p] = some (.int .i64 (conR p (sdL a.2.2) false))) (hl : h.areas.length ≤ 1000) :
    ∀ (r pre : List ByteArray) (fuel : Nat), pre ++ r = kinds6 → r.length < fuel → F25_58 call LL C1 fuel h.name h.tee.1 h.tee.2 h.cup.1 h.cup.2 h.lf h.line.length (ptsC h.line) h.af h.areas.length (arsC h.areas) p.1 p.2 true 6 (strsC kinds6) (pre.length : Int) = some (locD (locV (hasR p) h.areas r)) := by
  intro r
  induction r with
  | nil =>
    intro pre fuel hn hf
    cases fuel with
    | zero => exact absurd hf (Nat.not_lt_zero _)
    | succ fuel =>
      have hlen : pre.length = 6 := by
        have := congrArg List.length hn
        simpa [kinds6] using this
      rw [F25_58_eq, hlen, nlt_nat, ifK_false]
      rfl
  | cons x r ih =>
    intro pre fuel hn hf
    cases fuel with
    | zero => exact absurd hf (Nat.not_lt_zero _)
    | succ fuel =>
      have ih := ih (pre ++ [x]) fuel (by rw [app1]; exact hn) (by simp at hf; omega)
      rw [List.length_append, List.length_singleton] at ih
      have hlt : pre.length < 6 := by
        have := congrArg List.length hn
        simp [kinds6] at this
        omega
      have hi := go25i h54 hl hn (n := fuel) h.areas [] LL rfl (by unfold LL; omega)
      rw [show (([] : List Ar).length : Int) = 0 from rfl, show ([] : List Ar).length = 0 from rfl, ih] at hi
      rw [F25_58_eq, lt_nat hlt, ifK_true, hi]
      rw [show locV (hasR p) h.areas (x :: r) = (match locI (hasR p) x h.areas 0 with | some i => (x, (i : Int)) | none => locV (hasR p) h.areas r) from rfl]
      cases locI (hasR p) x h.areas 0 <;> rfl
theorem ok25 (h : Hl) (hk : h.Ok) (p : Pt) : OK2 25 [holeD h, ptD p] (locD (locR h p)) := by
  obtain ⟨B, hb, e44, e54, _⟩ := exF [one 44 [] (.slc true 6 (strsC kinds6)), ⟨54, {a : Ar // a ∈ h.areas}, fun a => [.slc a.1.2.1 a.1.2.2.length (ptsC a.1.2.2), ptD p], fun a => .int .i64 (conR p (sdL a.1.2.2) false)⟩]
    ⟨one_good ok44 rfl, ⟨fun a => ok54 a.1.2.2 p (hk.c a.1 a.2), fun x y e => by
      have e : [D.slc x.1.2.1 x.1.2.2.length (ptsC x.1.2.2), ptD p] = [D.slc y.1.2.1 y.1.2.2.length (ptsC y.1.2.2), ptD p] := e
      simp only [List.cons.injEq, D.slc.injEq, and_true] at e
      show D.int .i64 (conR p (sdL x.1.2.2) false) = .int .i64 (conR p (sdL y.1.2.2) false)
      rw [ptsC_inj e.2.2], fun _ => rfl⟩, trivial⟩ rfl
  refine fnT hb Tryz.func25 (ord := O0) (N := N25) (by kernel_rfl) ((F25_eq _ _ _ h.name h.tee.1 h.tee.2 h.cup.1 h.cup.2 h.lf h.line.length (ptsC h.line) h.af h.areas.length (arsC h.areas) p.1 p.2).trans ?_)
  have f44 : callOf B 44 [] = some (.slc true 6 (strsC kinds6)) := e44 ()
  rw [f44, optK_some, slcK_slc]
  exact go25 (fun a ha => e54 ⟨a, ha⟩) hk.a kinds6 [] LL rfl (by unfold LL; simp [kinds6])
/-! ### The check -/
def arsR (t : Int) : List Ar → Int
  | [] => t
  | a :: r => ifK (!kindB a.1) 13 (ifK (refErr a.2.2 != 0) (refErr a.2.2) (arsR t r))
def refHole (h : Hl) : Int := ifK (!nameV h.name) 8 (ifK (outP h.tee) 3 (ifK (outP h.cup) 3 (ifK (decide ((h.line.length : Int) > 16)) 5 (ifK (h.line.any outP) 3 (ifK (decide ((h.areas.length : Int) > 32)) 5 (arsR (endE (locR h h.tee).1 (locR h h.cup).1) h.areas))))))
theorem go18a {call : CL} {h : Hl} (hk : h.Ok) (h29 : ∀ v, call 29 [.str v] = some (.bool (kindB v))) (h49 : ∀ a ∈ h.areas, call 49 [.slc a.2.1 a.2.2.length (ptsC a.2.2)] = some (.int .i64 (refErr a.2.2)))
    (h25 : ∀ p, call 25 [holeD h, ptD p] = some (locD (locR h p))) :
    ∀ (r pre : List Ar) (fuel : Nat), pre ++ r = h.areas → r.length < fuel → F18_1018 call LL C1 fuel h.name h.tee.1 h.tee.2 h.cup.1 h.cup.2 h.lf h.line.length (ptsC h.line) h.af h.areas.length (arsC h.areas) (pre.length : Int) = some (.int .i64 (arsR (endE (locR h h.tee).1 (locR h h.cup).1) r)) := by
  intro r
  have hal := hk.a
  induction r with
  | nil =>
    intro pre fuel hn hf
    cases fuel with
    | zero => exact absurd hf (Nat.not_lt_zero _)
    | succ fuel =>
      have hlen : pre.length = h.areas.length := by rw [← hn]; simp
      have rd : ∀ (x : ByteArray × Int) (k : ByteArray → Int → Option D), (tupK (locD x) 2 fun c => cellK c 0 fun d => strK d fun s => cellK c 1 fun d' => intK .i64 d' fun y => k s y) = k x.1 x.2 := fun _ _ => rfl
      have ht : call 25 [holeD h, .agg [.int .i64 h.tee.1, .int .i64 h.tee.2]] = _ := h25 h.tee
      have hc : call 25 [holeD h, .agg [.int .i64 h.cup.1, .int .i64 h.cup.2]] = _ := h25 h.cup
      rw [F18_1018_eq, hlen, nlt_nat, ifK_false, ht, optK_some, rd, hc, optK_some, rd]
      rw [show arsR (endE (locR h h.tee).1 (locR h h.cup).1) [] = endE (locR h h.tee).1 (locR h h.cup).1 from rfl]
      unfold endE seqB waterS outS greenS
      generalize (ByteArray.toList (locR h h.tee).1 == ByteArray.toList (ByteArray.mk #[119, 97, 116, 101, 114])) = b1
      generalize (ByteArray.toList (locR h h.tee).1 == ByteArray.toList (ByteArray.mk #[111, 117, 116])) = b2
      generalize (ByteArray.toList (locR h h.cup).1 == ByteArray.toList (ByteArray.mk #[103, 114, 101, 101, 110])) = b3
      cases b1 <;> cases b2 <;> cases b3 <;> rfl
  | cons x r ih =>
    intro pre fuel hn hf
    cases fuel with
    | zero => exact absurd hf (Nat.not_lt_zero _)
    | succ fuel =>
      have ih := ih (pre ++ [x]) fuel (by rw [app1]; exact hn) (by simp at hf; omega)
      rw [List.length_append, List.length_singleton] at ih
      have hlt : pre.length < h.areas.length := by rw [← hn]; simp
      have c0 : ∀ k : D → Option D, cellK (arsC h.areas) (Int.toNat (pre.length : Int) * 2 + 0) k = k (.str x.1) := fun k => by rw [← hn]; exact a0 pre x r
      have c1' : ∀ k : D → Option D, cellK (arsC h.areas) (Int.toNat (pre.length : Int) * 2 + 1) k = k (.slc x.2.1 x.2.2.length (ptsC x.2.2)) := fun k => by rw [← hn]; exact a1 pre x r
      rw [F18_1018_eq, lt_nat hlt, ifK_true, in_nat hlt, chkK_true, c0, strK_str, h29, optK_some, boolK_bool, chkK_true, c1', slcK_slc, h49 x (by rw [← hn]; simp), optK_some, intK_int,
        show IntKind.wrap .i64 ((pre.length : Int) + 1) = ((pre.length + 1 : Nat) : Int) from wrap_add _ 1 (by omega), ih]
      rw [show arsR (endE (locR h h.tee).1 (locR h h.cup).1) (x :: r) = ifK (!kindB x.1) 13 (ifK (refErr x.2.2 != 0) (refErr x.2.2) (arsR (endE (locR h h.tee).1 (locR h h.cup).1) r)) from rfl]
      cases kindB x.1
      · rfl
      · cases refErr x.2.2 != 0 <;> rfl
theorem ne3 (b : Bool) : (ifK b (3 : Int) 0 != 0) = b := by cases b <;> rfl
theorem go18l {call : CL} (h24 : ∀ p, call 24 [ptD p] = some (.int .i64 (ifK (outP p) 3 0))) {h : Hl} (hk : h.Ok) : ∀ (r pre : List Pt) (fuel : Nat), pre ++ r = h.line → r.length < fuel →
    F18_250 call LL C1 fuel h.name h.tee.1 h.tee.2 h.cup.1 h.cup.2 h.lf h.line.length (ptsC h.line) h.af h.areas.length (arsC h.areas) (pre.length : Int) = ifK (r.any outP) (some (.int .i64 3)) (ifK (decide ((h.areas.length : Int) > 32)) (some (.int .i64 5)) (F18_1018 call LL C1 LL h.name h.tee.1 h.tee.2 h.cup.1 h.cup.2 h.lf h.line.length (ptsC h.line) h.af h.areas.length (arsC h.areas) 0)) := by
  intro r
  have hal := hk.l
  induction r with
  | nil =>
    intro pre fuel hn hf
    cases fuel with
    | zero => exact absurd hf (Nat.not_lt_zero _)
    | succ fuel =>
      have hlen : pre.length = h.line.length := by rw [← hn]; simp
      rw [F18_250_eq, hlen, nlt_nat, ifK_false]
      rfl
  | cons x r ih =>
    intro pre fuel hn hf
    cases fuel with
    | zero => exact absurd hf (Nat.not_lt_zero _)
    | succ fuel =>
      have ih := ih (pre ++ [x]) fuel (by rw [app1]; exact hn) (by simp at hf; omega)
      rw [List.length_append, List.length_singleton] at ih
      have hlt : pre.length < h.line.length := by rw [← hn]; simp
      have e : call 24 [D.agg [.int .i64 x.1, .int .i64 x.2]] = _ := h24 x
      have c0 : ∀ k : D → Option D, cellK (ptsC h.line) (Int.toNat (pre.length : Int) * 2 + 0) k = k (.int .i64 x.1) := fun k => by rw [← hn]; exact q0 pre x r
      have c1' : ∀ k : D → Option D, cellK (ptsC h.line) (Int.toNat (pre.length : Int) * 2 + 1) k = k (.int .i64 x.2) := fun k => by rw [← hn]; exact q1 pre x r
      rw [F18_250_eq, lt_nat hlt, ifK_true, in_nat hlt, chkK_true, c0, intK_int, c1', intK_int, e, optK_some, intK_int, ne3, show IntKind.wrap .i64 ((pre.length : Int) + 1) = ((pre.length + 1 : Nat) : Int) from wrap_add _ 1 (by omega), ih, List.any_cons]
      cases outP x <;> rfl
theorem ok18 (h : Hl) (hk : h.Ok) : OK2 18 [holeD h] (.int .i64 (refHole h)) := by
  obtain ⟨B, hb, e75, e24, e29, e49, e25, _⟩ := exF [one 75 [.str h.name] (.bool (nameV h.name)), famP 24 fun p => .int .i64 (ifK (outP p) 3 0), ⟨29, ByteArray, fun v => [.str v], fun v => .bool (kindB v)⟩,
      ⟨49, {a : Ar // a ∈ h.areas}, fun a => [.slc a.1.2.1 a.1.2.2.length (ptsC a.1.2.2)], fun a => .int .i64 (refErr a.1.2.2)⟩, ⟨25, Pt, fun p => [holeD h, ptD p], fun p => locD (locR h p)⟩]
    ⟨one_good (ok75 h.name) rfl, famP_good ok24 (fun _ => rfl), ⟨fun v => ok29 v, fun (x y : ByteArray) e => by
        have e : [D.str x] = [D.str y] := e
        cases e
        rfl, fun _ => rfl⟩, ⟨fun a => ok49 a.1.2.2 (hk.c a.1 a.2), fun x y e => by
        have e : [D.slc x.1.2.1 x.1.2.2.length (ptsC x.1.2.2)] = [D.slc y.1.2.1 y.1.2.2.length (ptsC y.1.2.2)] := e
        simp only [List.cons.injEq, D.slc.injEq, and_true] at e
        show D.int .i64 (refErr x.1.2.2) = .int .i64 (refErr y.1.2.2)
        rw [ptsC_inj e.2.2], fun _ => rfl⟩, ⟨fun p => ok25 h hk p, fun x y e => by
        have e : [holeD h, ptD x] = [holeD h, ptD y] := e
        simp only [List.cons.injEq, true_and, and_true] at e
        show locD (locR h x) = locD (locR h y)
        rw [ptD_inj e], fun _ => rfl⟩, trivial⟩ rfl
  refine fnT hb Tryz.func18 (ord := O0) (N := N18) (by kernel_rfl) ((F18_eq _ _ _ h.name h.tee.1 h.tee.2 h.cup.1 h.cup.2 h.lf h.line.length (ptsC h.line) h.af h.areas.length (arsC h.areas)).trans ?_)
  have f75 : callOf B 75 [.str h.name] = some (.bool (nameV h.name)) := e75 ()
  have ft : callOf B 24 [.agg [.int .i64 h.tee.1, .int .i64 h.tee.2]] = some (.int .i64 (ifK (outP h.tee) 3 0)) := e24 h.tee
  have fc : callOf B 24 [.agg [.int .i64 h.cup.1, .int .i64 h.cup.2]] = some (.int .i64 (ifK (outP h.cup) 3 0)) := e24 h.cup
  have hl := go18l (call := callOf B) (fun p => e24 p) hk h.line [] LL rfl (by have := hk.l; unfold LL; omega)
  have ha := go18a (call := callOf B) hk (fun v => e29 v) (fun a ha => e49 ⟨a, ha⟩) (fun p => e25 p) h.areas [] LL rfl (by have := hk.a; unfold LL; omega)
  rw [show (([] : List Ar).length : Int) = 0 from rfl] at ha
  rw [show (([] : List Pt).length : Int) = 0 from rfl, ha] at hl
  rw [f75, optK_some, boolK_bool, ft, optK_some, intK_int, ne3, fc, optK_some, intK_int, ne3, F18_15_eq _ _ _ _ _ _ _ _ _ _ _ _ _ _ c1, hl]
  unfold refHole
  cases nameV h.name
  · rfl
  · cases outP h.tee
    · cases outP h.cup
      · cases decide ((h.line.length : Int) > 16)
        · cases h.line.any outP
          · cases decide ((h.areas.length : Int) > 32) <;> rfl
          · rfl
        · rfl
      · rfl
    · rfl
/-! ### The same -/
theorem loc_same {h : Hl} {p : Pt} (hp : outP p = false) (ha : ∀ a ∈ h.areas, a.2.2.any outP = false) : locP h p = locR h p :=
  locV_congr (fun a hm => by
    unfold hasA hasR
    rw [con_same (ha a hm) hp]) kinds6
theorem first_two (x y : Int) : firstZ [x, y] = ifK (x != 0) x (ifK (y != 0) y 0) := rfl
theorem arE_eq (a : Ar) : arE a = ifK (!kindB a.1) 13 (refErr a.2.2) := by
  unfold arE
  rw [first_two, poly_same]
  generalize refErr a.2.2 = z
  cases kindB a.1
  · rfl
  · cases hz : z != 0
    · have : z = 0 := by simpa using hz
      subst this
      rfl
    · rfl
theorem arsE_zero : ∀ {l : List Ar}, arsE l = 0 → ∀ a ∈ l, kindB a.1 = true ∧ polErr a.2.2 = 0
  | [], _, a, h => by cases h
  | x :: r, h, a, ha => by
    rw [show arsE (x :: r) = ifK (arE x != 0) (arE x) (arsE r) from rfl] at h
    cases hx : arE x != 0
    · have hx0 : arE x = 0 := by simpa using hx
      rw [hx, ifK_false] at h
      rcases List.mem_cons.1 ha with rfl | ha
      · rw [arE_eq] at hx0
        cases hk : kindB a.1
        · rw [hk] at hx0; cases hx0
        · rw [hk] at hx0
          exact ⟨rfl, by rw [poly_same]; exact hx0⟩
      · exact arsE_zero h a ha
    · rw [hx, ifK_true] at h
      rw [h] at hx
      cases hx
theorem arsR_eq (t : Int) : ∀ l : List Ar, arsR t l = ifK (arsE l != 0) (arsE l) t
  | [] => rfl
  | a :: r => by
    rw [show arsR t (a :: r) = ifK (!kindB a.1) 13 (ifK (refErr a.2.2 != 0) (refErr a.2.2) (arsR t r)) from rfl, show arsE (a :: r) = ifK (arE a != 0) (arE a) (arsE r) from rfl, arE_eq, arsR_eq t r]
    generalize refErr a.2.2 = z
    cases kindB a.1
    · rfl
    · show ifK (z != 0) z _ = ifK ((ifK (z != 0) z (arsE r)) != 0) (ifK (z != 0) z (arsE r)) t
      cases hz : z != 0
      · rfl
      · show z = ifK (z != 0) z t
        rw [hz]
        rfl
theorem hole_same (h : Hl) : holeE h = refHole h := by
  unfold holeE refHole
  rw [arsR_eq]
  have hpre : preE h = ifK (!nameV h.name) 8 (ifK (outP h.tee) 3 (ifK (outP h.cup) 3 (ifK (decide ((h.line.length : Int) > 16)) 5 (ifK (h.line.any outP) 3 (ifK (decide ((h.areas.length : Int) > 32)) 5 0))))) := by
    unfold preE
    rw [show [h.tee, h.cup].any outP = (outP h.tee || (outP h.cup || false)) by simp]
    cases nameV h.name <;> cases outP h.tee <;> cases outP h.cup <;> cases decide ((h.line.length : Int) > 16) <;> cases h.line.any outP <;> cases decide ((h.areas.length : Int) > 32) <;> rfl
  rw [hpre]
  cases nameV h.name
  · rfl
  · cases ht : outP h.tee
    · cases hc : outP h.cup
      · cases decide ((h.line.length : Int) > 16)
        · cases h.line.any outP
          · cases decide ((h.areas.length : Int) > 32)
            · show ifK (arsE h.areas != 0) (arsE h.areas) _ = ifK (arsE h.areas != 0) (arsE h.areas) _
              cases hz : arsE h.areas != 0
              · have h0 : arsE h.areas = 0 := by simpa using hz
                have hall : ∀ a ∈ h.areas, a.2.2.any outP = false := fun a ha => (polErr_zero (arsE_zero h0 a ha).2).2.2.1
                rw [ifK_false, ifK_false, loc_same ht hall, loc_same hc hall]
              · rfl
            · rfl
          · rfl
        · rfl
      · rfl
    · rfl
end Go.Pd
end
section
namespace Go.Pd
open Go Go.Proofs
set_option maxRecDepth 100000
def N15 : NTab := fun p => match p with
  | 58 => some { keep := [2, 3, 16, 17, 18], kl := [1, 5], ren := [(1, 1), (2, 2), (3, 3), (5, 5), (26, 26)] }
  | _ => none
noncomputable def F15_58 (call : CL) (L : Nat) (C : Nat → Nat) (n : Nat) (a2 : Bool) (a3 : Nat) (a1 : List D) (O : ByteArray) (S U V W : Int) (Y : Bool) (a0 : Nat) (X : List D) (K M : Int) (z : Ow) : Option D :=
 loopAt (TEf call L C) O0 N15 FinM.canon Tryz.f15 [true, true, false, true, false] []  n (St.mk (J :: J :: D.loc 2 0 0 :: D.loc 3 0 0 :: jn 12 (D.slc a2 a3 a1 :: D.int .i64 K :: D.int .i64 M :: jn 11 [])) (Z :: Z :: (1, some (Ob.box [D.str (ByteArray.mk #[]), D.int .i64 0, D.int .i64 0, D.int .i64 0, D.int .i64 0, D.nils, D.nils] false)) :: (1, some (Ob.box [D.str O, D.int .i64 S, D.int .i64 U, D.int .i64 V, D.int .i64 W, D.slc Y a0 X, ownD 26 z] false)) :: zn 22 [ownO 133 2 z, Z, Z, Z]))
theorem F15_58_eqn (call : CL) (L : Nat) (C : Nat → Nat) (n : Nat) (a0 : Bool) (Z : Nat) (J : List D) (M : ByteArray) (O S U V : Int) (X : Bool) (Y : Nat) (W : List D) (K z : Int) : F15_58 call L C  (n + 1) a0 Z J M O S U V X Y W K z (Ow.nil) =
 (ifK (decide (z < K))
 (chkK (decide (0 ≤ z ∧ z < (Z : Int)))
 (cellK J (Int.toNat z * 2 + 0) fun d =>
 (strK d fun s =>
 (cellK J (Int.toNat z * 2 + 1) fun a1 =>
 (slcK a1 fun f a2 c =>
 (F15_58 call L C n a0 Z J M O S U V X Y W K (IntKind.wrap .i64 (z + 1)) (Ow.own 1 [D.str s, D.slc f a2 c])))))))
 (some (D.agg [D.str M, D.int .i64 O, D.int .i64 S, D.int .i64 U, D.int .i64 V, D.slc X Y W, D.slc true 0 []]))) := by kernel_rfl
theorem F15_58_eqo (call : CL) (L : Nat) (C : Nat → Nat) (n : Nat) (a2 : Bool) (a0 : Nat) (K : List D) (O : ByteArray) (S U V W : Int) (Y : Bool) (Z : Nat) (X : List D) (M z : Int) (J : Nat) (a1 : List D) : F15_58 call L C  (n + 1) a2 a0 K O S U V W Y Z X M z (Ow.own J a1) =
 (ifK (decide (z < M))
 (chkK (decide (0 ≤ z ∧ z < (a0 : Int)))
 (cellK K (Int.toNat z * 2 + 0) fun a4 =>
 (strK a4 fun a8 =>
 (cellK K (Int.toNat z * 2 + 1) fun a5 =>
 (slcK a5 fun a6 a7 a3 =>
 (chkK (decide ((J + 1) * 40 ≤ limit ∧ J + 1 ≤ 9223372036854775807))
 (F15_58 call L C n a2 a0 K O S U V W Y Z X M (IntKind.wrap .i64 (z + 1)) (Ow.own (J + 1) (a1 ++ [D.str a8, D.slc a6 a7 a3])))))))))
 (some (D.agg [D.str O, D.int .i64 S, D.int .i64 U, D.int .i64 V, D.int .i64 W, D.slc Y Z X, D.slc false J a1]))) := by kernel_rfl
theorem F15_eq (call : CL) (L : Nat) (C : Nat → Nat) (J : ByteArray) (K M O S : Int) (V : Bool) (W : Nat) (U : List D) (Y : Bool) (z : Nat) (X : List D) : evFnT (TEf call L C) O0 N15 FinM.canon Tryz.f15 [D.agg [D.str J, D.int .i64 K, D.int .i64 M, D.int .i64 O, D.int .i64 S, D.slc V W U, D.slc Y z X]] =
 (F15_58 call L C L Y z X J K M O S V W U ((z : Int)) 0 (Ow.nil)) := by kernel_rfl
def N16 : NTab := fun p => match p with
  | 7 => some { keep := [2, 3], kl := [], ren := [(3, 3)] }
  | 58 => some { keep := [2, 3, 7], kl := [], ren := [(3, 3)] }
  | _ => none
noncomputable def F16_58 (call : CL) (L : Nat) (C : Nat → Nat) (z : Nat) (K : Int) (M : ByteArray) (O S U V : Int) (X : Bool) (Y : Nat) (W : List D) (a1 : Bool) (a2 : Nat) (a0 : List D) (vi : Int) : Option D :=
 loopAt (TEf call L C) O0 N16 FinM.canon Tryz.f16 [true, true, false, true, false] []  z (St.mk (J :: J :: D.int .i64 K :: D.loc 3 0 0 :: J :: J :: J :: D.int .i64 vi :: jn 65 []) (Z :: Z :: Z :: (1, some (Ob.box [D.str M, D.int .i64 O, D.int .i64 S, D.int .i64 U, D.int .i64 V, D.slc X Y W, D.slc a1 a2 a0] false)) :: zn 69 []))
noncomputable def F16_7 (call : CL) (L : Nat) (C : Nat → Nat) (z : Int) (K : ByteArray) (M O S U : Int) (W : Bool) (X : Nat) (V : List D) (a0 : Bool) (a1 : Nat) (Y : List D) : Option D :=
 cutAt (TEf call L C) O0 N16 FinM.canon Tryz.f16 [true, true] []  (C 7) (St.mk (J :: J :: D.int .i64 z :: D.loc 3 0 0 :: jn 69 []) (Z :: Z :: Z :: (1, some (Ob.box [D.str K, D.int .i64 M, D.int .i64 O, D.int .i64 S, D.int .i64 U, D.slc W X V, D.slc a0 a1 Y] false)) :: zn 69 []))
theorem F16_58_eq (call : CL) (L : Nat) (C : Nat → Nat) (S : Nat) (O : Int) (U : ByteArray) (V W X Y : Int) (a0 : Bool) (a1 : Nat) (Z : List D) (a2 : Bool) (J : Nat) (K : List D) (z : Int) : F16_58 call L C  (S + 1) O U V W X Y a0 a1 Z a2 J K z =
 (ifK (decide (z < (J : Int)))
 (chkK (decide (0 ≤ z ∧ z < (J : Int)))
 (cellK K (Int.toNat z * 2 + 1) fun d =>
 (slcK d fun _f M _c =>
 (chkK (decide (0 ≤ z ∧ z < (J : Int)))
 (cellK K (Int.toNat z * 2 + 0) fun a3 =>
 (strK a3 fun s =>
 (ifK (decide (((ByteArray.size s) : Int) > 60))
 (some (D.bool false))
 (ifK (decide ((M : Int) > O))
 (ifK (decide ((M : Int) ≤ 64))
 (some (D.bool false))
 (ifK (decide ((M : Int) > 67))
 (some (D.bool false))
 (F16_58 call L C S O U V W X Y a0 a1 Z a2 J K (IntKind.wrap .i64 (z + 1)))))
 (ifK (decide ((M : Int) > 67))
 (some (D.bool false))
 (F16_58 call L C S O U V W X Y a0 a1 Z a2 J K (IntKind.wrap .i64 (z + 1))))))))))))
 (some (D.bool true))) := by kernel_rfl
theorem F16_7_eq (call : CL) (L : Nat) (C : Nat → Nat) (z : Int) (J : ByteArray) (K M O S : Int) (V : Bool) (W : Nat) (U : List D) (Y : Bool) (Z : Nat) (X : List D) (hC : ∀ t, C t = 1) : F16_7 call L C  z J K M O S V W U Y Z X  =
 (F16_58 call L C L z J K M O S V W U Y Z X 0) := by
  unfold F16_7
  rw [hC]
  kernel_rfl
theorem F16_eq (call : CL) (L : Nat) (C : Nat → Nat) (J : ByteArray) (O S U V : Int) (X : Bool) (K : Nat) (W : List D) (Z : Bool) (z : Nat) (Y : List D) (a0 M : Int) : evFnT (TEf call L C) O0 N16 FinM.canon Tryz.f16 [D.agg [D.str J, D.int .i64 O, D.int .i64 S, D.int .i64 U, D.int .i64 V, D.slc X K W, D.slc Z z Y], D.int .i64 a0, D.int .i64 M] =
 (ifK (decide (((ByteArray.size J) : Int) > 60))
 (some (D.bool false))
 (ifK (decide ((K : Int) > 19))
 (some (D.bool false))
 (ifK (decide ((z : Int) > a0))
 (ifK (decide ((z : Int) ≤ 32))
 (some (D.bool false))
 (ifK (decide ((z : Int) > 35))
 (some (D.bool false))
 (F16_7 call L C M J O S U V X K W Z z Y)))
 (ifK (decide ((z : Int) > 35))
 (some (D.bool false))
 (F16_7 call L C M J O S U V X K W Z z Y))))) := by kernel_rfl
end Go.Pd
end
section
namespace Go.Pd
open Go Go.Proofs Go.RowKit
set_option maxRecDepth 100000
/-! ### A hole as one of the reference -/
def ownH (h : Hl) : Hl := { h with af := h.areas.isEmpty }
def ownOw (pre : List Ar) : Ow := match pre with
  | [] => .nil
  | _ => .own pre.length (arsC pre)
theorem arsC_app (a b : List Ar) : arsC (a ++ b) = arsC a ++ arsC b := by simp [arsC]
theorem go15 {call : CL} {h : Hl} (hb : h.areas.length * 40 ≤ 140737488355328) : ∀ (r pre : List Ar) (fuel : Nat), pre ++ r = h.areas → r.length < fuel →
    F15_58 call LL C1 fuel h.af h.areas.length (arsC h.areas) h.name h.tee.1 h.tee.2 h.cup.1 h.cup.2 h.lf h.line.length (ptsC h.line) (h.areas.length : Int) (pre.length : Int) (ownOw pre) = some (holeD (ownH h)) := by
  intro r
  induction r with
  | nil =>
    intro pre fuel hp hf
    obtain ⟨fuel, rfl⟩ : ∃ n, fuel = n + 1 := ⟨fuel - 1, by omega⟩
    rw [List.append_nil] at hp
    subst hp
    have e1 : decide (((h.areas.length : Nat) : Int) < (h.areas.length : Int)) = false := by simp
    cases ha : h.areas with
    | nil =>
      have e1 : decide (((0 : Nat) : Int) < ((0 : Nat) : Int)) = false := rfl
      show F15_58 call LL C1 (fuel + 1) h.af 0 [] h.name h.tee.1 h.tee.2 h.cup.1 h.cup.2 h.lf h.line.length (ptsC h.line) ((0 : Nat) : Int) ((0 : Nat) : Int) .nil = _
      rw [F15_58_eqn, e1, ifK_false]
      unfold ownH
      rw [ha]
      rfl
    | cons x l =>
      rw [ha] at e1
      show F15_58 call LL C1 (fuel + 1) h.af (x :: l).length (arsC (x :: l)) h.name h.tee.1 h.tee.2 h.cup.1 h.cup.2 h.lf h.line.length (ptsC h.line) ((x :: l).length : Int) ((x :: l).length : Int) (.own (x :: l).length (arsC (x :: l))) = _
      rw [F15_58_eqo, e1, ifK_false]
      unfold ownH
      rw [ha]
      rfl
  | cons x r ih =>
    intro pre fuel hp hf
    obtain ⟨fuel, rfl⟩ : ∃ n, fuel = n + 1 := ⟨fuel - 1, by omega⟩
    have ih := ih (pre ++ [x]) fuel (by rw [← hp]; simp) (by simp at hf; omega)
    have hlen : pre.length < h.areas.length := by rw [← hp]; simp
    have e1 : decide ((pre.length : Int) < (h.areas.length : Int)) = true := by simp; omega
    have e2 : decide ((0 : Int) ≤ (pre.length : Int) ∧ (pre.length : Int) < (h.areas.length : Int)) = true := decide_eq_true ⟨by omega, by omega⟩
    have e3 : IntKind.wrap .i64 ((pre.length : Int) + 1) = ((pre ++ [x]).length : Int) := (wrap_in (by omega)).trans (by simp)
    have q0 : ∀ {γ : Type} (k : D → Option γ), cellK (arsC h.areas) (Int.toNat (pre.length : Int) * 2 + 0) k = k (.str x.1) := fun k => by rw [← hp]; exact a0 pre x r
    have q1 : ∀ {γ : Type} (k : D → Option γ), cellK (arsC h.areas) (Int.toNat (pre.length : Int) * 2 + 1) k = k (.slc x.2.1 x.2.2.length (ptsC x.2.2)) := fun k => by rw [← hp]; exact a1 pre x r
    cases pre with
    | nil =>
      show F15_58 call LL C1 (fuel + 1) h.af h.areas.length (arsC h.areas) h.name h.tee.1 h.tee.2 h.cup.1 h.cup.2 h.lf h.line.length (ptsC h.line) (h.areas.length : Int) (([] : List Ar).length : Int) .nil = _
      rw [F15_58_eqn, e1, ifK_true, e2, chkK_true, q0, strK_str, q1, slcK_slc, e3]
      exact ih
    | cons y pre =>
      show F15_58 call LL C1 (fuel + 1) h.af h.areas.length (arsC h.areas) h.name h.tee.1 h.tee.2 h.cup.1 h.cup.2 h.lf h.line.length (ptsC h.line) (h.areas.length : Int) ((y :: pre).length : Int) (.own (y :: pre).length (arsC (y :: pre))) = _
      rw [F15_58_eqo, e1, ifK_true, e2, chkK_true, q0, strK_str, q1, slcK_slc, e3, show decide (((y :: pre).length + 1) * 40 ≤ Go.Pd.limit ∧ (y :: pre).length + 1 ≤ 9223372036854775807) = true from decide_eq_true ⟨by unfold Go.Pd.limit; omega, by omega⟩, chkK_true]
      have e4 : arsC (y :: pre) ++ [D.str x.1, D.slc x.2.1 x.2.2.length (ptsC x.2.2)] = arsC (y :: pre ++ [x]) := by rw [arsC_app]; rfl
      rw [e4]
      have e5 : ownOw (y :: pre ++ [x]) = .own ((y :: pre).length + 1) (arsC (y :: pre ++ [x])) := by
        show Ow.own _ _ = _
        rw [show (y :: pre ++ [x]).length = (y :: pre).length + 1 by simp]
      rw [e5] at ih
      exact ih
theorem ok15 (h : Hl) (hb : h.areas.length * 40 ≤ 140737488355328) : OK2 15 [holeD h] (holeD (ownH h)) :=
  fnT none_ok Tryz.func15 (ord := O0) (N := N15) (by kernel_rfl) ((F15_eq _ _ _ h.name h.tee.1 h.tee.2 h.cup.1 h.cup.2 h.lf h.line.length (ptsC h.line) h.af h.areas.length (arsC h.areas)).trans (go15 hb h.areas [] LL rfl (by unfold LL; omega)))
/-! ### Few and short -/
def shA (corners : Int) (a : Ar) : Bool := ifK (decide ((a.1.size : Int) > 60)) false (ifK (decide ((a.2.2.length : Int) > corners)) (ifK (decide ((a.2.2.length : Int) ≤ 64)) false (ifK (decide ((a.2.2.length : Int) > 67)) false true)) (ifK (decide ((a.2.2.length : Int) > 67)) false true))
def shH (h : Hl) (areas corners : Int) : Bool := ifK (decide ((h.name.size : Int) > 60)) false (ifK (decide ((h.line.length : Int) > 19)) false
  (ifK (decide ((h.areas.length : Int) > areas)) (ifK (decide ((h.areas.length : Int) ≤ 32)) false (ifK (decide ((h.areas.length : Int) > 35)) false (h.areas.all (shA corners)))) (ifK (decide ((h.areas.length : Int) > 35)) false (h.areas.all (shA corners)))))
theorem go16 {call : CL} {h : Hl} {corners : Int} (hl : h.areas.length ≤ 1000) : ∀ (r pre : List Ar) (fuel : Nat), pre ++ r = h.areas → r.length < fuel →
    F16_58 call LL C1 fuel corners h.name h.tee.1 h.tee.2 h.cup.1 h.cup.2 h.lf h.line.length (ptsC h.line) h.af h.areas.length (arsC h.areas) (pre.length : Int) = some (.bool (r.all (shA corners))) := by
  intro r
  induction r with
  | nil =>
    intro pre fuel hp hf
    obtain ⟨fuel, rfl⟩ : ∃ n, fuel = n + 1 := ⟨fuel - 1, by omega⟩
    rw [List.append_nil] at hp
    have e1 : decide ((pre.length : Int) < (h.areas.length : Int)) = false := by rw [hp]; simp
    rw [F16_58_eq, e1, ifK_false]
    rfl
  | cons x r ih =>
    intro pre fuel hp hf
    obtain ⟨fuel, rfl⟩ : ∃ n, fuel = n + 1 := ⟨fuel - 1, by omega⟩
    have ih := ih (pre ++ [x]) fuel (by rw [← hp]; simp) (by simp at hf; omega)
    have hlen : pre.length < h.areas.length := by rw [← hp]; simp
    have e1 : decide ((pre.length : Int) < (h.areas.length : Int)) = true := by simp; omega
    have e2 : decide ((0 : Int) ≤ (pre.length : Int) ∧ (pre.length : Int) < (h.areas.length : Int)) = true := decide_eq_true ⟨by omega, by omega⟩
    have e3 : IntKind.wrap .i64 ((pre.length : Int) + 1) = ((pre ++ [x]).length : Int) := (wrap_in (by omega)).trans (by simp)
    have q0 : ∀ {γ : Type} (k : D → Option γ), cellK (arsC h.areas) (Int.toNat (pre.length : Int) * 2 + 0) k = k (.str x.1) := fun k => by rw [← hp]; exact a0 pre x r
    have q1 : ∀ {γ : Type} (k : D → Option γ), cellK (arsC h.areas) (Int.toNat (pre.length : Int) * 2 + 1) k = k (.slc x.2.1 x.2.2.length (ptsC x.2.2)) := fun k => by rw [← hp]; exact a1 pre x r
    rw [F16_58_eq, e1, ifK_true, e2, chkK_true, q1, slcK_slc, chkK_true, q0, strK_str, e3, ih, List.all_cons]
    unfold shA
    cases decide ((x.1.size : Int) > 60) <;> cases decide ((x.2.2.length : Int) > corners) <;> cases decide ((x.2.2.length : Int) ≤ 64) <;> cases decide ((x.2.2.length : Int) > 67) <;> rfl
theorem ok16 (h : Hl) (areas corners : Int) : OK2 16 [holeD h, .int .i64 areas, .int .i64 corners] (.bool (shH h areas corners)) := by
  refine fnT none_ok Tryz.func16 (ord := O0) (N := N16) (by kernel_rfl) ((F16_eq _ _ _ h.name h.tee.1 h.tee.2 h.cup.1 h.cup.2 h.lf h.line.length (ptsC h.line) h.af h.areas.length (arsC h.areas) areas corners).trans ?_)
  have key : decide ((h.areas.length : Int) > 35) = false → F16_7 (callOf fun _ _ => none) LL C1 corners h.name h.tee.1 h.tee.2 h.cup.1 h.cup.2 h.lf h.line.length (ptsC h.line) h.af h.areas.length (arsC h.areas) = some (.bool (h.areas.all (shA corners))) := fun hd => by
    rw [F16_7_eq (C := C1) (hC := fun _ => rfl)]
    have : h.areas.length ≤ 35 := by simp at hd; omega
    exact go16 (by omega) h.areas [] LL rfl (by unfold LL; omega)
  unfold shH
  cases hd : decide ((h.areas.length : Int) > 35)
  · rw [key hd]
    cases decide ((h.name.size : Int) > 60) <;> cases decide ((h.line.length : Int) > 19) <;> cases decide ((h.areas.length : Int) > areas) <;> cases decide ((h.areas.length : Int) ≤ 32) <;> rfl
  · cases decide ((h.name.size : Int) > 60) <;> cases decide ((h.line.length : Int) > 19) <;> cases decide ((h.areas.length : Int) > areas) <;> cases decide ((h.areas.length : Int) ≤ 32) <;> rfl
end Go.Pd
end
section
namespace Go.Pd
open Go Go.Proofs Go.RowKit
set_option maxRecDepth 100000
theorem rd_hole {γ : Type} (h : Hl) (k : ByteArray → Int → Int → Int → Int → Bool → Nat → List D → Bool → Nat → List D → Option γ) :
    (aggK (holeD h) 7 fun c => cellK c 0 fun d => strK d fun s => cellK c 1 fun d1 => intK .i64 d1 fun x => cellK c 2 fun d2 => intK .i64 d2 fun x1 => cellK c 3 fun d3 => intK .i64 d3 fun x2 => cellK c 4 fun d4 => intK .i64 d4 fun x3 => cellK c 5 fun d5 => slcK d5 fun f n c1 => cellK c 6 fun d6 => slcK d6 fun f1 n1 c2 => k s x x1 x2 x3 f n c1 f1 n1 c2) =
      k h.name h.tee.1 h.tee.2 h.cup.1 h.cup.2 h.lf h.line.length (ptsC h.line) h.af h.areas.length (arsC h.areas) := rfl
theorem rd_errLoc {γ : Type} (e : Int) (x : ByteArray × Int) (k : ByteArray → Int → Int → Option γ) :
    (tupK (errLoc e x) 3 fun c => cellK c 0 fun d => strK d fun s => cellK c 1 fun d' => intK .i64 d' fun y => cellK c 2 fun d'' => intK .i64 d'' fun z => k s y z) = k (ifK (e != 0) (ByteArray.mk #[]) x.1) (ifK (e != 0) 0 x.2) e := by
  unfold errLoc
  by_cases he : e = 0
  · subst he
    rfl
  · rw [show (e != 0) = true by simpa using he]
    rfl
theorem rd_errOr {α : Type} (e x : Int) (k : Int → Int → Option α) : (tupK (errOr e x) 2 fun c => cellK c 0 fun d => intK .i64 d fun a => cellK c 1 fun d' => intK .i64 d' fun b => k a b) = k (ifK (e != 0) 0 x) e := rfl
theorem shH_ok {h : Hl} {areas corners : Int} (hs : shH h areas corners = true) : h.Ok := by
  have hall : (ifK (decide ((h.areas.length : Int) > 35)) false (h.areas.all (shA corners))) = true ∧ decide ((h.name.size : Int) > 60) = false ∧ decide ((h.line.length : Int) > 19) = false := by
    unfold shH at hs
    cases h1 : decide ((h.name.size : Int) > 60)
    · cases h2 : decide ((h.line.length : Int) > 19)
      · rw [h1, h2, ifK_false, ifK_false] at hs
        refine ⟨?_, rfl, rfl⟩
        cases h3 : decide ((h.areas.length : Int) > areas)
        · rw [h3, ifK_false] at hs; exact hs
        · rw [h3, ifK_true] at hs
          cases h4 : decide ((h.areas.length : Int) ≤ 32)
          · rw [h4, ifK_false] at hs; exact hs
          · rw [h4, ifK_true] at hs; cases hs
      · rw [h1, h2, ifK_false, ifK_true] at hs; cases hs
    · rw [h1, ifK_true] at hs; cases hs
  obtain ⟨h1, h2, h3⟩ := hall
  cases h4 : decide ((h.areas.length : Int) > 35)
  · rw [h4, ifK_false] at h1
    simp only [decide_eq_false_iff_not] at h2 h3 h4
    refine ⟨by omega, by omega, by omega, fun a ha => ?_⟩
    have h5 := List.all_eq_true.1 h1 a ha
    unfold shA at h5
    cases h6 : decide ((a.2.2.length : Int) > 67)
    · simp only [decide_eq_false_iff_not] at h6; omega
    · rw [h6] at h5
      revert h5
      cases decide ((a.1.size : Int) > 60) <;> cases decide ((a.2.2.length : Int) > corners) <;> cases decide ((a.2.2.length : Int) ≤ 64) <;> (intro h5; cases h5)
  · rw [h4, ifK_true] at h1; cases h1
theorem ownH_ok {h : Hl} (hk : h.Ok) : (ownH h).Ok := ⟨hk.n, hk.l, hk.a, hk.c⟩
theorem seqB_self (s : ByteArray) : (ByteArray.toList s == ByteArray.toList s) = true := beq_self_eq_true _
end Go.Pd
end
section
namespace Go.Pd
open Go Go.Proofs Go.RowKit
set_option maxRecDepth 100000
theorem ty_struct5 {P : Program} {n : Nat} {t : TypeId} {ds : List D} {fs : Array Field} {f1 f2 f3 f4 f5 : Field} (hu : P.underlying t = some (.struct fs)) (hfs : fs.toList = [f1, f2, f3, f4, f5]) (h : Ty P (n + 1) t ds) :
    ∃ g1 g2 g3 g4 g5, ds = g1 ++ g2 ++ g3 ++ g4 ++ g5 ∧ Ty P n f1.type g1 ∧ Ty P n f2.type g2 ∧ Ty P n f3.type g3 ∧ Ty P n f4.type g4 ∧ Ty P n f5.type g5 := by
  unfold Ty at h; rw [hu] at h
  obtain ⟨gs, h1, h2, h3⟩ := h
  have hl : gs.length = 5 := by rw [h2, ← Array.length_toList, hfs]; rfl
  match gs, hl with
  | [g1, g2, g3, g4, g5], _ => exact ⟨g1, g2, g3, g4, g5, by rw [h1]; simp, h3 0 f1 g1 (by rw [hfs]; rfl) rfl, h3 1 f2 g2 (by rw [hfs]; rfl) rfl, h3 2 f3 g3 (by rw [hfs]; rfl) rfl, h3 3 f4 g4 (by rw [hfs]; rfl) rfl, h3 4 f5 g5 (by rw [hfs]; rfl) rfl⟩
theorem ty_area {n : Nat} {c : List D} (h : Ty Tryz.prog (n + 4) 84 c) : ∃ a : Ar, c = arC a := by
  obtain ⟨g1, g2, rfl, h1, h2⟩ := ty_struct2 Tryz.underlying84 rfl h
  obtain ⟨s, rfl, _⟩ := ty_str Tryz.underlying9 h1
  obtain ⟨l, rfl⟩ := ty_pts h2
  exact ⟨(s, false, l), rfl⟩
theorem ty_hole {n : Nat} {c : List D} (h : Ty Tryz.prog (n + 6) 27 c) : ∃ h : Hl, c = h.cells := by
  obtain ⟨g1, g2, g3, g4, g5, rfl, h1, h2, h3, h4, h5⟩ := ty_struct5 Tryz.underlying27 rfl h
  obtain ⟨s, rfl, _⟩ := ty_str Tryz.underlying9 h1
  obtain ⟨p, rfl⟩ := ty_pt h2
  obtain ⟨q, rfl⟩ := ty_pt h3
  obtain ⟨l, rfl⟩ := ty_pts h4
  obtain ⟨gs, rfl, _, h6⟩ := ty_slice Tryz.underlying25 h5
  obtain ⟨ars, h7, h8⟩ := rows_of arC (p := Ty Tryz.prog (n + 4) 84) (fun d hd => ty_area hd) gs h6
  refine ⟨⟨s, p, q, false, l, false, ars⟩, ?_⟩
  rw [← h7, h8]
  rfl
end Go.Pd
end
section
namespace Go.Pd
open Go.RowKit Go.ChangeShapes Go.WideShapes
theorem len_boundJ {I : Nat → Prop} {w : World} {P : Program} {H : Type} {enc : TypeId × Value → H} {base : Nat} {spare : Nat → Bool} {held : Bool} {t e : TypeId} {fs : Array Field} {j : Nat} {f : Field} {v : Value} {dd : DataW H} {ps : List MemPlace}
    (hu : P.underlying t = some (.struct fs)) (hf : fs[j]? = some f) (hu2 : P.underlying f.type = some (.slice e)) (hc : P.cellsOf f.type = 1)
    (h : DataW.Trod enc P w base spare held t v dd ps) (hw : ∀ k ∈ dd.weights P t, k ≤ reachBytes) {cs : List D} {g : Bool} {m : Nat} {c : List D} (hr : RelC I w (.agg cs) v) (hcs : cs[f.offset]? = some (.slc g m c)) : m * P.bytesOf e ≤ reachBytes := by
  obtain ⟨fuel, hm⟩ := h
  obtain ⟨xs, n', _, hx, _, hxl, hget⟩ := DataW.trod_struct hu hm
  have hjlt : j < fs.size := (Array.getElem?_eq_some_iff.1 hf).1
  have h1 := hget j f hf
  cases hr with
  | agg _ vs hl hrr =>
    have hlt : f.offset < vs.size := by
      have := (List.getElem?_eq_some_iff.1 hcs).1
      omega
    have hv1 : (((Value.agg vs).cells).toList.drop f.offset).take (P.cellsOf f.type) = [vs[f.offset]] := by
      rw [hc]
      show (vs.toList.drop f.offset).take 1 = _
      rw [List.drop_eq_getElem_cons (by simpa using hlt)]
      simp
    rw [hv1, List.getElem?_eq_getElem (by omega)] at h1
    have hrel : RelC I w (.slc g m c) vs[f.offset] := hrr f.offset _ _ hcs (Array.getElem?_eq_getElem hlt)
    rcases Deep.open_slice hu2 h1 with ⟨hcs, _⟩ | ⟨a, len, cap, m', n, Dd, Pl, hcs, _, _, _, _, hxx, _⟩
    · simp only [List.cons.injEq, and_true] at hcs
      rw [hcs] at hrel
      cases hrel
      rw [Nat.zero_mul]
      exact Nat.zero_le _
    · simp only [List.cons.injEq, and_true] at hcs
      rw [hcs] at hrel
      cases hrel
      have hdd : dd = .agg (xs.map (·.1)) := (Prod.mk.inj hx).1
      have hmem : ((((List.range m).map Dd).length + ((List.range (m' - m)).map fun j => Dd (m + j)).length) * P.bytesOf e) ∈ dd.weights P t := by
        rw [hdd]
        simp only [DataW.weights, hu]
        refine DataW.weights_mem_each (j := j) (t := f.type) (d := .slice ((List.range m).map Dd) ((List.range (m' - m)).map fun j => Dd (m + j))) (by rw [List.getElem?_map, Array.getElem?_toList, hf]; rfl) ?_ _ (by simp [DataW.weights, hu2])
        rw [List.getElem?_map, List.getElem?_eq_getElem (by omega)]
        show some (xs[j]).1 = _
        rw [hxx]
      have := hw _ hmem
      rw [List.length_map, List.length_map, List.length_range, List.length_range] at this
      exact Nat.le_trans (Nat.mul_le_mul_right _ (Nat.le_add_right _ _)) this
theorem law_callWG {P : Program} {gl : Nat → Option D} (hl : laidOutB P = true) {f : FuncId} {fn : Func} {tb : TypeId} (hbool : P.underlying tb = some .bool) (hres : fn.resultTypes = #[tb])
    (hc : ∀ t ∈ fn.params.toList, carryB P t = true) {H : Type} (enc : TypeId × Value → H) {s : ChangeSpec} (hvars : s.vars = []) (hfn : ∀ ds : List (DataW H), ds.length = fn.params.toList.length → s.fn H (ds ++ []) = { results := [.lit (.bool true)], args := ds })
    (W : World) (args : Array Value) (ds gs : List (DataW H)) (before : List MemPlace) (hval : ∀ (j : Nat) t v, fn.params[j]? = some t → args[j]? = some v → Value.okWide P W .any 0 t v)
    (hW : DataW.Whole enc P fn.params.toList s.vars false W args.toList ds gs before)
    (hgl : Gl gl (fun b => b < W.heap.size) W) (hplain : ∀ cs, AllTy P 12 fn.params.toList cs → (∃ p, DataW.TrodAll enc P W 0 (fun _ => true) true fn.params.toList args.toList ds p) → (∀ (j : Nat) (d : D) (v : Value), (argsOf P fn.params.toList cs)[j]? = some d → args.toList[j]? = some v → RelC (fun b => b < W.heap.size) W d v) →
      CallOK P gl f (argsOf P fn.params.toList cs) (.bool true)) :
    Calls P f args W fun e W' => ∃ v, e = .returned v ∧ s.post enc P fn false true false false W args v W' := by
  have hW0 := hW
  obtain ⟨p, q, hA, hV, rfl, hfz, hnd⟩ := hW
  rw [hvars] at hV
  have hq : gs = [] ∧ q = [] := by
    cases gs with
    | nil => exact ⟨rfl, hV⟩
    | cons => exact hV.elim
  obtain ⟨rfl, rfl⟩ := hq
  have hf12 : ∀ t ∈ fn.params.toList, flatB P 12 t = true := fun t ht => by
    have := hc t ht
    simp only [carryB, Bool.and_eq_true] at this
    exact this.2
  obtain ⟨cs, c1, c2, c3⟩ := args_ty (I := fun b => b < W.heap.size) (w := W) (fun b hb => hb) _ _ _ _ hf12 (fun j t v ht hv => hval j t v (by simpa using ht) (by simpa using hv)) hA
  have hlen : ds.length = fn.params.toList.length := by
    clear hW0 hplain c1 c2 c3 hval hfz hnd
    have key : ∀ (ts : List TypeId) (vs : List Value) (ds : List (DataW H)) (ps : List MemPlace), DataW.TrodAll enc P W 0 (fun _ => true) true ts vs ds ps → ds.length = ts.length := by
      intro ts
      induction ts with
      | nil => intro vs ds ps h; obtain ⟨_, rfl, _⟩ := trodAll_nil h; rfl
      | cons t ts ih =>
        intro vs ds ps h
        obtain ⟨v, vs1, d, ds1, a, b, rfl, rfl, rfl, h1, h2⟩ := trodAll_cons h
        simp [ih _ _ _ h2]
    exact key _ _ _ _ hA
  have hcall := hplain cs c1 ⟨p, hA⟩ c3
  have hF := hcall.2 (fun b => b < W.heap.size) W args (fun b hb => hb) hgl (by simpa using c2) (fun j d v hd hv => c3 j d v hd (by simpa using hv))
  refine hF.mono fun e W' ⟨v, he, hr, hb⟩ => ?_
  have hvt : v = .bool true := (RelV.clo (A := fun _ _ => none) (G := fun _ => 0) hr).bool_inv
  subst hvt
  have hold : ∀ x ∈ p ++ [], x.block < W.heap.size := fun x hx => by simpa using hW0.lt x hx
  have hs := hfn ds hlen
  refine ⟨_, he, ds, [], p ++ [], [], p, [], hW0, ?_, ?_, ?_, hb.frame _, fun h => by cases h⟩
  · rw [hs, hres]
    exact trodAll_cons_mk (shut_bool hbool _) trodAll_mk0
  · rw [hs]
    exact trodAll_carry hl hb _ _ _ _ hc hA fun x hx => hold x (by simpa using hx)
  · rw [hs, hvars]
    rfl
end Go.Pd
end
