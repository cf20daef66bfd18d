/-
  Chapter 2: the place of relief is the nearest one.
  Chapter 2: the law of nearness, as equations.
  CourseNearest: the place of relief is the nearest one that fits.
-/
import Derived.Test.YtmhbhlbnlmbhlaaGreatDoorCrL
import Derived.Test.YtmhbhlbnlmbhlaaGreatDoorCrA
import Derived.KernelRfl
import Derived.Test.YtmhbhlbnlmbhlaaGreatDoorCrN
import Derived.Test.YtmhbhlbnlmbhlaaGreatDoorCrI
section
namespace Go.Pd
open Go Go.Proofs Go.RowKit
set_option maxRecDepth 100000
def lexLt (a b : Pt) : Prop := a.1 < b.1 ∨ (a.1 = b.1 ∧ a.2 < b.2)
section
variable {h : Hl} {p : Pt} {kind : ByteArray} {reach : Int}
def fitR (h : Hl) (p : Pt) (kind : ByteArray) (reach : Int) (q : Pt) : Bool := ifK (decide (sqW q p > w64 (reach * reach))) false (ifK (outP q) false (ifK (decide (sqW q h.cup < sqW p h.cup)) false (ifK (!seqB (locP h q).1 kind) (!seqB (locP h q).1 outS) false)))
def Bet (p b q : Pt) : Prop := sqW b p < sqW q p ∨ (sqW b p = sqW q p ∧ (b = q ∨ lexLt b q))
structure Best (h : Hl) (p : Pt) (kind : ByteArray) (reach : Int) (seen : List Pt) (S : Bool × Pt) : Prop where
  n : S.1 = false → ∀ q ∈ seen, fitR h p kind reach q = false
  s : S.1 = true → S.2 ∈ seen ∧ fitR h p kind reach S.2 = true ∧ ∀ q ∈ seen, fitR h p kind reach q = true → Bet p S.2 q
end
section
variable {h : Hl} {p : Pt} {kind : ByteArray} {reach : Int}
end
end Go.Pd
end
section
namespace Go.Pd
open Go Go.Proofs
set_option maxRecDepth 100000
theorem F43_eq (call : CL) (L : Nat) (C : Nat → Nat) (z : ByteArray) (J K M O : Int) (U : Bool) (V : Nat) (S : List D) (X : Bool) (Y : Nat) (W : List D) (Z a0 : Int) : evFnT (TEf call L C) O0 N0 FinM.canon Tryz.f43 [D.agg [D.str z, D.int .i64 J, D.int .i64 K, D.int .i64 M, D.int .i64 O, D.slc U V S, D.slc X Y W], D.int .i64 Z, D.int .i64 a0] =
 (optK (call 16 [D.agg [D.str z, D.int .i64 J, D.int .i64 K, D.int .i64 M, D.int .i64 O, D.slc U V S, D.slc X Y W], D.int .i64 Z, D.int .i64 a0]) fun r =>
 (boolK r fun b =>
 (ifK b
 (optK (call 18 [D.agg [D.str z, D.int .i64 J, D.int .i64 K, D.int .i64 M, D.int .i64 O, D.slc U V S, D.slc X Y W]]) fun a1 =>
 (intK .i64 a1 fun x =>
 (some (D.bool (x == 0)))))
 (some (D.bool false))))) := by kernel_rfl
end Go.Pd
end
section
namespace Go.Pd
open Go Go.Proofs Go.RowKit
set_option maxRecDepth 100000
theorem okf43 : okFn Tryz.prog O0 Tryz.f43 = true := by kernel_rfl
theorem ok43n (h : Hl) (a c : Int) (hs : shH h a c = false) : OK2 43 [holeD h, .int .i64 a, .int .i64 c] (.bool false) := by
  obtain ⟨B, hb, e⟩ := one_call (ok16 h a c) rfl
  refine fnT hb Tryz.func43 (ord := O0) (N := N0) okf43 ((F43_eq _ _ _ h.name h.tee.1 h.tee.2 h.cup.1 h.cup.2 h.lf h.line.length (ptsC h.line) h.af h.areas.length (arsC h.areas) a c).trans (opt_step e ?_))
  rw [boolK_bool, hs]
  rfl
theorem ok43 (h : Hl) (hk : h.Ok) (a c : Int) (hs : shH h a c = true) : OK2 43 [holeD h, .int .i64 a, .int .i64 c] (.bool (refHole h == 0)) := by
  obtain ⟨B, hb, e16, e18, _⟩ := exF [one 16 [holeD h, .int .i64 a, .int .i64 c] (.bool (shH h a c)), one 18 [holeD h] (.int .i64 (refHole h))] ⟨one_good (ok16 h a c) rfl, one_good (ok18 h hk) rfl, trivial⟩ rfl
  refine fnT hb Tryz.func43 (ord := O0) (N := N0) okf43 ((F43_eq _ _ _ h.name h.tee.1 h.tee.2 h.cup.1 h.cup.2 h.lf h.line.length (ptsC h.line) h.af h.areas.length (arsC h.areas) a c).trans (opt_step (x := D.bool (shH h a c)) (e16 ()) ?_))
  rw [boolK_bool, hs, ifK_true]
  exact opt_step (x := D.int .i64 (refHole h)) (e18 ()) (int_step rfl)
def fitL (h : Hl) (p : Pt) (kind : ByteArray) (reach : Int) (r : Pt) (k : ByteArray) : Bool := ifK (decide (sqW r p ≤ w64 (reach * reach))) (ifK (!seqB k kind) (ifK (!seqB k outS) (decide (sqW r h.cup ≥ sqW p h.cup)) false) false) false
section
variable {call : CL} {h : Hl} {p q : Pt} {kind : ByteArray} {reach : Int}
structure NearC (call : CL) (h : Hl) (p q : Pt) (kind : ByteArray) (reach : Int) : Prop where
  c17 : call 17 [] = some (.bool true)
  c24 : ∀ p : Pt, call 24 [ptD p] = some (.int .i64 (ifK (outP p) 3 0))
  c19 : ∀ r : Pt, outP r = false → call 19 [holeD h, ptD r] = some (.tup [.str (locP h r).1, .int .i64 (locP h r).2, .int .i64 0])
  c34 : ∀ n : Int, 0 ≤ n → n ≤ 20 → call 34 [holeD h, ptD p, .str kind, .int .i64 n] = some (.tup [ptD (relS h p kind n).2, .int .i64 (ifK (!(relS h p kind n).1) 7 0)])
  c46 : ∀ (r : Pt) (k : ByteArray), call 46 [ptD r, .str k, .snap [.int .i64 p.1, .int .i64 p.2, .int .i64 q.1, .int .i64 q.2, .str kind] 0, .snap [.int .i64 reach] 0, holeS h] = some (.bool (fitL h p kind reach r k))
  c47 : ∀ a b : Pt, call 47 [ptD a, ptD b] = some (.int .i64 (sqW a b))
end
end Go.Pd
end
